import PyProof.Rows.All
import Wide.All
import OpenK.AllK
import Wide.FinOn
import Open.SpecLaws
import KE.OsGo
import KE.HD4
import HandS.ForSpec
import HandS.Defaults
import HandS.HeadHook1
import HandS.HeadHook2
import HandS.HeadHook4
import PySem.Challenge.RW_pagedots_s01_answers
import HandS.ForMost
import HandS.Exc
import HandS.ExcOwn
import HandS.TryMany
import HandS.WordsExc
import HandS.Wide
import HandS.WideBits
import HandS.Zip
import HandS.Walk
import HandS.Small
import HandS.Evl
import VdDots
import WrvdotSpec
import HandS.Head2
section
set_option Elab.async false
set_option linter.all false
set_option maxRecDepth 100000
set_option maxHeartbeats 4000000
/-! The text by places, the facts of the head by names (printed by gen_text.py) -/
namespace Pd
open PySem PySem.Spec PyProof.Rows L2
abbrev Prg : Program := PySem.Challenge.pw_pagedots_s01_answers
def top (i : Nat) : Stmt := Prg.main.body.getD i (.Pass ⟨0, 0, 0, 0⟩)
abbrev s_is_far : Stmt := top 5
abbrev s_is_path : Stmt := top 6
abbrev s_are_stops : Stmt := top 7
abbrev s_are_six : Stmt := top 8
abbrev s_mul : Stmt := top 10
abbrev s_parts_of : Stmt := top 11
abbrev s_laid_on : Stmt := top 12
abbrev s_nothing : Stmt := top 13
abbrev s_alone : Stmt := top 15
abbrev s_hard : Stmt := top 16
abbrev s_blended : Stmt := top 17
abbrev s_mixed : Stmt := top 18
abbrev s_place_at : Stmt := top 24
abbrev s_contours_of : Stmt := top 25
abbrev s_covered_rows : Stmt := top 27
abbrev s_mean_part : Stmt := top 29
abbrev s_members_onto : Stmt := top 32
abbrev s_dot_of : Stmt := top 33
abbrev s_spread : Stmt := top 36
abbrev s_whole_root : Stmt := top 39
abbrev s_brought_in : Stmt := top 48
abbrev s_shade_of : Stmt := top 64
abbrev s_call_clear : Stmt := top 67
abbrev s_call_picture : Stmt := top 68
abbrev s_call_plain : Stmt := top 69
abbrev s_call_linear : Stmt := top 70
abbrev s_call_radial : Stmt := top 71
abbrev s_call_pictured : Stmt := top 72
abbrev s_call_clip : Stmt := top 73
abbrev s_call_unclip : Stmt := top 74
abbrev s_call_group : Stmt := top 75
abbrev s_call_end : Stmt := top 76
abbrev s_call_mark : Stmt := top 77
abbrev s_call_dots : Stmt := top 78
abbrev s_answer_of : Stmt := top 80
abbrev s_answers : Stmt := top 81
abbrev s_Arguments_init : Stmt := inClass (top 1) 0
abbrev s_Arguments_are_left : Stmt := inClass (top 1) 1
abbrev s_Arguments_take : Stmt := inClass (top 1) 2
abbrev s_Arguments_take_list : Stmt := inClass (top 1) 3
abbrev s_Arguments_take_place : Stmt := inClass (top 1) 4
abbrev s_Arguments_take_stops : Stmt := inClass (top 1) 5
abbrev s_Arguments_take_path : Stmt := inClass (top 1) 6
abbrev s_Shape_init : Stmt := inClass (top 26) 0
abbrev s_Shape_put_side : Stmt := inClass (top 26) 1
abbrev s_Shape_row_within : Stmt := inClass (top 26) 2
abbrev s_Shape_meet_level : Stmt := inClass (top 26) 3
abbrev s_Shape_meet_slanted : Stmt := inClass (top 26) 4
abbrev s_Mark_init : Stmt := inClass (top 30) 0
abbrev s_Mark_brings : Stmt := inClass (top 30) 1
abbrev s_Group_init : Stmt := inClass (top 31) 0
abbrev s_Group_brings : Stmt := inClass (top 31) 1
abbrev s_Shade_init : Stmt := inClass (top 37) 0
abbrev s_Shade_shade_at : Stmt := inClass (top 37) 1
abbrev s_Shade_parts_at : Stmt := inClass (top 37) 2
abbrev s_Plain_init : Stmt := inClass (top 40) 0
abbrev s_Plain_gives : Stmt := inClass (top 40) 1
abbrev s_Linear_init : Stmt := inClass (top 41) 0
abbrev s_Linear_gives : Stmt := inClass (top 41) 1
abbrev s_Radial_init : Stmt := inClass (top 42) 0
abbrev s_Radial_gives : Stmt := inClass (top 42) 1
abbrev s_Picture_init : Stmt := inClass (top 49) 0
abbrev s_Picture_colour_in : Stmt := inClass (top 49) 1
abbrev s_Pictured_init : Stmt := inClass (top 50) 0
abbrev s_Pictured_gives : Stmt := inClass (top 50) 1
abbrev s_Pictured_smoothed : Stmt := inClass (top 50) 2
abbrev s_Layer_init : Stmt := inClass (top 63) 0
abbrev s_Canvas_init : Stmt := inClass (top 65) 0
abbrev s_Canvas_clear_page : Stmt := inClass (top 65) 1
abbrev s_Canvas_add_picture : Stmt := inClass (top 65) 2
abbrev s_Canvas_add_paint : Stmt := inClass (top 65) 3
abbrev s_Canvas_add_plain : Stmt := inClass (top 65) 4
abbrev s_Canvas_add_linear : Stmt := inClass (top 65) 5
abbrev s_Canvas_add_radial : Stmt := inClass (top 65) 6
abbrev s_Canvas_add_pictured : Stmt := inClass (top 65) 7
abbrev s_Canvas_begin_clip : Stmt := inClass (top 65) 8
abbrev s_Canvas_end_clip : Stmt := inClass (top 65) 9
abbrev s_Canvas_begin_group : Stmt := inClass (top 65) 10
abbrev s_Canvas_end_group : Stmt := inClass (top 65) 11
abbrev s_Canvas_add_mark : Stmt := inClass (top 65) 12
abbrev s_Canvas_draw_dots : Stmt := inClass (top 65) 13
/-! ### the defs as data -/
def d_is_far : He.DefD := ⟨("is_far", none), "is_far", "is_far", defArgs s_is_far, defBody s_is_far, defScope s_is_far, [], []⟩
def d_is_path : He.DefD := ⟨("is_path", none), "is_path", "is_path", defArgs s_is_path, defBody s_is_path, defScope s_is_path, [], []⟩
def d_are_stops : He.DefD := ⟨("are_stops", none), "are_stops", "are_stops", defArgs s_are_stops, defBody s_are_stops, defScope s_are_stops, [], []⟩
def d_are_six : He.DefD := ⟨("are_six", none), "are_six", "are_six", defArgs s_are_six, defBody s_are_six, defScope s_are_six, [], []⟩
def d_mul : He.DefD := ⟨("mul", none), "mul", "mul", defArgs s_mul, defBody s_mul, defScope s_mul, [], []⟩
def d_parts_of : He.DefD := ⟨("parts_of", none), "parts_of", "parts_of", defArgs s_parts_of, defBody s_parts_of, defScope s_parts_of, [], []⟩
def d_laid_on : He.DefD := ⟨("laid_on", none), "laid_on", "laid_on", defArgs s_laid_on, defBody s_laid_on, defScope s_laid_on, [], []⟩
def d_nothing : He.DefD := ⟨("nothing", none), "nothing", "nothing", defArgs s_nothing, defBody s_nothing, defScope s_nothing, [], []⟩
def d_alone : He.DefD := ⟨("alone", none), "alone", "alone", defArgs s_alone, defBody s_alone, defScope s_alone, [], []⟩
def d_hard : He.DefD := ⟨("hard", none), "hard", "hard", defArgs s_hard, defBody s_hard, defScope s_hard, [], []⟩
def d_blended : He.DefD := ⟨("blended", none), "blended", "blended", defArgs s_blended, defBody s_blended, defScope s_blended, [], []⟩
def d_mixed : He.DefD := ⟨("mixed", none), "mixed", "mixed", defArgs s_mixed, defBody s_mixed, defScope s_mixed, [], []⟩
def d_place_at : He.DefD := ⟨("place_at", none), "place_at", "place_at", defArgs s_place_at, defBody s_place_at, defScope s_place_at, [], []⟩
def d_contours_of : He.DefD := ⟨("contours_of", none), "contours_of", "contours_of", defArgs s_contours_of, defBody s_contours_of, defScope s_contours_of, [], []⟩
def d_covered_rows : He.DefD := ⟨("covered_rows", none), "covered_rows", "covered_rows", defArgs s_covered_rows, defBody s_covered_rows, defScope s_covered_rows, [], []⟩
def d_mean_part : He.DefD := ⟨("mean_part", none), "mean_part", "mean_part", defArgs s_mean_part, defBody s_mean_part, defScope s_mean_part, [], []⟩
def d_members_onto : He.DefD := ⟨("members_onto", none), "members_onto", "members_onto", defArgs s_members_onto, defBody s_members_onto, defScope s_members_onto, [], []⟩
def d_dot_of : He.DefD := ⟨("dot_of", none), "dot_of", "dot_of", defArgs s_dot_of, defBody s_dot_of, defScope s_dot_of, [], []⟩
def d_spread : He.DefD := ⟨("spread", none), "spread", "spread", defArgs s_spread, defBody s_spread, defScope s_spread, [], []⟩
def d_whole_root : He.DefD := ⟨("whole_root", none), "whole_root", "whole_root", defArgs s_whole_root, defBody s_whole_root, defScope s_whole_root, [], []⟩
def d_brought_in : He.DefD := ⟨("brought_in", none), "brought_in", "brought_in", defArgs s_brought_in, defBody s_brought_in, defScope s_brought_in, [], []⟩
def d_shade_of : He.DefD := ⟨("shade_of", none), "shade_of", "shade_of", defArgs s_shade_of, defBody s_shade_of, defScope s_shade_of, [], []⟩
def d_call_clear : He.DefD := ⟨("call_clear", none), "call_clear", "call_clear", defArgs s_call_clear, defBody s_call_clear, defScope s_call_clear, [], []⟩
def d_call_picture : He.DefD := ⟨("call_picture", none), "call_picture", "call_picture", defArgs s_call_picture, defBody s_call_picture, defScope s_call_picture, [], []⟩
def d_call_plain : He.DefD := ⟨("call_plain", none), "call_plain", "call_plain", defArgs s_call_plain, defBody s_call_plain, defScope s_call_plain, [], []⟩
def d_call_linear : He.DefD := ⟨("call_linear", none), "call_linear", "call_linear", defArgs s_call_linear, defBody s_call_linear, defScope s_call_linear, [], []⟩
def d_call_radial : He.DefD := ⟨("call_radial", none), "call_radial", "call_radial", defArgs s_call_radial, defBody s_call_radial, defScope s_call_radial, [], []⟩
def d_call_pictured : He.DefD := ⟨("call_pictured", none), "call_pictured", "call_pictured", defArgs s_call_pictured, defBody s_call_pictured, defScope s_call_pictured, [], []⟩
def d_call_clip : He.DefD := ⟨("call_clip", none), "call_clip", "call_clip", defArgs s_call_clip, defBody s_call_clip, defScope s_call_clip, [], []⟩
def d_call_unclip : He.DefD := ⟨("call_unclip", none), "call_unclip", "call_unclip", defArgs s_call_unclip, defBody s_call_unclip, defScope s_call_unclip, [], []⟩
def d_call_group : He.DefD := ⟨("call_group", none), "call_group", "call_group", defArgs s_call_group, defBody s_call_group, defScope s_call_group, [], []⟩
def d_call_end : He.DefD := ⟨("call_end", none), "call_end", "call_end", defArgs s_call_end, defBody s_call_end, defScope s_call_end, [], []⟩
def d_call_mark : He.DefD := ⟨("call_mark", none), "call_mark", "call_mark", defArgs s_call_mark, defBody s_call_mark, defScope s_call_mark, [], []⟩
def d_call_dots : He.DefD := ⟨("call_dots", none), "call_dots", "call_dots", defArgs s_call_dots, defBody s_call_dots, defScope s_call_dots, [], []⟩
def d_answer_of : He.DefD := ⟨("answer_of", none), "answer_of", "answer_of", defArgs s_answer_of, defBody s_answer_of, defScope s_answer_of, [], []⟩
def d_answers : He.DefD := ⟨("answers", none), "answers", "answers", defArgs s_answers, defBody s_answers, defScope s_answers, [], []⟩
def d_Arguments_init : He.DefD := ⟨("Arguments", some "__init__"), "__init__", "Arguments.__init__", defArgs s_Arguments_init, defBody s_Arguments_init, defScope s_Arguments_init, [], []⟩
def d_Arguments_are_left : He.DefD := ⟨("Arguments", some "are_left"), "are_left", "Arguments.are_left", defArgs s_Arguments_are_left, defBody s_Arguments_are_left, defScope s_Arguments_are_left, [], []⟩
def d_Arguments_take : He.DefD := ⟨("Arguments", some "take"), "take", "Arguments.take", defArgs s_Arguments_take, defBody s_Arguments_take, defScope s_Arguments_take, [], []⟩
def d_Arguments_take_list : He.DefD := ⟨("Arguments", some "take_list"), "take_list", "Arguments.take_list", defArgs s_Arguments_take_list, defBody s_Arguments_take_list, defScope s_Arguments_take_list, [], []⟩
def d_Arguments_take_place : He.DefD := ⟨("Arguments", some "take_place"), "take_place", "Arguments.take_place", defArgs s_Arguments_take_place, defBody s_Arguments_take_place, defScope s_Arguments_take_place, [], []⟩
def d_Arguments_take_stops : He.DefD := ⟨("Arguments", some "take_stops"), "take_stops", "Arguments.take_stops", defArgs s_Arguments_take_stops, defBody s_Arguments_take_stops, defScope s_Arguments_take_stops, [], []⟩
def d_Arguments_take_path : He.DefD := ⟨("Arguments", some "take_path"), "take_path", "Arguments.take_path", defArgs s_Arguments_take_path, defBody s_Arguments_take_path, defScope s_Arguments_take_path, [], []⟩
def d_Shape_init : He.DefD := ⟨("Shape", some "__init__"), "__init__", "Shape.__init__", defArgs s_Shape_init, defBody s_Shape_init, defScope s_Shape_init, [], []⟩
def d_Shape_put_side : He.DefD := ⟨("Shape", some "put_side"), "put_side", "Shape.put_side", defArgs s_Shape_put_side, defBody s_Shape_put_side, defScope s_Shape_put_side, [], []⟩
def d_Shape_row_within : He.DefD := ⟨("Shape", some "row_within"), "row_within", "Shape.row_within", defArgs s_Shape_row_within, defBody s_Shape_row_within, defScope s_Shape_row_within, [], []⟩
def d_Shape_meet_level : He.DefD := ⟨("Shape", some "meet_level"), "meet_level", "Shape.meet_level", defArgs s_Shape_meet_level, defBody s_Shape_meet_level, defScope s_Shape_meet_level, [], []⟩
def d_Shape_meet_slanted : He.DefD := ⟨("Shape", some "meet_slanted"), "meet_slanted", "Shape.meet_slanted", defArgs s_Shape_meet_slanted, defBody s_Shape_meet_slanted, defScope s_Shape_meet_slanted, [], []⟩
def d_Mark_init : He.DefD := ⟨("Mark", some "__init__"), "__init__", "Mark.__init__", defArgs s_Mark_init, defBody s_Mark_init, defScope s_Mark_init, [], []⟩
def d_Mark_brings : He.DefD := ⟨("Mark", some "brings"), "brings", "Mark.brings", defArgs s_Mark_brings, defBody s_Mark_brings, defScope s_Mark_brings, [], []⟩
def d_Group_init : He.DefD := ⟨("Group", some "__init__"), "__init__", "Group.__init__", defArgs s_Group_init, defBody s_Group_init, defScope s_Group_init, [], []⟩
def d_Group_brings : He.DefD := ⟨("Group", some "brings"), "brings", "Group.brings", defArgs s_Group_brings, defBody s_Group_brings, defScope s_Group_brings, [], []⟩
def d_Shade_init : He.DefD := ⟨("Shade", some "__init__"), "__init__", "Shade.__init__", defArgs s_Shade_init, defBody s_Shade_init, defScope s_Shade_init, [], []⟩
def d_Shade_shade_at : He.DefD := ⟨("Shade", some "shade_at"), "shade_at", "Shade.shade_at", defArgs s_Shade_shade_at, defBody s_Shade_shade_at, defScope s_Shade_shade_at, [], []⟩
def d_Shade_parts_at : He.DefD := ⟨("Shade", some "parts_at"), "parts_at", "Shade.parts_at", defArgs s_Shade_parts_at, defBody s_Shade_parts_at, defScope s_Shade_parts_at, [], []⟩
def d_Plain_init : He.DefD := ⟨("Plain", some "__init__"), "__init__", "Plain.__init__", defArgs s_Plain_init, defBody s_Plain_init, defScope s_Plain_init, [], []⟩
def d_Plain_gives : He.DefD := ⟨("Plain", some "gives"), "gives", "Plain.gives", defArgs s_Plain_gives, defBody s_Plain_gives, defScope s_Plain_gives, [], []⟩
def d_Linear_init : He.DefD := ⟨("Linear", some "__init__"), "__init__", "Linear.__init__", defArgs s_Linear_init, defBody s_Linear_init, defScope s_Linear_init, [], []⟩
def d_Linear_gives : He.DefD := ⟨("Linear", some "gives"), "gives", "Linear.gives", defArgs s_Linear_gives, defBody s_Linear_gives, defScope s_Linear_gives, [], []⟩
def d_Radial_init : He.DefD := ⟨("Radial", some "__init__"), "__init__", "Radial.__init__", defArgs s_Radial_init, defBody s_Radial_init, defScope s_Radial_init, [], []⟩
def d_Radial_gives : He.DefD := ⟨("Radial", some "gives"), "gives", "Radial.gives", defArgs s_Radial_gives, defBody s_Radial_gives, defScope s_Radial_gives, [], []⟩
def d_Picture_init : He.DefD := ⟨("Picture", some "__init__"), "__init__", "Picture.__init__", defArgs s_Picture_init, defBody s_Picture_init, defScope s_Picture_init, [], []⟩
def d_Picture_colour_in : He.DefD := ⟨("Picture", some "colour_in"), "colour_in", "Picture.colour_in", defArgs s_Picture_colour_in, defBody s_Picture_colour_in, defScope s_Picture_colour_in, [], []⟩
def d_Pictured_init : He.DefD := ⟨("Pictured", some "__init__"), "__init__", "Pictured.__init__", defArgs s_Pictured_init, defBody s_Pictured_init, defScope s_Pictured_init, [], []⟩
def d_Pictured_gives : He.DefD := ⟨("Pictured", some "gives"), "gives", "Pictured.gives", defArgs s_Pictured_gives, defBody s_Pictured_gives, defScope s_Pictured_gives, [], []⟩
def d_Pictured_smoothed : He.DefD := ⟨("Pictured", some "smoothed"), "smoothed", "Pictured.smoothed", defArgs s_Pictured_smoothed, defBody s_Pictured_smoothed, defScope s_Pictured_smoothed, [], []⟩
def d_Layer_init : He.DefD := ⟨("Layer", some "__init__"), "__init__", "Layer.__init__", defArgs s_Layer_init, defBody s_Layer_init, defScope s_Layer_init, [], []⟩
def d_Canvas_init : He.DefD := ⟨("Canvas", some "__init__"), "__init__", "Canvas.__init__", defArgs s_Canvas_init, defBody s_Canvas_init, defScope s_Canvas_init, [], []⟩
def d_Canvas_clear_page : He.DefD := ⟨("Canvas", some "clear_page"), "clear_page", "Canvas.clear_page", defArgs s_Canvas_clear_page, defBody s_Canvas_clear_page, defScope s_Canvas_clear_page, [], []⟩
def d_Canvas_add_picture : He.DefD := ⟨("Canvas", some "add_picture"), "add_picture", "Canvas.add_picture", defArgs s_Canvas_add_picture, defBody s_Canvas_add_picture, defScope s_Canvas_add_picture, [], []⟩
def d_Canvas_add_paint : He.DefD := ⟨("Canvas", some "add_paint"), "add_paint", "Canvas.add_paint", defArgs s_Canvas_add_paint, defBody s_Canvas_add_paint, defScope s_Canvas_add_paint, [], []⟩
def d_Canvas_add_plain : He.DefD := ⟨("Canvas", some "add_plain"), "add_plain", "Canvas.add_plain", defArgs s_Canvas_add_plain, defBody s_Canvas_add_plain, defScope s_Canvas_add_plain, [], []⟩
def d_Canvas_add_linear : He.DefD := ⟨("Canvas", some "add_linear"), "add_linear", "Canvas.add_linear", defArgs s_Canvas_add_linear, defBody s_Canvas_add_linear, defScope s_Canvas_add_linear, [], []⟩
def d_Canvas_add_radial : He.DefD := ⟨("Canvas", some "add_radial"), "add_radial", "Canvas.add_radial", defArgs s_Canvas_add_radial, defBody s_Canvas_add_radial, defScope s_Canvas_add_radial, [], []⟩
def d_Canvas_add_pictured : He.DefD := ⟨("Canvas", some "add_pictured"), "add_pictured", "Canvas.add_pictured", defArgs s_Canvas_add_pictured, defBody s_Canvas_add_pictured, defScope s_Canvas_add_pictured, [], []⟩
def d_Canvas_begin_clip : He.DefD := ⟨("Canvas", some "begin_clip"), "begin_clip", "Canvas.begin_clip", defArgs s_Canvas_begin_clip, defBody s_Canvas_begin_clip, defScope s_Canvas_begin_clip, [], []⟩
def d_Canvas_end_clip : He.DefD := ⟨("Canvas", some "end_clip"), "end_clip", "Canvas.end_clip", defArgs s_Canvas_end_clip, defBody s_Canvas_end_clip, defScope s_Canvas_end_clip, [], []⟩
def d_Canvas_begin_group : He.DefD := ⟨("Canvas", some "begin_group"), "begin_group", "Canvas.begin_group", defArgs s_Canvas_begin_group, defBody s_Canvas_begin_group, defScope s_Canvas_begin_group, [], []⟩
def d_Canvas_end_group : He.DefD := ⟨("Canvas", some "end_group"), "end_group", "Canvas.end_group", defArgs s_Canvas_end_group, defBody s_Canvas_end_group, defScope s_Canvas_end_group, [], []⟩
def d_Canvas_add_mark : He.DefD := ⟨("Canvas", some "add_mark"), "add_mark", "Canvas.add_mark", defArgs s_Canvas_add_mark, defBody s_Canvas_add_mark, defScope s_Canvas_add_mark, [], []⟩
def d_Canvas_draw_dots : He.DefD := ⟨("Canvas", some "draw_dots"), "draw_dots", "Canvas.draw_dots", defArgs s_Canvas_draw_dots, defBody s_Canvas_draw_dots, defScope s_Canvas_draw_dots, [], []⟩
def fn0 : List He.DefD := [d_is_far, d_is_path, d_are_stops, d_are_six, d_mul, d_parts_of, d_laid_on, d_nothing, d_alone, d_hard, d_blended, d_mixed, d_place_at, d_contours_of, d_covered_rows, d_mean_part, d_members_onto, d_dot_of, d_spread, d_whole_root, d_brought_in, d_shade_of, d_call_clear, d_call_picture, d_call_plain, d_call_linear, d_call_radial, d_call_pictured, d_call_clip, d_call_unclip]
def fn1 : List He.DefD := [d_call_group, d_call_end, d_call_mark, d_call_dots, d_answer_of, d_answers, d_Arguments_init, d_Arguments_are_left, d_Arguments_take, d_Arguments_take_list, d_Arguments_take_place, d_Arguments_take_stops, d_Arguments_take_path, d_Shape_init, d_Shape_put_side, d_Shape_row_within, d_Shape_meet_level, d_Shape_meet_slanted, d_Mark_init, d_Mark_brings, d_Group_init, d_Group_brings, d_Shade_init, d_Shade_shade_at, d_Shade_parts_at, d_Plain_init, d_Plain_gives, d_Linear_init, d_Linear_gives, d_Radial_init]
def fn2 : List He.DefD := [d_Radial_gives, d_Picture_init, d_Picture_colour_in, d_Pictured_init, d_Pictured_gives, d_Pictured_smoothed, d_Layer_init, d_Canvas_init, d_Canvas_clear_page, d_Canvas_add_picture, d_Canvas_add_paint, d_Canvas_add_plain, d_Canvas_add_linear, d_Canvas_add_radial, d_Canvas_add_pictured, d_Canvas_begin_clip, d_Canvas_end_clip, d_Canvas_begin_group, d_Canvas_end_group, d_Canvas_add_mark, d_Canvas_draw_dots]
def fn : List He.DefD := fn0 ++ fn1 ++ fn2
def fa0 : List He.Fa := [.glo "is_far", .glo "is_path", .glo "are_stops", .glo "are_six", .glo "mul", .glo "parts_of", .glo "laid_on", .glo "nothing", .glo "alone", .glo "hard", .glo "blended", .glo "mixed", .glo "place_at", .glo "contours_of", .glo "covered_rows", .glo "mean_part", .glo "members_onto", .glo "dot_of", .glo "spread", .glo "whole_root", .glo "brought_in", .glo "shade_of", .glo "call_clear", .glo "call_picture", .glo "call_plain", .glo "call_linear", .glo "call_radial", .glo "call_pictured", .glo "call_clip", .glo "call_unclip"]
def fa1 : List He.Fa := [.glo "call_group", .glo "call_end", .glo "call_mark", .glo "call_dots", .glo "answer_of", .glo "answers", .glo "Arguments", .glo "Shape", .glo "Mark", .glo "Group", .glo "Shade", .glo "Plain", .glo "Linear", .glo "Radial", .glo "Picture", .glo "Pictured", .glo "InvalidCall", .glo "LimitReached", .glo "GroupNotEnded", .glo "Layer", .glo "Canvas", .glo "CALLS", .free "len", .free "range", .free "zip", .free "enumerate", .free "sum", .free "any", .free "all", .free "sorted"]
def fa2 : List He.Fa := [.free "min", .free "max", .free "tuple", .free "list", .int "FAR" 1048576, .int "GREATEST_FACTOR" 1073741824, .int "DOT" 64, .int "PLACES" 16, .int "APART" 4, .int "FIRST" 2, .int "WHOLE_shades" 65536, .int "WHOLE_pictures" 65536, .int "NOTHING_BEYOND" 0, .int "NEAREST" 1, .int "AGAIN" 2, .int "MOST_PICTURES" 8, .int "MOST_COLOURS" 1024, .int "MOST_PAINTS" 32, .int "MOST_CLIPS" 4, .int "MOST_PIECES" 256, .int "MOST_GROUPS" 8, .int "MOST_MEMBERS" 32, .cls "Arguments", .mkr "Arguments", .noat "Arguments" "numbers", .noat "Arguments" "taken", .meth "Arguments" "are_left", .meth "Arguments" "take", .meth "Arguments" "take_list", .meth "Arguments" "take_place"]
def fa3 : List He.Fa := [.meth "Arguments" "take_stops", .meth "Arguments" "take_path", .cls "Shape", .mkr "Shape", .noat "Shape" "rule", .noat "Shape" "slanted", .noat "Shape" "level", .meth "Shape" "put_side", .meth "Shape" "row_within", .meth "Shape" "meet_level", .meth "Shape" "meet_slanted", .cls "Mark", .mkr "Mark", .noat "Mark" "shapes", .noat "Mark" "paint", .noat "Mark" "how", .meth "Mark" "brings", .cls "Group", .mkr "Group", .noat "Group" "members", .noat "Group" "clips", .noat "Group" "opacity", .noat "Group" "how", .meth "Group" "brings", .cls "Shade", .mkr "Shade", .noat "Shade" "how", .noat "Shade" "stops", .noat "Shade" "known", .meth "Shade" "shade_at"]
def fa4 : List He.Fa := [.meth "Shade" "parts_at", .cls "Plain", .mkr "Plain", .noat "Plain" "laid", .meth "Plain" "gives", .cls "Linear", .mkr "Linear", .noat "Linear" "a_x", .noat "Linear" "a_y", .noat "Linear" "across", .noat "Linear" "down", .noat "Linear" "square", .noat "Linear" "shade", .meth "Linear" "gives", .cls "Radial", .mkr "Radial", .noat "Radial" "m_x", .noat "Radial" "m_y", .noat "Radial" "radius", .noat "Radial" "shade", .meth "Radial" "gives", .cls "Picture", .mkr "Picture", .noat "Picture" "width", .noat "Picture" "height", .noat "Picture" "colours", .meth "Picture" "colour_in", .cls "Pictured", .mkr "Pictured", .noat "Pictured" "picture"]
def fa5 : List He.Fa := [.noat "Pictured" "how", .noat "Pictured" "smooth", .noat "Pictured" "six", .meth "Pictured" "gives", .meth "Pictured" "smoothed", .cls "Layer", .mkr "Layer", .noat "Layer" "opacity", .noat "Layer" "how", .noat "Layer" "members", .noat "Layer" "clips", .cls "Canvas", .mkr "Canvas", .noat "Canvas" "pictures", .noat "Canvas" "paints", .noat "Canvas" "layers", .noat "Canvas" "numbered", .noat "Canvas" "pieces", .meth "Canvas" "clear_page", .meth "Canvas" "add_picture", .meth "Canvas" "add_paint", .meth "Canvas" "add_plain", .meth "Canvas" "add_linear", .meth "Canvas" "add_radial", .meth "Canvas" "add_pictured", .meth "Canvas" "begin_clip", .meth "Canvas" "end_clip", .meth "Canvas" "begin_group", .meth "Canvas" "end_group", .meth "Canvas" "add_mark"]
def fa6 : List He.Fa := [.meth "Canvas" "draw_dots", .exm "InvalidCall" "InvalidCall" true, .exm "InvalidCall" "LimitReached" false, .exm "InvalidCall" "GroupNotEnded" false, .exm "LimitReached" "InvalidCall" false, .exm "LimitReached" "LimitReached" true, .exm "LimitReached" "GroupNotEnded" false, .exm "GroupNotEnded" "InvalidCall" false, .exm "GroupNotEnded" "LimitReached" false, .exm "GroupNotEnded" "GroupNotEnded" true]
def fa : List He.Fa := fa0 ++ fa1 ++ fa2 ++ fa3 ++ fa4 ++ fa5 ++ fa6
/-- of an own class over Exception -/
def excB (K : PySem.W.Frag) (x : Str) : Bool := PySem.W.excIn K (He.ga K x) [.type "Exception", .type "BaseException", .type "object"] "Exception.__new__" && (PySem.W.keepIn K (.ref (He.ga K x)) && (decide (PySem.W.subIn K (.ref (He.ga K x)) (.type "BaseException") = some true) && decide (PySem.W.typeIn K (.ref (He.ga K x)) = some (.type "type"))))
def callsD : List He.Dv := [.glo "call_clear", .glo "call_picture", .glo "call_plain", .glo "call_linear", .glo "call_radial", .glo "call_pictured", .glo "call_clip", .glo "call_unclip", .glo "call_group", .glo "call_end", .glo "call_mark", .glo "call_dots"]
def ex (K : PySem.W.Frag) : Bool := (excB K "InvalidCall" && (excB K "LimitReached" && excB K "GroupNotEnded")) && He.tupB K "CALLS" callsD
def nm0 : List PySem.Str := ["Arguments", "FAR", "GREATEST_FACTOR", "is_far", "is_path", "are_stops", "are_six", "mul", "parts_of", "laid_on", "nothing", "alone", "hard", "blended", "mixed", "DOT", "PLACES", "APART", "FIRST", "place_at", "contours_of", "Shape", "covered_rows", "mean_part", "Mark", "Group", "members_onto", "dot_of", "WHOLE_shades", "spread"]
def nm1 : List PySem.Str := ["Shade", "whole_root", "Plain", "Linear", "Radial", "WHOLE_pictures", "NOTHING_BEYOND", "NEAREST", "AGAIN", "brought_in", "Picture", "Pictured", "InvalidCall", "LimitReached", "GroupNotEnded", "MOST_PICTURES", "MOST_COLOURS", "MOST_PAINTS", "MOST_CLIPS", "MOST_PIECES", "MOST_GROUPS", "MOST_MEMBERS", "Layer", "shade_of", "Canvas", "call_clear", "call_picture", "call_plain", "call_linear", "call_radial"]
def nm2 : List PySem.Str := ["call_pictured", "call_clip", "call_unclip", "call_group", "call_end", "call_mark", "call_dots", "CALLS", "answer_of"]
def names : List PySem.Str := nm0 ++ nm1 ++ nm2
/-! ### what the top leaves, and its readers -/
structure Txt (K : PySem.W.Frag) (mg : Str → Option Value) : Prop where
  says : He.SaysD fa fn K
  more : ex K = true
  at_ : ∃ h : Heap, K.In h ∧ h.Ns mainGlobals mg
section
variable {K : PySem.W.Frag} {mg : Str → Option Value} (T : Txt K mg)
include T
theorem Txt.g_is_far : mg "is_far" = some (.ref (He.ga K "is_far")) := let ⟨_, X, G⟩ := T.at_; He.glo_ok X G (T.says.fact 0 rfl)
theorem Txt.g_is_path : mg "is_path" = some (.ref (He.ga K "is_path")) := let ⟨_, X, G⟩ := T.at_; He.glo_ok X G (T.says.fact 1 rfl)
theorem Txt.g_are_stops : mg "are_stops" = some (.ref (He.ga K "are_stops")) := let ⟨_, X, G⟩ := T.at_; He.glo_ok X G (T.says.fact 2 rfl)
theorem Txt.g_are_six : mg "are_six" = some (.ref (He.ga K "are_six")) := let ⟨_, X, G⟩ := T.at_; He.glo_ok X G (T.says.fact 3 rfl)
theorem Txt.g_mul : mg "mul" = some (.ref (He.ga K "mul")) := let ⟨_, X, G⟩ := T.at_; He.glo_ok X G (T.says.fact 4 rfl)
theorem Txt.g_parts_of : mg "parts_of" = some (.ref (He.ga K "parts_of")) := let ⟨_, X, G⟩ := T.at_; He.glo_ok X G (T.says.fact 5 rfl)
theorem Txt.g_laid_on : mg "laid_on" = some (.ref (He.ga K "laid_on")) := let ⟨_, X, G⟩ := T.at_; He.glo_ok X G (T.says.fact 6 rfl)
theorem Txt.g_nothing : mg "nothing" = some (.ref (He.ga K "nothing")) := let ⟨_, X, G⟩ := T.at_; He.glo_ok X G (T.says.fact 7 rfl)
theorem Txt.g_alone : mg "alone" = some (.ref (He.ga K "alone")) := let ⟨_, X, G⟩ := T.at_; He.glo_ok X G (T.says.fact 8 rfl)
theorem Txt.g_hard : mg "hard" = some (.ref (He.ga K "hard")) := let ⟨_, X, G⟩ := T.at_; He.glo_ok X G (T.says.fact 9 rfl)
theorem Txt.g_blended : mg "blended" = some (.ref (He.ga K "blended")) := let ⟨_, X, G⟩ := T.at_; He.glo_ok X G (T.says.fact 10 rfl)
theorem Txt.g_mixed : mg "mixed" = some (.ref (He.ga K "mixed")) := let ⟨_, X, G⟩ := T.at_; He.glo_ok X G (T.says.fact 11 rfl)
theorem Txt.g_place_at : mg "place_at" = some (.ref (He.ga K "place_at")) := let ⟨_, X, G⟩ := T.at_; He.glo_ok X G (T.says.fact 12 rfl)
theorem Txt.g_contours_of : mg "contours_of" = some (.ref (He.ga K "contours_of")) := let ⟨_, X, G⟩ := T.at_; He.glo_ok X G (T.says.fact 13 rfl)
theorem Txt.g_covered_rows : mg "covered_rows" = some (.ref (He.ga K "covered_rows")) := let ⟨_, X, G⟩ := T.at_; He.glo_ok X G (T.says.fact 14 rfl)
theorem Txt.g_mean_part : mg "mean_part" = some (.ref (He.ga K "mean_part")) := let ⟨_, X, G⟩ := T.at_; He.glo_ok X G (T.says.fact 15 rfl)
theorem Txt.g_members_onto : mg "members_onto" = some (.ref (He.ga K "members_onto")) := let ⟨_, X, G⟩ := T.at_; He.glo_ok X G (T.says.fact 16 rfl)
theorem Txt.g_dot_of : mg "dot_of" = some (.ref (He.ga K "dot_of")) := let ⟨_, X, G⟩ := T.at_; He.glo_ok X G (T.says.fact 17 rfl)
theorem Txt.g_spread : mg "spread" = some (.ref (He.ga K "spread")) := let ⟨_, X, G⟩ := T.at_; He.glo_ok X G (T.says.fact 18 rfl)
theorem Txt.g_whole_root : mg "whole_root" = some (.ref (He.ga K "whole_root")) := let ⟨_, X, G⟩ := T.at_; He.glo_ok X G (T.says.fact 19 rfl)
theorem Txt.g_brought_in : mg "brought_in" = some (.ref (He.ga K "brought_in")) := let ⟨_, X, G⟩ := T.at_; He.glo_ok X G (T.says.fact 20 rfl)
theorem Txt.g_shade_of : mg "shade_of" = some (.ref (He.ga K "shade_of")) := let ⟨_, X, G⟩ := T.at_; He.glo_ok X G (T.says.fact 21 rfl)
theorem Txt.g_call_clear : mg "call_clear" = some (.ref (He.ga K "call_clear")) := let ⟨_, X, G⟩ := T.at_; He.glo_ok X G (T.says.fact 22 rfl)
theorem Txt.g_call_picture : mg "call_picture" = some (.ref (He.ga K "call_picture")) := let ⟨_, X, G⟩ := T.at_; He.glo_ok X G (T.says.fact 23 rfl)
theorem Txt.g_call_plain : mg "call_plain" = some (.ref (He.ga K "call_plain")) := let ⟨_, X, G⟩ := T.at_; He.glo_ok X G (T.says.fact 24 rfl)
theorem Txt.g_call_linear : mg "call_linear" = some (.ref (He.ga K "call_linear")) := let ⟨_, X, G⟩ := T.at_; He.glo_ok X G (T.says.fact 25 rfl)
theorem Txt.g_call_radial : mg "call_radial" = some (.ref (He.ga K "call_radial")) := let ⟨_, X, G⟩ := T.at_; He.glo_ok X G (T.says.fact 26 rfl)
theorem Txt.g_call_pictured : mg "call_pictured" = some (.ref (He.ga K "call_pictured")) := let ⟨_, X, G⟩ := T.at_; He.glo_ok X G (T.says.fact 27 rfl)
theorem Txt.g_call_clip : mg "call_clip" = some (.ref (He.ga K "call_clip")) := let ⟨_, X, G⟩ := T.at_; He.glo_ok X G (T.says.fact 28 rfl)
theorem Txt.g_call_unclip : mg "call_unclip" = some (.ref (He.ga K "call_unclip")) := let ⟨_, X, G⟩ := T.at_; He.glo_ok X G (T.says.fact 29 rfl)
theorem Txt.g_call_group : mg "call_group" = some (.ref (He.ga K "call_group")) := let ⟨_, X, G⟩ := T.at_; He.glo_ok X G (T.says.fact 30 rfl)
theorem Txt.g_call_end : mg "call_end" = some (.ref (He.ga K "call_end")) := let ⟨_, X, G⟩ := T.at_; He.glo_ok X G (T.says.fact 31 rfl)
theorem Txt.g_call_mark : mg "call_mark" = some (.ref (He.ga K "call_mark")) := let ⟨_, X, G⟩ := T.at_; He.glo_ok X G (T.says.fact 32 rfl)
theorem Txt.g_call_dots : mg "call_dots" = some (.ref (He.ga K "call_dots")) := let ⟨_, X, G⟩ := T.at_; He.glo_ok X G (T.says.fact 33 rfl)
theorem Txt.g_answer_of : mg "answer_of" = some (.ref (He.ga K "answer_of")) := let ⟨_, X, G⟩ := T.at_; He.glo_ok X G (T.says.fact 34 rfl)
theorem Txt.g_answers : mg "answers" = some (.ref (He.ga K "answers")) := let ⟨_, X, G⟩ := T.at_; He.glo_ok X G (T.says.fact 35 rfl)
theorem Txt.g_Arguments : mg "Arguments" = some (.ref (He.ga K "Arguments")) := let ⟨_, X, G⟩ := T.at_; He.glo_ok X G (T.says.fact 36 rfl)
theorem Txt.g_Shape : mg "Shape" = some (.ref (He.ga K "Shape")) := let ⟨_, X, G⟩ := T.at_; He.glo_ok X G (T.says.fact 37 rfl)
theorem Txt.g_Mark : mg "Mark" = some (.ref (He.ga K "Mark")) := let ⟨_, X, G⟩ := T.at_; He.glo_ok X G (T.says.fact 38 rfl)
theorem Txt.g_Group : mg "Group" = some (.ref (He.ga K "Group")) := let ⟨_, X, G⟩ := T.at_; He.glo_ok X G (T.says.fact 39 rfl)
theorem Txt.g_Shade : mg "Shade" = some (.ref (He.ga K "Shade")) := let ⟨_, X, G⟩ := T.at_; He.glo_ok X G (T.says.fact 40 rfl)
theorem Txt.g_Plain : mg "Plain" = some (.ref (He.ga K "Plain")) := let ⟨_, X, G⟩ := T.at_; He.glo_ok X G (T.says.fact 41 rfl)
theorem Txt.g_Linear : mg "Linear" = some (.ref (He.ga K "Linear")) := let ⟨_, X, G⟩ := T.at_; He.glo_ok X G (T.says.fact 42 rfl)
theorem Txt.g_Radial : mg "Radial" = some (.ref (He.ga K "Radial")) := let ⟨_, X, G⟩ := T.at_; He.glo_ok X G (T.says.fact 43 rfl)
theorem Txt.g_Picture : mg "Picture" = some (.ref (He.ga K "Picture")) := let ⟨_, X, G⟩ := T.at_; He.glo_ok X G (T.says.fact 44 rfl)
theorem Txt.g_Pictured : mg "Pictured" = some (.ref (He.ga K "Pictured")) := let ⟨_, X, G⟩ := T.at_; He.glo_ok X G (T.says.fact 45 rfl)
theorem Txt.g_InvalidCall : mg "InvalidCall" = some (.ref (He.ga K "InvalidCall")) := let ⟨_, X, G⟩ := T.at_; He.glo_ok X G (T.says.fact 46 rfl)
theorem Txt.g_LimitReached : mg "LimitReached" = some (.ref (He.ga K "LimitReached")) := let ⟨_, X, G⟩ := T.at_; He.glo_ok X G (T.says.fact 47 rfl)
theorem Txt.g_GroupNotEnded : mg "GroupNotEnded" = some (.ref (He.ga K "GroupNotEnded")) := let ⟨_, X, G⟩ := T.at_; He.glo_ok X G (T.says.fact 48 rfl)
theorem Txt.g_Layer : mg "Layer" = some (.ref (He.ga K "Layer")) := let ⟨_, X, G⟩ := T.at_; He.glo_ok X G (T.says.fact 49 rfl)
theorem Txt.g_Canvas : mg "Canvas" = some (.ref (He.ga K "Canvas")) := let ⟨_, X, G⟩ := T.at_; He.glo_ok X G (T.says.fact 50 rfl)
theorem Txt.g_CALLS : mg "CALLS" = some (.ref (He.ga K "CALLS")) := let ⟨_, X, G⟩ := T.at_; He.glo_ok X G (T.says.fact 51 rfl)
theorem Txt.z_len : mg "len" = none := let ⟨_, X, G⟩ := T.at_; He.free_ok X G (T.says.fact 52 rfl)
theorem Txt.z_range : mg "range" = none := let ⟨_, X, G⟩ := T.at_; He.free_ok X G (T.says.fact 53 rfl)
theorem Txt.z_zip : mg "zip" = none := let ⟨_, X, G⟩ := T.at_; He.free_ok X G (T.says.fact 54 rfl)
theorem Txt.z_enumerate : mg "enumerate" = none := let ⟨_, X, G⟩ := T.at_; He.free_ok X G (T.says.fact 55 rfl)
theorem Txt.z_sum : mg "sum" = none := let ⟨_, X, G⟩ := T.at_; He.free_ok X G (T.says.fact 56 rfl)
theorem Txt.z_any : mg "any" = none := let ⟨_, X, G⟩ := T.at_; He.free_ok X G (T.says.fact 57 rfl)
theorem Txt.z_all : mg "all" = none := let ⟨_, X, G⟩ := T.at_; He.free_ok X G (T.says.fact 58 rfl)
theorem Txt.z_sorted : mg "sorted" = none := let ⟨_, X, G⟩ := T.at_; He.free_ok X G (T.says.fact 59 rfl)
theorem Txt.z_min : mg "min" = none := let ⟨_, X, G⟩ := T.at_; He.free_ok X G (T.says.fact 60 rfl)
theorem Txt.z_max : mg "max" = none := let ⟨_, X, G⟩ := T.at_; He.free_ok X G (T.says.fact 61 rfl)
theorem Txt.z_tuple : mg "tuple" = none := let ⟨_, X, G⟩ := T.at_; He.free_ok X G (T.says.fact 62 rfl)
theorem Txt.z_list : mg "list" = none := let ⟨_, X, G⟩ := T.at_; He.free_ok X G (T.says.fact 63 rfl)
theorem Txt.i_FAR : ∃ t, mg "FAR" = some (.int 1048576 t) := let ⟨_, X, G⟩ := T.at_; He.int_ok X G (T.says.fact 64 rfl)
theorem Txt.i_GREATEST_FACTOR : ∃ t, mg "GREATEST_FACTOR" = some (.int 1073741824 t) := let ⟨_, X, G⟩ := T.at_; He.int_ok X G (T.says.fact 65 rfl)
theorem Txt.i_DOT : ∃ t, mg "DOT" = some (.int 64 t) := let ⟨_, X, G⟩ := T.at_; He.int_ok X G (T.says.fact 66 rfl)
theorem Txt.i_PLACES : ∃ t, mg "PLACES" = some (.int 16 t) := let ⟨_, X, G⟩ := T.at_; He.int_ok X G (T.says.fact 67 rfl)
theorem Txt.i_APART : ∃ t, mg "APART" = some (.int 4 t) := let ⟨_, X, G⟩ := T.at_; He.int_ok X G (T.says.fact 68 rfl)
theorem Txt.i_FIRST : ∃ t, mg "FIRST" = some (.int 2 t) := let ⟨_, X, G⟩ := T.at_; He.int_ok X G (T.says.fact 69 rfl)
theorem Txt.i_WHOLE_shades : ∃ t, mg "WHOLE_shades" = some (.int 65536 t) := let ⟨_, X, G⟩ := T.at_; He.int_ok X G (T.says.fact 70 rfl)
theorem Txt.i_WHOLE_pictures : ∃ t, mg "WHOLE_pictures" = some (.int 65536 t) := let ⟨_, X, G⟩ := T.at_; He.int_ok X G (T.says.fact 71 rfl)
theorem Txt.i_NOTHING_BEYOND : ∃ t, mg "NOTHING_BEYOND" = some (.int 0 t) := let ⟨_, X, G⟩ := T.at_; He.int_ok X G (T.says.fact 72 rfl)
theorem Txt.i_NEAREST : ∃ t, mg "NEAREST" = some (.int 1 t) := let ⟨_, X, G⟩ := T.at_; He.int_ok X G (T.says.fact 73 rfl)
theorem Txt.i_AGAIN : ∃ t, mg "AGAIN" = some (.int 2 t) := let ⟨_, X, G⟩ := T.at_; He.int_ok X G (T.says.fact 74 rfl)
theorem Txt.i_MOST_PICTURES : ∃ t, mg "MOST_PICTURES" = some (.int 8 t) := let ⟨_, X, G⟩ := T.at_; He.int_ok X G (T.says.fact 75 rfl)
theorem Txt.i_MOST_COLOURS : ∃ t, mg "MOST_COLOURS" = some (.int 1024 t) := let ⟨_, X, G⟩ := T.at_; He.int_ok X G (T.says.fact 76 rfl)
theorem Txt.i_MOST_PAINTS : ∃ t, mg "MOST_PAINTS" = some (.int 32 t) := let ⟨_, X, G⟩ := T.at_; He.int_ok X G (T.says.fact 77 rfl)
theorem Txt.i_MOST_CLIPS : ∃ t, mg "MOST_CLIPS" = some (.int 4 t) := let ⟨_, X, G⟩ := T.at_; He.int_ok X G (T.says.fact 78 rfl)
theorem Txt.i_MOST_PIECES : ∃ t, mg "MOST_PIECES" = some (.int 256 t) := let ⟨_, X, G⟩ := T.at_; He.int_ok X G (T.says.fact 79 rfl)
theorem Txt.i_MOST_GROUPS : ∃ t, mg "MOST_GROUPS" = some (.int 8 t) := let ⟨_, X, G⟩ := T.at_; He.int_ok X G (T.says.fact 80 rfl)
theorem Txt.i_MOST_MEMBERS : ∃ t, mg "MOST_MEMBERS" = some (.int 32 t) := let ⟨_, X, G⟩ := T.at_; He.int_ok X G (T.says.fact 81 rfl)
theorem Txt.c_Arguments : Cls K (He.ga K "Arguments") := He.cls_ok (T.says.fact 82 rfl)
theorem Txt.k_Arguments : Mk K (He.ga K "Arguments") (He.ma K (He.ga K "Arguments") "__init__") := He.mkr_ok (T.says.fact 83 rfl)
theorem Txt.n_Arguments_numbers : NoAttr K (He.ga K "Arguments") "numbers" := He.noat_ok (T.says.fact 84 rfl)
theorem Txt.n_Arguments_taken : NoAttr K (He.ga K "Arguments") "taken" := He.noat_ok (T.says.fact 85 rfl)
theorem Txt.m_Arguments_are_left : Meth K (He.ga K "Arguments") "are_left" (He.ma K (He.ga K "Arguments") "are_left") := He.meth_ok (T.says.fact 86 rfl)
theorem Txt.m_Arguments_take : Meth K (He.ga K "Arguments") "take" (He.ma K (He.ga K "Arguments") "take") := He.meth_ok (T.says.fact 87 rfl)
theorem Txt.m_Arguments_take_list : Meth K (He.ga K "Arguments") "take_list" (He.ma K (He.ga K "Arguments") "take_list") := He.meth_ok (T.says.fact 88 rfl)
theorem Txt.m_Arguments_take_place : Meth K (He.ga K "Arguments") "take_place" (He.ma K (He.ga K "Arguments") "take_place") := He.meth_ok (T.says.fact 89 rfl)
theorem Txt.m_Arguments_take_stops : Meth K (He.ga K "Arguments") "take_stops" (He.ma K (He.ga K "Arguments") "take_stops") := He.meth_ok (T.says.fact 90 rfl)
theorem Txt.m_Arguments_take_path : Meth K (He.ga K "Arguments") "take_path" (He.ma K (He.ga K "Arguments") "take_path") := He.meth_ok (T.says.fact 91 rfl)
theorem Txt.c_Shape : Cls K (He.ga K "Shape") := He.cls_ok (T.says.fact 92 rfl)
theorem Txt.k_Shape : Mk K (He.ga K "Shape") (He.ma K (He.ga K "Shape") "__init__") := He.mkr_ok (T.says.fact 93 rfl)
theorem Txt.n_Shape_rule : NoAttr K (He.ga K "Shape") "rule" := He.noat_ok (T.says.fact 94 rfl)
theorem Txt.n_Shape_slanted : NoAttr K (He.ga K "Shape") "slanted" := He.noat_ok (T.says.fact 95 rfl)
theorem Txt.n_Shape_level : NoAttr K (He.ga K "Shape") "level" := He.noat_ok (T.says.fact 96 rfl)
theorem Txt.m_Shape_put_side : Meth K (He.ga K "Shape") "put_side" (He.ma K (He.ga K "Shape") "put_side") := He.meth_ok (T.says.fact 97 rfl)
theorem Txt.m_Shape_row_within : Meth K (He.ga K "Shape") "row_within" (He.ma K (He.ga K "Shape") "row_within") := He.meth_ok (T.says.fact 98 rfl)
theorem Txt.m_Shape_meet_level : Meth K (He.ga K "Shape") "meet_level" (He.ma K (He.ga K "Shape") "meet_level") := He.meth_ok (T.says.fact 99 rfl)
theorem Txt.m_Shape_meet_slanted : Meth K (He.ga K "Shape") "meet_slanted" (He.ma K (He.ga K "Shape") "meet_slanted") := He.meth_ok (T.says.fact 100 rfl)
theorem Txt.c_Mark : Cls K (He.ga K "Mark") := He.cls_ok (T.says.fact 101 rfl)
theorem Txt.k_Mark : Mk K (He.ga K "Mark") (He.ma K (He.ga K "Mark") "__init__") := He.mkr_ok (T.says.fact 102 rfl)
theorem Txt.n_Mark_shapes : NoAttr K (He.ga K "Mark") "shapes" := He.noat_ok (T.says.fact 103 rfl)
theorem Txt.n_Mark_paint : NoAttr K (He.ga K "Mark") "paint" := He.noat_ok (T.says.fact 104 rfl)
theorem Txt.n_Mark_how : NoAttr K (He.ga K "Mark") "how" := He.noat_ok (T.says.fact 105 rfl)
theorem Txt.m_Mark_brings : Meth K (He.ga K "Mark") "brings" (He.ma K (He.ga K "Mark") "brings") := He.meth_ok (T.says.fact 106 rfl)
theorem Txt.c_Group : Cls K (He.ga K "Group") := He.cls_ok (T.says.fact 107 rfl)
theorem Txt.k_Group : Mk K (He.ga K "Group") (He.ma K (He.ga K "Group") "__init__") := He.mkr_ok (T.says.fact 108 rfl)
theorem Txt.n_Group_members : NoAttr K (He.ga K "Group") "members" := He.noat_ok (T.says.fact 109 rfl)
theorem Txt.n_Group_clips : NoAttr K (He.ga K "Group") "clips" := He.noat_ok (T.says.fact 110 rfl)
theorem Txt.n_Group_opacity : NoAttr K (He.ga K "Group") "opacity" := He.noat_ok (T.says.fact 111 rfl)
theorem Txt.n_Group_how : NoAttr K (He.ga K "Group") "how" := He.noat_ok (T.says.fact 112 rfl)
theorem Txt.m_Group_brings : Meth K (He.ga K "Group") "brings" (He.ma K (He.ga K "Group") "brings") := He.meth_ok (T.says.fact 113 rfl)
theorem Txt.c_Shade : Cls K (He.ga K "Shade") := He.cls_ok (T.says.fact 114 rfl)
theorem Txt.k_Shade : Mk K (He.ga K "Shade") (He.ma K (He.ga K "Shade") "__init__") := He.mkr_ok (T.says.fact 115 rfl)
theorem Txt.n_Shade_how : NoAttr K (He.ga K "Shade") "how" := He.noat_ok (T.says.fact 116 rfl)
theorem Txt.n_Shade_stops : NoAttr K (He.ga K "Shade") "stops" := He.noat_ok (T.says.fact 117 rfl)
theorem Txt.n_Shade_known : NoAttr K (He.ga K "Shade") "known" := He.noat_ok (T.says.fact 118 rfl)
theorem Txt.m_Shade_shade_at : Meth K (He.ga K "Shade") "shade_at" (He.ma K (He.ga K "Shade") "shade_at") := He.meth_ok (T.says.fact 119 rfl)
theorem Txt.m_Shade_parts_at : Meth K (He.ga K "Shade") "parts_at" (He.ma K (He.ga K "Shade") "parts_at") := He.meth_ok (T.says.fact 120 rfl)
theorem Txt.c_Plain : Cls K (He.ga K "Plain") := He.cls_ok (T.says.fact 121 rfl)
theorem Txt.k_Plain : Mk K (He.ga K "Plain") (He.ma K (He.ga K "Plain") "__init__") := He.mkr_ok (T.says.fact 122 rfl)
theorem Txt.n_Plain_laid : NoAttr K (He.ga K "Plain") "laid" := He.noat_ok (T.says.fact 123 rfl)
theorem Txt.m_Plain_gives : Meth K (He.ga K "Plain") "gives" (He.ma K (He.ga K "Plain") "gives") := He.meth_ok (T.says.fact 124 rfl)
theorem Txt.c_Linear : Cls K (He.ga K "Linear") := He.cls_ok (T.says.fact 125 rfl)
theorem Txt.k_Linear : Mk K (He.ga K "Linear") (He.ma K (He.ga K "Linear") "__init__") := He.mkr_ok (T.says.fact 126 rfl)
theorem Txt.n_Linear_a_x : NoAttr K (He.ga K "Linear") "a_x" := He.noat_ok (T.says.fact 127 rfl)
theorem Txt.n_Linear_a_y : NoAttr K (He.ga K "Linear") "a_y" := He.noat_ok (T.says.fact 128 rfl)
theorem Txt.n_Linear_across : NoAttr K (He.ga K "Linear") "across" := He.noat_ok (T.says.fact 129 rfl)
theorem Txt.n_Linear_down : NoAttr K (He.ga K "Linear") "down" := He.noat_ok (T.says.fact 130 rfl)
theorem Txt.n_Linear_square : NoAttr K (He.ga K "Linear") "square" := He.noat_ok (T.says.fact 131 rfl)
theorem Txt.n_Linear_shade : NoAttr K (He.ga K "Linear") "shade" := He.noat_ok (T.says.fact 132 rfl)
theorem Txt.m_Linear_gives : Meth K (He.ga K "Linear") "gives" (He.ma K (He.ga K "Linear") "gives") := He.meth_ok (T.says.fact 133 rfl)
theorem Txt.c_Radial : Cls K (He.ga K "Radial") := He.cls_ok (T.says.fact 134 rfl)
theorem Txt.k_Radial : Mk K (He.ga K "Radial") (He.ma K (He.ga K "Radial") "__init__") := He.mkr_ok (T.says.fact 135 rfl)
theorem Txt.n_Radial_m_x : NoAttr K (He.ga K "Radial") "m_x" := He.noat_ok (T.says.fact 136 rfl)
theorem Txt.n_Radial_m_y : NoAttr K (He.ga K "Radial") "m_y" := He.noat_ok (T.says.fact 137 rfl)
theorem Txt.n_Radial_radius : NoAttr K (He.ga K "Radial") "radius" := He.noat_ok (T.says.fact 138 rfl)
theorem Txt.n_Radial_shade : NoAttr K (He.ga K "Radial") "shade" := He.noat_ok (T.says.fact 139 rfl)
theorem Txt.m_Radial_gives : Meth K (He.ga K "Radial") "gives" (He.ma K (He.ga K "Radial") "gives") := He.meth_ok (T.says.fact 140 rfl)
theorem Txt.c_Picture : Cls K (He.ga K "Picture") := He.cls_ok (T.says.fact 141 rfl)
theorem Txt.k_Picture : Mk K (He.ga K "Picture") (He.ma K (He.ga K "Picture") "__init__") := He.mkr_ok (T.says.fact 142 rfl)
theorem Txt.n_Picture_width : NoAttr K (He.ga K "Picture") "width" := He.noat_ok (T.says.fact 143 rfl)
theorem Txt.n_Picture_height : NoAttr K (He.ga K "Picture") "height" := He.noat_ok (T.says.fact 144 rfl)
theorem Txt.n_Picture_colours : NoAttr K (He.ga K "Picture") "colours" := He.noat_ok (T.says.fact 145 rfl)
theorem Txt.m_Picture_colour_in : Meth K (He.ga K "Picture") "colour_in" (He.ma K (He.ga K "Picture") "colour_in") := He.meth_ok (T.says.fact 146 rfl)
theorem Txt.c_Pictured : Cls K (He.ga K "Pictured") := He.cls_ok (T.says.fact 147 rfl)
theorem Txt.k_Pictured : Mk K (He.ga K "Pictured") (He.ma K (He.ga K "Pictured") "__init__") := He.mkr_ok (T.says.fact 148 rfl)
theorem Txt.n_Pictured_picture : NoAttr K (He.ga K "Pictured") "picture" := He.noat_ok (T.says.fact 149 rfl)
theorem Txt.n_Pictured_how : NoAttr K (He.ga K "Pictured") "how" := He.noat_ok (T.says.fact 150 rfl)
theorem Txt.n_Pictured_smooth : NoAttr K (He.ga K "Pictured") "smooth" := He.noat_ok (T.says.fact 151 rfl)
theorem Txt.n_Pictured_six : NoAttr K (He.ga K "Pictured") "six" := He.noat_ok (T.says.fact 152 rfl)
theorem Txt.m_Pictured_gives : Meth K (He.ga K "Pictured") "gives" (He.ma K (He.ga K "Pictured") "gives") := He.meth_ok (T.says.fact 153 rfl)
theorem Txt.m_Pictured_smoothed : Meth K (He.ga K "Pictured") "smoothed" (He.ma K (He.ga K "Pictured") "smoothed") := He.meth_ok (T.says.fact 154 rfl)
theorem Txt.c_Layer : Cls K (He.ga K "Layer") := He.cls_ok (T.says.fact 155 rfl)
theorem Txt.k_Layer : Mk K (He.ga K "Layer") (He.ma K (He.ga K "Layer") "__init__") := He.mkr_ok (T.says.fact 156 rfl)
theorem Txt.n_Layer_opacity : NoAttr K (He.ga K "Layer") "opacity" := He.noat_ok (T.says.fact 157 rfl)
theorem Txt.n_Layer_how : NoAttr K (He.ga K "Layer") "how" := He.noat_ok (T.says.fact 158 rfl)
theorem Txt.n_Layer_members : NoAttr K (He.ga K "Layer") "members" := He.noat_ok (T.says.fact 159 rfl)
theorem Txt.n_Layer_clips : NoAttr K (He.ga K "Layer") "clips" := He.noat_ok (T.says.fact 160 rfl)
theorem Txt.c_Canvas : Cls K (He.ga K "Canvas") := He.cls_ok (T.says.fact 161 rfl)
theorem Txt.k_Canvas : Mk K (He.ga K "Canvas") (He.ma K (He.ga K "Canvas") "__init__") := He.mkr_ok (T.says.fact 162 rfl)
theorem Txt.n_Canvas_pictures : NoAttr K (He.ga K "Canvas") "pictures" := He.noat_ok (T.says.fact 163 rfl)
theorem Txt.n_Canvas_paints : NoAttr K (He.ga K "Canvas") "paints" := He.noat_ok (T.says.fact 164 rfl)
theorem Txt.n_Canvas_layers : NoAttr K (He.ga K "Canvas") "layers" := He.noat_ok (T.says.fact 165 rfl)
theorem Txt.n_Canvas_numbered : NoAttr K (He.ga K "Canvas") "numbered" := He.noat_ok (T.says.fact 166 rfl)
theorem Txt.n_Canvas_pieces : NoAttr K (He.ga K "Canvas") "pieces" := He.noat_ok (T.says.fact 167 rfl)
theorem Txt.m_Canvas_clear_page : Meth K (He.ga K "Canvas") "clear_page" (He.ma K (He.ga K "Canvas") "clear_page") := He.meth_ok (T.says.fact 168 rfl)
theorem Txt.m_Canvas_add_picture : Meth K (He.ga K "Canvas") "add_picture" (He.ma K (He.ga K "Canvas") "add_picture") := He.meth_ok (T.says.fact 169 rfl)
theorem Txt.m_Canvas_add_paint : Meth K (He.ga K "Canvas") "add_paint" (He.ma K (He.ga K "Canvas") "add_paint") := He.meth_ok (T.says.fact 170 rfl)
theorem Txt.m_Canvas_add_plain : Meth K (He.ga K "Canvas") "add_plain" (He.ma K (He.ga K "Canvas") "add_plain") := He.meth_ok (T.says.fact 171 rfl)
theorem Txt.m_Canvas_add_linear : Meth K (He.ga K "Canvas") "add_linear" (He.ma K (He.ga K "Canvas") "add_linear") := He.meth_ok (T.says.fact 172 rfl)
theorem Txt.m_Canvas_add_radial : Meth K (He.ga K "Canvas") "add_radial" (He.ma K (He.ga K "Canvas") "add_radial") := He.meth_ok (T.says.fact 173 rfl)
theorem Txt.m_Canvas_add_pictured : Meth K (He.ga K "Canvas") "add_pictured" (He.ma K (He.ga K "Canvas") "add_pictured") := He.meth_ok (T.says.fact 174 rfl)
theorem Txt.m_Canvas_begin_clip : Meth K (He.ga K "Canvas") "begin_clip" (He.ma K (He.ga K "Canvas") "begin_clip") := He.meth_ok (T.says.fact 175 rfl)
theorem Txt.m_Canvas_end_clip : Meth K (He.ga K "Canvas") "end_clip" (He.ma K (He.ga K "Canvas") "end_clip") := He.meth_ok (T.says.fact 176 rfl)
theorem Txt.m_Canvas_begin_group : Meth K (He.ga K "Canvas") "begin_group" (He.ma K (He.ga K "Canvas") "begin_group") := He.meth_ok (T.says.fact 177 rfl)
theorem Txt.m_Canvas_end_group : Meth K (He.ga K "Canvas") "end_group" (He.ma K (He.ga K "Canvas") "end_group") := He.meth_ok (T.says.fact 178 rfl)
theorem Txt.m_Canvas_add_mark : Meth K (He.ga K "Canvas") "add_mark" (He.ma K (He.ga K "Canvas") "add_mark") := He.meth_ok (T.says.fact 179 rfl)
theorem Txt.m_Canvas_draw_dots : Meth K (He.ga K "Canvas") "draw_dots" (He.ma K (He.ga K "Canvas") "draw_dots") := He.meth_ok (T.says.fact 180 rfl)
theorem Txt.x_InvalidCall_InvalidCall : PySem.W.exmOne K (.ref (He.ga K "InvalidCall")) (.ref (He.ga K "InvalidCall")) = some true := He.exm_ok (T.says.fact 181 rfl)
theorem Txt.x_InvalidCall_LimitReached : PySem.W.exmOne K (.ref (He.ga K "InvalidCall")) (.ref (He.ga K "LimitReached")) = some false := He.exm_ok (T.says.fact 182 rfl)
theorem Txt.x_InvalidCall_GroupNotEnded : PySem.W.exmOne K (.ref (He.ga K "InvalidCall")) (.ref (He.ga K "GroupNotEnded")) = some false := He.exm_ok (T.says.fact 183 rfl)
theorem Txt.x_LimitReached_InvalidCall : PySem.W.exmOne K (.ref (He.ga K "LimitReached")) (.ref (He.ga K "InvalidCall")) = some false := He.exm_ok (T.says.fact 184 rfl)
theorem Txt.x_LimitReached_LimitReached : PySem.W.exmOne K (.ref (He.ga K "LimitReached")) (.ref (He.ga K "LimitReached")) = some true := He.exm_ok (T.says.fact 185 rfl)
theorem Txt.x_LimitReached_GroupNotEnded : PySem.W.exmOne K (.ref (He.ga K "LimitReached")) (.ref (He.ga K "GroupNotEnded")) = some false := He.exm_ok (T.says.fact 186 rfl)
theorem Txt.x_GroupNotEnded_InvalidCall : PySem.W.exmOne K (.ref (He.ga K "GroupNotEnded")) (.ref (He.ga K "InvalidCall")) = some false := He.exm_ok (T.says.fact 187 rfl)
theorem Txt.x_GroupNotEnded_LimitReached : PySem.W.exmOne K (.ref (He.ga K "GroupNotEnded")) (.ref (He.ga K "LimitReached")) = some false := He.exm_ok (T.says.fact 188 rfl)
theorem Txt.x_GroupNotEnded_GroupNotEnded : PySem.W.exmOne K (.ref (He.ga K "GroupNotEnded")) (.ref (He.ga K "GroupNotEnded")) = some true := He.exm_ok (T.says.fact 189 rfl)
theorem Txt.f_is_far : ∃ fd, FunD K "is_far" "is_far" (defArgs s_is_far) (defBody s_is_far) (defScope s_is_far) [] [] (He.fAd K ("is_far", none)) fd := T.says.def_ 0 (d := d_is_far) rfl
theorem Txt.f_is_path : ∃ fd, FunD K "is_path" "is_path" (defArgs s_is_path) (defBody s_is_path) (defScope s_is_path) [] [] (He.fAd K ("is_path", none)) fd := T.says.def_ 1 (d := d_is_path) rfl
theorem Txt.f_are_stops : ∃ fd, FunD K "are_stops" "are_stops" (defArgs s_are_stops) (defBody s_are_stops) (defScope s_are_stops) [] [] (He.fAd K ("are_stops", none)) fd := T.says.def_ 2 (d := d_are_stops) rfl
theorem Txt.f_are_six : ∃ fd, FunD K "are_six" "are_six" (defArgs s_are_six) (defBody s_are_six) (defScope s_are_six) [] [] (He.fAd K ("are_six", none)) fd := T.says.def_ 3 (d := d_are_six) rfl
theorem Txt.f_mul : ∃ fd, FunD K "mul" "mul" (defArgs s_mul) (defBody s_mul) (defScope s_mul) [] [] (He.fAd K ("mul", none)) fd := T.says.def_ 4 (d := d_mul) rfl
theorem Txt.f_parts_of : ∃ fd, FunD K "parts_of" "parts_of" (defArgs s_parts_of) (defBody s_parts_of) (defScope s_parts_of) [] [] (He.fAd K ("parts_of", none)) fd := T.says.def_ 5 (d := d_parts_of) rfl
theorem Txt.f_laid_on : ∃ fd, FunD K "laid_on" "laid_on" (defArgs s_laid_on) (defBody s_laid_on) (defScope s_laid_on) [] [] (He.fAd K ("laid_on", none)) fd := T.says.def_ 6 (d := d_laid_on) rfl
theorem Txt.f_nothing : ∃ fd, FunD K "nothing" "nothing" (defArgs s_nothing) (defBody s_nothing) (defScope s_nothing) [] [] (He.fAd K ("nothing", none)) fd := T.says.def_ 7 (d := d_nothing) rfl
theorem Txt.f_alone : ∃ fd, FunD K "alone" "alone" (defArgs s_alone) (defBody s_alone) (defScope s_alone) [] [] (He.fAd K ("alone", none)) fd := T.says.def_ 8 (d := d_alone) rfl
theorem Txt.f_hard : ∃ fd, FunD K "hard" "hard" (defArgs s_hard) (defBody s_hard) (defScope s_hard) [] [] (He.fAd K ("hard", none)) fd := T.says.def_ 9 (d := d_hard) rfl
theorem Txt.f_blended : ∃ fd, FunD K "blended" "blended" (defArgs s_blended) (defBody s_blended) (defScope s_blended) [] [] (He.fAd K ("blended", none)) fd := T.says.def_ 10 (d := d_blended) rfl
theorem Txt.f_mixed : ∃ fd, FunD K "mixed" "mixed" (defArgs s_mixed) (defBody s_mixed) (defScope s_mixed) [] [] (He.fAd K ("mixed", none)) fd := T.says.def_ 11 (d := d_mixed) rfl
theorem Txt.f_place_at : ∃ fd, FunD K "place_at" "place_at" (defArgs s_place_at) (defBody s_place_at) (defScope s_place_at) [] [] (He.fAd K ("place_at", none)) fd := T.says.def_ 12 (d := d_place_at) rfl
theorem Txt.f_contours_of : ∃ fd, FunD K "contours_of" "contours_of" (defArgs s_contours_of) (defBody s_contours_of) (defScope s_contours_of) [] [] (He.fAd K ("contours_of", none)) fd := T.says.def_ 13 (d := d_contours_of) rfl
theorem Txt.f_covered_rows : ∃ fd, FunD K "covered_rows" "covered_rows" (defArgs s_covered_rows) (defBody s_covered_rows) (defScope s_covered_rows) [] [] (He.fAd K ("covered_rows", none)) fd := T.says.def_ 14 (d := d_covered_rows) rfl
theorem Txt.f_mean_part : ∃ fd, FunD K "mean_part" "mean_part" (defArgs s_mean_part) (defBody s_mean_part) (defScope s_mean_part) [] [] (He.fAd K ("mean_part", none)) fd := T.says.def_ 15 (d := d_mean_part) rfl
theorem Txt.f_members_onto : ∃ fd, FunD K "members_onto" "members_onto" (defArgs s_members_onto) (defBody s_members_onto) (defScope s_members_onto) [] [] (He.fAd K ("members_onto", none)) fd := T.says.def_ 16 (d := d_members_onto) rfl
theorem Txt.f_dot_of : ∃ fd, FunD K "dot_of" "dot_of" (defArgs s_dot_of) (defBody s_dot_of) (defScope s_dot_of) [] [] (He.fAd K ("dot_of", none)) fd := T.says.def_ 17 (d := d_dot_of) rfl
theorem Txt.f_spread : ∃ fd, FunD K "spread" "spread" (defArgs s_spread) (defBody s_spread) (defScope s_spread) [] [] (He.fAd K ("spread", none)) fd := T.says.def_ 18 (d := d_spread) rfl
theorem Txt.f_whole_root : ∃ fd, FunD K "whole_root" "whole_root" (defArgs s_whole_root) (defBody s_whole_root) (defScope s_whole_root) [] [] (He.fAd K ("whole_root", none)) fd := T.says.def_ 19 (d := d_whole_root) rfl
theorem Txt.f_brought_in : ∃ fd, FunD K "brought_in" "brought_in" (defArgs s_brought_in) (defBody s_brought_in) (defScope s_brought_in) [] [] (He.fAd K ("brought_in", none)) fd := T.says.def_ 20 (d := d_brought_in) rfl
theorem Txt.f_shade_of : ∃ fd, FunD K "shade_of" "shade_of" (defArgs s_shade_of) (defBody s_shade_of) (defScope s_shade_of) [] [] (He.fAd K ("shade_of", none)) fd := T.says.def_ 21 (d := d_shade_of) rfl
theorem Txt.f_call_clear : ∃ fd, FunD K "call_clear" "call_clear" (defArgs s_call_clear) (defBody s_call_clear) (defScope s_call_clear) [] [] (He.fAd K ("call_clear", none)) fd := T.says.def_ 22 (d := d_call_clear) rfl
theorem Txt.f_call_picture : ∃ fd, FunD K "call_picture" "call_picture" (defArgs s_call_picture) (defBody s_call_picture) (defScope s_call_picture) [] [] (He.fAd K ("call_picture", none)) fd := T.says.def_ 23 (d := d_call_picture) rfl
theorem Txt.f_call_plain : ∃ fd, FunD K "call_plain" "call_plain" (defArgs s_call_plain) (defBody s_call_plain) (defScope s_call_plain) [] [] (He.fAd K ("call_plain", none)) fd := T.says.def_ 24 (d := d_call_plain) rfl
theorem Txt.f_call_linear : ∃ fd, FunD K "call_linear" "call_linear" (defArgs s_call_linear) (defBody s_call_linear) (defScope s_call_linear) [] [] (He.fAd K ("call_linear", none)) fd := T.says.def_ 25 (d := d_call_linear) rfl
theorem Txt.f_call_radial : ∃ fd, FunD K "call_radial" "call_radial" (defArgs s_call_radial) (defBody s_call_radial) (defScope s_call_radial) [] [] (He.fAd K ("call_radial", none)) fd := T.says.def_ 26 (d := d_call_radial) rfl
theorem Txt.f_call_pictured : ∃ fd, FunD K "call_pictured" "call_pictured" (defArgs s_call_pictured) (defBody s_call_pictured) (defScope s_call_pictured) [] [] (He.fAd K ("call_pictured", none)) fd := T.says.def_ 27 (d := d_call_pictured) rfl
theorem Txt.f_call_clip : ∃ fd, FunD K "call_clip" "call_clip" (defArgs s_call_clip) (defBody s_call_clip) (defScope s_call_clip) [] [] (He.fAd K ("call_clip", none)) fd := T.says.def_ 28 (d := d_call_clip) rfl
theorem Txt.f_call_unclip : ∃ fd, FunD K "call_unclip" "call_unclip" (defArgs s_call_unclip) (defBody s_call_unclip) (defScope s_call_unclip) [] [] (He.fAd K ("call_unclip", none)) fd := T.says.def_ 29 (d := d_call_unclip) rfl
theorem Txt.f_call_group : ∃ fd, FunD K "call_group" "call_group" (defArgs s_call_group) (defBody s_call_group) (defScope s_call_group) [] [] (He.fAd K ("call_group", none)) fd := T.says.def_ 30 (d := d_call_group) rfl
theorem Txt.f_call_end : ∃ fd, FunD K "call_end" "call_end" (defArgs s_call_end) (defBody s_call_end) (defScope s_call_end) [] [] (He.fAd K ("call_end", none)) fd := T.says.def_ 31 (d := d_call_end) rfl
theorem Txt.f_call_mark : ∃ fd, FunD K "call_mark" "call_mark" (defArgs s_call_mark) (defBody s_call_mark) (defScope s_call_mark) [] [] (He.fAd K ("call_mark", none)) fd := T.says.def_ 32 (d := d_call_mark) rfl
theorem Txt.f_call_dots : ∃ fd, FunD K "call_dots" "call_dots" (defArgs s_call_dots) (defBody s_call_dots) (defScope s_call_dots) [] [] (He.fAd K ("call_dots", none)) fd := T.says.def_ 33 (d := d_call_dots) rfl
theorem Txt.f_answer_of : ∃ fd, FunD K "answer_of" "answer_of" (defArgs s_answer_of) (defBody s_answer_of) (defScope s_answer_of) [] [] (He.fAd K ("answer_of", none)) fd := T.says.def_ 34 (d := d_answer_of) rfl
theorem Txt.f_answers : ∃ fd, FunD K "answers" "answers" (defArgs s_answers) (defBody s_answers) (defScope s_answers) [] [] (He.fAd K ("answers", none)) fd := T.says.def_ 35 (d := d_answers) rfl
theorem Txt.f_Arguments_init : ∃ fd, FunD K "__init__" "Arguments.__init__" (defArgs s_Arguments_init) (defBody s_Arguments_init) (defScope s_Arguments_init) [] [] (He.fAd K ("Arguments", some "__init__")) fd := T.says.def_ 36 (d := d_Arguments_init) rfl
theorem Txt.f_Arguments_are_left : ∃ fd, FunD K "are_left" "Arguments.are_left" (defArgs s_Arguments_are_left) (defBody s_Arguments_are_left) (defScope s_Arguments_are_left) [] [] (He.fAd K ("Arguments", some "are_left")) fd := T.says.def_ 37 (d := d_Arguments_are_left) rfl
theorem Txt.f_Arguments_take : ∃ fd, FunD K "take" "Arguments.take" (defArgs s_Arguments_take) (defBody s_Arguments_take) (defScope s_Arguments_take) [] [] (He.fAd K ("Arguments", some "take")) fd := T.says.def_ 38 (d := d_Arguments_take) rfl
theorem Txt.f_Arguments_take_list : ∃ fd, FunD K "take_list" "Arguments.take_list" (defArgs s_Arguments_take_list) (defBody s_Arguments_take_list) (defScope s_Arguments_take_list) [] [] (He.fAd K ("Arguments", some "take_list")) fd := T.says.def_ 39 (d := d_Arguments_take_list) rfl
theorem Txt.f_Arguments_take_place : ∃ fd, FunD K "take_place" "Arguments.take_place" (defArgs s_Arguments_take_place) (defBody s_Arguments_take_place) (defScope s_Arguments_take_place) [] [] (He.fAd K ("Arguments", some "take_place")) fd := T.says.def_ 40 (d := d_Arguments_take_place) rfl
theorem Txt.f_Arguments_take_stops : ∃ fd, FunD K "take_stops" "Arguments.take_stops" (defArgs s_Arguments_take_stops) (defBody s_Arguments_take_stops) (defScope s_Arguments_take_stops) [] [] (He.fAd K ("Arguments", some "take_stops")) fd := T.says.def_ 41 (d := d_Arguments_take_stops) rfl
theorem Txt.f_Arguments_take_path : ∃ fd, FunD K "take_path" "Arguments.take_path" (defArgs s_Arguments_take_path) (defBody s_Arguments_take_path) (defScope s_Arguments_take_path) [] [] (He.fAd K ("Arguments", some "take_path")) fd := T.says.def_ 42 (d := d_Arguments_take_path) rfl
theorem Txt.f_Shape_init : ∃ fd, FunD K "__init__" "Shape.__init__" (defArgs s_Shape_init) (defBody s_Shape_init) (defScope s_Shape_init) [] [] (He.fAd K ("Shape", some "__init__")) fd := T.says.def_ 43 (d := d_Shape_init) rfl
theorem Txt.f_Shape_put_side : ∃ fd, FunD K "put_side" "Shape.put_side" (defArgs s_Shape_put_side) (defBody s_Shape_put_side) (defScope s_Shape_put_side) [] [] (He.fAd K ("Shape", some "put_side")) fd := T.says.def_ 44 (d := d_Shape_put_side) rfl
theorem Txt.f_Shape_row_within : ∃ fd, FunD K "row_within" "Shape.row_within" (defArgs s_Shape_row_within) (defBody s_Shape_row_within) (defScope s_Shape_row_within) [] [] (He.fAd K ("Shape", some "row_within")) fd := T.says.def_ 45 (d := d_Shape_row_within) rfl
theorem Txt.f_Shape_meet_level : ∃ fd, FunD K "meet_level" "Shape.meet_level" (defArgs s_Shape_meet_level) (defBody s_Shape_meet_level) (defScope s_Shape_meet_level) [] [] (He.fAd K ("Shape", some "meet_level")) fd := T.says.def_ 46 (d := d_Shape_meet_level) rfl
theorem Txt.f_Shape_meet_slanted : ∃ fd, FunD K "meet_slanted" "Shape.meet_slanted" (defArgs s_Shape_meet_slanted) (defBody s_Shape_meet_slanted) (defScope s_Shape_meet_slanted) [] [] (He.fAd K ("Shape", some "meet_slanted")) fd := T.says.def_ 47 (d := d_Shape_meet_slanted) rfl
theorem Txt.f_Mark_init : ∃ fd, FunD K "__init__" "Mark.__init__" (defArgs s_Mark_init) (defBody s_Mark_init) (defScope s_Mark_init) [] [] (He.fAd K ("Mark", some "__init__")) fd := T.says.def_ 48 (d := d_Mark_init) rfl
theorem Txt.f_Mark_brings : ∃ fd, FunD K "brings" "Mark.brings" (defArgs s_Mark_brings) (defBody s_Mark_brings) (defScope s_Mark_brings) [] [] (He.fAd K ("Mark", some "brings")) fd := T.says.def_ 49 (d := d_Mark_brings) rfl
theorem Txt.f_Group_init : ∃ fd, FunD K "__init__" "Group.__init__" (defArgs s_Group_init) (defBody s_Group_init) (defScope s_Group_init) [] [] (He.fAd K ("Group", some "__init__")) fd := T.says.def_ 50 (d := d_Group_init) rfl
theorem Txt.f_Group_brings : ∃ fd, FunD K "brings" "Group.brings" (defArgs s_Group_brings) (defBody s_Group_brings) (defScope s_Group_brings) [] [] (He.fAd K ("Group", some "brings")) fd := T.says.def_ 51 (d := d_Group_brings) rfl
theorem Txt.f_Shade_init : ∃ fd, FunD K "__init__" "Shade.__init__" (defArgs s_Shade_init) (defBody s_Shade_init) (defScope s_Shade_init) [] [] (He.fAd K ("Shade", some "__init__")) fd := T.says.def_ 52 (d := d_Shade_init) rfl
theorem Txt.f_Shade_shade_at : ∃ fd, FunD K "shade_at" "Shade.shade_at" (defArgs s_Shade_shade_at) (defBody s_Shade_shade_at) (defScope s_Shade_shade_at) [] [] (He.fAd K ("Shade", some "shade_at")) fd := T.says.def_ 53 (d := d_Shade_shade_at) rfl
theorem Txt.f_Shade_parts_at : ∃ fd, FunD K "parts_at" "Shade.parts_at" (defArgs s_Shade_parts_at) (defBody s_Shade_parts_at) (defScope s_Shade_parts_at) [] [] (He.fAd K ("Shade", some "parts_at")) fd := T.says.def_ 54 (d := d_Shade_parts_at) rfl
theorem Txt.f_Plain_init : ∃ fd, FunD K "__init__" "Plain.__init__" (defArgs s_Plain_init) (defBody s_Plain_init) (defScope s_Plain_init) [] [] (He.fAd K ("Plain", some "__init__")) fd := T.says.def_ 55 (d := d_Plain_init) rfl
theorem Txt.f_Plain_gives : ∃ fd, FunD K "gives" "Plain.gives" (defArgs s_Plain_gives) (defBody s_Plain_gives) (defScope s_Plain_gives) [] [] (He.fAd K ("Plain", some "gives")) fd := T.says.def_ 56 (d := d_Plain_gives) rfl
theorem Txt.f_Linear_init : ∃ fd, FunD K "__init__" "Linear.__init__" (defArgs s_Linear_init) (defBody s_Linear_init) (defScope s_Linear_init) [] [] (He.fAd K ("Linear", some "__init__")) fd := T.says.def_ 57 (d := d_Linear_init) rfl
theorem Txt.f_Linear_gives : ∃ fd, FunD K "gives" "Linear.gives" (defArgs s_Linear_gives) (defBody s_Linear_gives) (defScope s_Linear_gives) [] [] (He.fAd K ("Linear", some "gives")) fd := T.says.def_ 58 (d := d_Linear_gives) rfl
theorem Txt.f_Radial_init : ∃ fd, FunD K "__init__" "Radial.__init__" (defArgs s_Radial_init) (defBody s_Radial_init) (defScope s_Radial_init) [] [] (He.fAd K ("Radial", some "__init__")) fd := T.says.def_ 59 (d := d_Radial_init) rfl
theorem Txt.f_Radial_gives : ∃ fd, FunD K "gives" "Radial.gives" (defArgs s_Radial_gives) (defBody s_Radial_gives) (defScope s_Radial_gives) [] [] (He.fAd K ("Radial", some "gives")) fd := T.says.def_ 60 (d := d_Radial_gives) rfl
theorem Txt.f_Picture_init : ∃ fd, FunD K "__init__" "Picture.__init__" (defArgs s_Picture_init) (defBody s_Picture_init) (defScope s_Picture_init) [] [] (He.fAd K ("Picture", some "__init__")) fd := T.says.def_ 61 (d := d_Picture_init) rfl
theorem Txt.f_Picture_colour_in : ∃ fd, FunD K "colour_in" "Picture.colour_in" (defArgs s_Picture_colour_in) (defBody s_Picture_colour_in) (defScope s_Picture_colour_in) [] [] (He.fAd K ("Picture", some "colour_in")) fd := T.says.def_ 62 (d := d_Picture_colour_in) rfl
theorem Txt.f_Pictured_init : ∃ fd, FunD K "__init__" "Pictured.__init__" (defArgs s_Pictured_init) (defBody s_Pictured_init) (defScope s_Pictured_init) [] [] (He.fAd K ("Pictured", some "__init__")) fd := T.says.def_ 63 (d := d_Pictured_init) rfl
theorem Txt.f_Pictured_gives : ∃ fd, FunD K "gives" "Pictured.gives" (defArgs s_Pictured_gives) (defBody s_Pictured_gives) (defScope s_Pictured_gives) [] [] (He.fAd K ("Pictured", some "gives")) fd := T.says.def_ 64 (d := d_Pictured_gives) rfl
theorem Txt.f_Pictured_smoothed : ∃ fd, FunD K "smoothed" "Pictured.smoothed" (defArgs s_Pictured_smoothed) (defBody s_Pictured_smoothed) (defScope s_Pictured_smoothed) [] [] (He.fAd K ("Pictured", some "smoothed")) fd := T.says.def_ 65 (d := d_Pictured_smoothed) rfl
theorem Txt.f_Layer_init : ∃ fd, FunD K "__init__" "Layer.__init__" (defArgs s_Layer_init) (defBody s_Layer_init) (defScope s_Layer_init) [] [] (He.fAd K ("Layer", some "__init__")) fd := T.says.def_ 66 (d := d_Layer_init) rfl
theorem Txt.f_Canvas_init : ∃ fd, FunD K "__init__" "Canvas.__init__" (defArgs s_Canvas_init) (defBody s_Canvas_init) (defScope s_Canvas_init) [] [] (He.fAd K ("Canvas", some "__init__")) fd := T.says.def_ 67 (d := d_Canvas_init) rfl
theorem Txt.f_Canvas_clear_page : ∃ fd, FunD K "clear_page" "Canvas.clear_page" (defArgs s_Canvas_clear_page) (defBody s_Canvas_clear_page) (defScope s_Canvas_clear_page) [] [] (He.fAd K ("Canvas", some "clear_page")) fd := T.says.def_ 68 (d := d_Canvas_clear_page) rfl
theorem Txt.f_Canvas_add_picture : ∃ fd, FunD K "add_picture" "Canvas.add_picture" (defArgs s_Canvas_add_picture) (defBody s_Canvas_add_picture) (defScope s_Canvas_add_picture) [] [] (He.fAd K ("Canvas", some "add_picture")) fd := T.says.def_ 69 (d := d_Canvas_add_picture) rfl
theorem Txt.f_Canvas_add_paint : ∃ fd, FunD K "add_paint" "Canvas.add_paint" (defArgs s_Canvas_add_paint) (defBody s_Canvas_add_paint) (defScope s_Canvas_add_paint) [] [] (He.fAd K ("Canvas", some "add_paint")) fd := T.says.def_ 70 (d := d_Canvas_add_paint) rfl
theorem Txt.f_Canvas_add_plain : ∃ fd, FunD K "add_plain" "Canvas.add_plain" (defArgs s_Canvas_add_plain) (defBody s_Canvas_add_plain) (defScope s_Canvas_add_plain) [] [] (He.fAd K ("Canvas", some "add_plain")) fd := T.says.def_ 71 (d := d_Canvas_add_plain) rfl
theorem Txt.f_Canvas_add_linear : ∃ fd, FunD K "add_linear" "Canvas.add_linear" (defArgs s_Canvas_add_linear) (defBody s_Canvas_add_linear) (defScope s_Canvas_add_linear) [] [] (He.fAd K ("Canvas", some "add_linear")) fd := T.says.def_ 72 (d := d_Canvas_add_linear) rfl
theorem Txt.f_Canvas_add_radial : ∃ fd, FunD K "add_radial" "Canvas.add_radial" (defArgs s_Canvas_add_radial) (defBody s_Canvas_add_radial) (defScope s_Canvas_add_radial) [] [] (He.fAd K ("Canvas", some "add_radial")) fd := T.says.def_ 73 (d := d_Canvas_add_radial) rfl
theorem Txt.f_Canvas_add_pictured : ∃ fd, FunD K "add_pictured" "Canvas.add_pictured" (defArgs s_Canvas_add_pictured) (defBody s_Canvas_add_pictured) (defScope s_Canvas_add_pictured) [] [] (He.fAd K ("Canvas", some "add_pictured")) fd := T.says.def_ 74 (d := d_Canvas_add_pictured) rfl
theorem Txt.f_Canvas_begin_clip : ∃ fd, FunD K "begin_clip" "Canvas.begin_clip" (defArgs s_Canvas_begin_clip) (defBody s_Canvas_begin_clip) (defScope s_Canvas_begin_clip) [] [] (He.fAd K ("Canvas", some "begin_clip")) fd := T.says.def_ 75 (d := d_Canvas_begin_clip) rfl
theorem Txt.f_Canvas_end_clip : ∃ fd, FunD K "end_clip" "Canvas.end_clip" (defArgs s_Canvas_end_clip) (defBody s_Canvas_end_clip) (defScope s_Canvas_end_clip) [] [] (He.fAd K ("Canvas", some "end_clip")) fd := T.says.def_ 76 (d := d_Canvas_end_clip) rfl
theorem Txt.f_Canvas_begin_group : ∃ fd, FunD K "begin_group" "Canvas.begin_group" (defArgs s_Canvas_begin_group) (defBody s_Canvas_begin_group) (defScope s_Canvas_begin_group) [] [] (He.fAd K ("Canvas", some "begin_group")) fd := T.says.def_ 77 (d := d_Canvas_begin_group) rfl
theorem Txt.f_Canvas_end_group : ∃ fd, FunD K "end_group" "Canvas.end_group" (defArgs s_Canvas_end_group) (defBody s_Canvas_end_group) (defScope s_Canvas_end_group) [] [] (He.fAd K ("Canvas", some "end_group")) fd := T.says.def_ 78 (d := d_Canvas_end_group) rfl
theorem Txt.f_Canvas_add_mark : ∃ fd, FunD K "add_mark" "Canvas.add_mark" (defArgs s_Canvas_add_mark) (defBody s_Canvas_add_mark) (defScope s_Canvas_add_mark) [] [] (He.fAd K ("Canvas", some "add_mark")) fd := T.says.def_ 79 (d := d_Canvas_add_mark) rfl
theorem Txt.f_Canvas_draw_dots : ∃ fd, FunD K "draw_dots" "Canvas.draw_dots" (defArgs s_Canvas_draw_dots) (defBody s_Canvas_draw_dots) (defScope s_Canvas_draw_dots) [] [] (He.fAd K ("Canvas", some "draw_dots")) fd := T.says.def_ 80 (d := d_Canvas_draw_dots) rfl
end
end Pd
end
section
set_option Elab.async false
set_option linter.all false
set_option maxRecDepth 100000
set_option maxHeartbeats 0
noncomputable section
namespace Pd
open PySem PySem.W PySem.Calls PyProof.Rows HeadRun
abbrev Rw : OpenSpec := PySem.Challenge.rw_pagedots_s01_answers
abbrev qv : Program := view Prg [81]
abbrev hk : PySem.W.Hook := He.hookX 4 fa fn [] [] ex
def ob (s : SharedT) : hk.α := He.obsX 4 fa fn [] [] ex (getT s)
theorem ob_eq (s : SharedT) : ob s = hk.obs s.abs := He.obsX_eq (getT_eq s)
/-! the top run three times: three looks at what it leaves -/
theorem run_c (w : World) (os : OsState) : (endF (stepQ (denQ tabQ) Prg w) 7000 Prg w os).map ob = some (hk.val w) := by
  kernel_rfl
theorem run_a (w : World) (os : OsState) : (endF (stepQ (denQ tabQ) Prg w) 7000 Prg w os).map (fun s => looksF Prg (boot_heap w.params) s.abs) = some true := by
  kernel_rfl
theorem run_b (w : World) (os : OsState) : (endF (stepQ (denQ tabQ) Prg w) 7000 Prg w os).map (fun s => seenQ qv names (importedModules Prg.main.body) (fun s => xlAt qv [] s && recOk [] s) s.abs) = some (openGood qv names) := by
  kernel_rfl
theorem three {S A B C : Type} {o : Option S} {f : S → A} {g : S → B} {h : S → C} {a : A} {b : B} {c : C} (e1 : o.map f = some a) (e2 : o.map g = some b) (e3 : o.map h = some c) : o.map (fun s => (f s, g s, h s)) = some (a, b, c) := by
  cases o with
  | none => cases e1
  | some s =>
    have q1 : f s = a := Option.some.inj e1
    have q2 : g s = b := Option.some.inj e2
    have q3 : h s = c := Option.some.inj e3
    show some (f s, g s, h s) = some (a, b, c)
    rw [q1, q2, q3]
theorem runs (w : World) : RunEqS Rw qv hk ob 7000 names w := fun os => three (run_a w os) (run_b w os) (run_c w os)
end Pd
end
end
section
set_option Elab.async false
set_option linter.all false
set_option maxRecDepth 100000
set_option maxHeartbeats 4000000
/-! Rules and wrappers over the hand layer -/
namespace Pd
open PySem PySem.Spec PyProof.Rows L2
/-- the def at f keeps the promise sp; its arguments bind one by one -/
structure Ok (P : Program) (w : World) (K : PySem.W.Frag) (mg : Str → Option Value) (base : Heap) (CX : CXT) (k : Nat) (f : Addr) (ps : List Str) (sp : Sp) : Prop where
  run : ∃ fd, FnOk P w K mg base CX k f fd ps sp ∧ Binds K fd ps []
  kp : PySem.W.keepIn K (.ref f) = true
section
variable {P : Program} {w : World} {K : PySem.W.Frag} {mg : Str → Option Value} {base : Heap}
/-- binding of all parameters, whatever the def's other parts -/
def BindAll (x qual : Str) (st : Stmt) (ps : List Str) : Prop := ∀ (kV doc pm : Value) (an : Option Addr) (cdv ct : Value) (us : List Value), us.length = ps.length →
  bindArgs (PySem.W.fnOf x qual (defArgs st) (defBody st) (defScope st) .none kV doc pm an cdv ct) ⟨us, []⟩ = pure (ps.zip us)
/-- a def that lets no error out -/
theorem mk_ok {x qual : Str} {st : Stmt} {f : Addr} {N ps : List Str} {k : Nat} {sp : Sp} (F : ∃ fd, FunD K x qual (defArgs st) (defBody st) (defScope st) [] [] f fd) (S : FnScope N ps (defScope st)) (bind : BindAll x qual st ps)
    (len : ∀ vs H Q E, sp vs H Q E → vs.length = ps.length)
    (body : ∀ (cdv : Value) (A : Around) (outer : List Env) (s : Shared) (H : Hp) (vs : List V) (Q : VK) (E : XK), Room k (A.deeper (envOfC qual (defScope st) s.heap.objs.size f cdv)) → sp vs H Q E →
      ∃ t, PSs (cxOf CX0 P w K mg base N qual (defScope st) f cdv A outer s H E).nox (defBody st) t ∧ t { nx := fun _ H' => Q .non H', rt := Q } (start N vs) H) : Ok P w K mg base CX0 (k + 1) f ps sp := by
  obtain ⟨fd, F⟩ := F
  refine ⟨⟨fd, F.ok S len fun cdv A outer s H vs Q E hr h => ?_, F.bindsN bind⟩, F.kp⟩
  obtain ⟨t, h1, h2⟩ := body cdv A outer s H vs Q E hr h
  exact ⟨t, h1.nox, h2⟩
/-- a def that may raise -/
theorem mk_okX {x qual : Str} {st : Stmt} {f : Addr} {N ps : List Str} {k : Nat} {sp : Sp} (F : ∃ fd, FunD K x qual (defArgs st) (defBody st) (defScope st) [] [] f fd) (S : FnScope N ps (defScope st)) (bind : BindAll x qual st ps)
    (len : ∀ vs H Q E, sp vs H Q E → vs.length = ps.length)
    (body : ∀ (cdv : Value) (A : Around) (outer : List Env) (s : Shared) (H : Hp) (vs : List V) (Q : VK) (E : XK), Room k (A.deeper (envOfC qual (defScope st) s.heap.objs.size f cdv)) → sp vs H Q E →
      ∃ t, PSs (cxOf (L2.CX P w) P w K mg base N qual (defScope st) f cdv A outer s H E) (defBody st) t ∧ t { nx := fun _ H' => Q .non H', rt := Q } (start N vs) H) : Ok P w K mg base (L2.CX P w) (k + 1) f ps sp := by
  obtain ⟨fd, F⟩ := F
  exact ⟨⟨fd, F.ok S len body, F.bindsN bind⟩, F.kp⟩
theorem Ok.mono {CX : CXT} {j k : Nat} {f : Addr} {ps : List Str} {sp : Sp} (F : Ok P w K mg base CX j f ps sp) (h : j ≤ k) : Ok P w K mg base CX k f ps sp :=
  let ⟨fd, a, b⟩ := F.run
  ⟨⟨fd, a.mono h, b⟩, F.kp⟩
theorem Ok.imp {CX : CXT} {k : Nat} {f : Addr} {ps : List Str} {sp sp' : Sp} (F : Ok P w K mg base CX k f ps sp) (h : ∀ vs H Q E, sp' vs H Q E → sp vs H Q E) : Ok P w K mg base CX k f ps sp' :=
  let ⟨fd, a, b⟩ := F.run
  ⟨⟨fd, a.imp h, b⟩, F.kp⟩
end
section
variable {X : Cx} {CX : CXT} {j k : Nat} {f C : Addr} {ps : List Str} {sp : Sp} {E : XK} {x m : Str} {p pos apos : Pos} {e o : Expr} {es : List Expr} {ta : TE} {t : TA}
/-! ### calls -/
theorem c_call (F : Ok X.prog X.w X.K X.mg X.base CX j f ps sp) (hr : Room k X.A) (hj : j ≤ k) (hg : Gl X x) (hm : X.mg x = some (.ref f)) (hx : Passes CX X E) (ha : PA X (e :: es) t) (hdb : (x == ("__debug__" : Str)) = false := by decide)
    (he : starEach (e :: es) X.env = (false, eval e X.env) :: starEach es X.env := by rfl) (hpl : (backTo pos (starEach es X.env)).any (·.1) = false := by rfl) : PE X (.Call (.Name x p) (e :: es) [] pos) (tCall sp [] E t) :=
  let ⟨_, a, b⟩ := F.run
  pe_call a (hr.mono hj) hg hm F.kp b .nil hx ha hdb he hpl
theorem c_call0 (F : Ok X.prog X.w X.K X.mg X.base CX j f ps sp) (hr : Room k X.A) (hj : j ≤ k) (hg : Gl X x) (hm : X.mg x = some (.ref f)) (hx : Passes CX X E) (hdb : (x == ("__debug__" : Str)) = false := by decide) :
    PE X (.Call (.Name x p) [] [] pos) (tCall sp [] E tNil) :=
  let ⟨_, a, b⟩ := F.run
  pe_call0 a (hr.mono hj) hg hm F.kp b .nil hx hdb
theorem c_meth {pl : Sem Bool} (F : Ok X.prog X.w X.K X.mg X.base CX j f ps sp) (hr : Room k X.A) (hj : j ≤ k) (c : Cls X.K C) (hm : Meth X.K C m f) (hx : Passes CX X E) (he : PE X o ta) (ha : PA X (e :: es) t)
    (hst : starEach (e :: es) X.env = (false, eval e X.env) :: starEach es X.env := by rfl) (hpl : (backTo pos (starEach es X.env)).any (·.1) = false := by rfl)
    (ht : eval (.Call (.Attribute o m apos) (e :: es) [] pos) X.env = (do
      let ov ← eval o X.env
      standAt apos.atName
      let (g, first) ← holding [ov] (getMethod ov m pl)
      callWith pos g first (backTo pos (starEach (e :: es) X.env)) (backToKw pos (keywordEach [] X.env))) := by rfl) : PE X (.Call (.Attribute o m apos) (e :: es) [] pos) (tMeth C m sp [] E ta t) :=
  let ⟨_, a, b⟩ := F.run
  pe_meth he c hm a (hr.mono hj) b .nil hx ha hst hpl ht
theorem c_meth0 {pl : Sem Bool} (F : Ok X.prog X.w X.K X.mg X.base CX j f ps sp) (hr : Room k X.A) (hj : j ≤ k) (c : Cls X.K C) (hm : Meth X.K C m f) (hx : Passes CX X E) (he : PE X o ta)
    (ht : eval (.Call (.Attribute o m apos) [] [] pos) X.env = (do
      let ov ← eval o X.env
      standAt apos.atName
      let (g, first) ← holding [ov] (getMethod ov m pl)
      callWith pos g first (backTo pos (starEach [] X.env)) (backToKw pos (keywordEach [] X.env))) := by rfl) : PE X (.Call (.Attribute o m apos) [] [] pos) (tMeth C m sp [] E ta tNil) :=
  let ⟨_, a, b⟩ := F.run
  pe_meth0 he c hm a (hr.mono hj) b .nil hx ht
theorem c_make (F : Ok X.prog X.w X.K X.mg X.base CX j f ps sp) (M : Mk X.K C f) (hr : Room k X.A) (hj : j + 1 ≤ k) (hg : Gl X x) (hm : X.mg x = some (.ref C)) (hx : ∀ E, Passes CX X E) (ha : PA X (e :: es) t) (hdb : (x == ("__debug__" : Str)) = false := by decide)
    (he : starEach (e :: es) X.env = (false, eval e X.env) :: starEach es X.env := by rfl) (hpl : (backTo pos (starEach es X.env)).any (·.1) = false := by rfl) : PE X (.Call (.Name x p) (e :: es) [] pos) (tMake C sp [] E0 t) :=
  let ⟨_, a, b⟩ := F.run
  pe_make M a (hr.mono hj) hg hm b .nil (hx _) ha hdb he hpl
theorem c_make0 (F : Ok X.prog X.w X.K X.mg X.base CX j f ps sp) (M : Mk X.K C f) (hr : Room k X.A) (hj : j + 1 ≤ k) (hg : Gl X x) (hm : X.mg x = some (.ref C)) (hx : ∀ E, Passes CX X E) (hdb : (x == ("__debug__" : Str)) = false := by decide) :
    PE X (.Call (.Name x p) [] [] pos) (tMake C sp [] E0 tNil) :=
  let ⟨_, a, b⟩ := F.run
  pe_make0 M a (hr.mono hj) hg hm b .nil (hx _) hdb
/-- what a def that may raise lets out goes on as the def around it wishes -/
theorem out_of (tk : Takes X (fun cls d _ H => E cls d H)) : Passes (L2.CX X.prog X.w) X E := passes_call tk fun _ _ _ _ h => h
/-- one of two readings: a call of a method of one of two classes -/
def tAlt (t u : TE) : TE := fun σ H Q => t σ H Q ∨ u σ H Q
theorem pe_alt {u1 u2 : TE} (h1 : PE X e u1) (h2 : PE X e u2) : PE X e (tAlt u1 u2) := ⟨fun pins s σ H Q I h => h.elim (h1.run pins s σ H Q I) (h2.run pins s σ H Q I)⟩
/-- a module's whole number -/
theorem c_int {v : Int} (hg : Gl X x) (h : ∃ tok, X.mg x = some (.int v tok)) (hd : (x == ("__debug__" : Str)) = false := by decide) : PE X (.Name x pos) (tC (.int v)) :=
  let ⟨_, e⟩ := h
  pe_glob hg e ⟨_, rfl⟩ hd
/-! ### a list's item by values, for xs[i] += e -/
def rGetL (K : PySem.W.Frag) : V → V → Hp → VK → Prop := fun o i H Q => ∃ (l : Addr) (xs : List V) (n : Nat) (v : V), o = .ref l ∧ i = .int (n : Int) ∧ SqL K H l xs ∧ xs[n]? = some v ∧ Q v H
theorem get_list : PGet X (rGetL X.K) := by
  intro pins s σ H o i ov iv Q I ro ri h
  obtain ⟨l, xs, n, v, rfl, rfl, hl, hv, q⟩ := h
  cases ro
  obtain ⟨tok, rfl⟩ := ri
  obtain ⟨its, rv, pl, hz⟩ := I.list hl
  obtain ⟨u, hu, ru⟩ := rv.get hv
  have hn : n < xs.length := (List.getElem?_eq_some_iff.mp hv).1
  have line := line63
  exact wpAny_getItem_list pl.isList (by omega) (by omega) (by simpa using hu) ⟨v, H, I, ru, q⟩
/-! ### any of a list of whole numbers -/
def rAnyI (K : PySem.W.Frag) : List V → Hp → VK → Prop := fun vs H Q => ∃ (a : Addr) (ns : List Int), vs = [V.ref a] ∧ SqL K H a (ns.map V.int) ∧ Q (.bl (ns.any fun n => n != 0)) H
theorem truth_ints {prog : Program} {w : World} {A : Around} {ns : List Int} {its : List Value} (r : IntsAre its ns) :
    TruthOf prog w A (fun i v => its.toArray[i]? = some v) (fun i => ns.getD i 0 != 0) := fun i v s Q E hv hq => by
  have hv2 : its[i]? = some v := by simpa using hv
  obtain ⟨n, tok, e1, e2⟩ : ∃ n tok, v = .int n tok ∧ ns[i]? = some n := by
    have : ∀ {its : List Value} {ns : List Int}, IntsAre its ns → ∀ {i : Nat} {v : Value}, its[i]? = some v → ∃ n tok, v = .int n tok ∧ ns[i]? = some n := by
      intro its ns r
      induction r with
      | nil => intro i v h; simp at h
      | @cons k vs ks tok rr ih =>
        intro i v h
        cases i with
        | zero => simp at h; exact ⟨_, _, h.symm, rfl⟩
        | succ i => exact ih (by simpa using h)
    exact this r hv2
  subst e1
  have hg : ns.getD i 0 = n := by rw [List.getD_eq_getElem?_getD, e2] <;> rfl
  have hq2 : Q (ns.getD i 0 != 0) s := hq
  rw [hg] at hq2
  exact P.truthy_int hq2
theorem any_int : ∀ ns : List Int, (List.range ns.length).any (fun i => ns.getD i 0 != 0) = ns.any fun n => n != 0
  | [] => rfl
  | n :: ns => by
    rw [List.length_cons, List.range_succ_eq_map, List.any_cons, List.any_map, List.any_cons, ← any_int ns]
    all_goals rfl
theorem cr_anyI (hc : X.calm = true) : CallR X (.builtin "any") (rAnyI X.K) := by
  intro pins s σ H vs us Q I r h
  obtain ⟨a, ns, rfl, hs, q⟩ := h
  obtain ⟨its, rv, hl, _⟩ := I.list hs
  rw [Vals.ref1 r]
  have hb := rv.ints
  have hlen : its.length = ns.length := by have := rv.length; simpa using this.symm
  refine call_any_walk (iter_any hl.isList fun s2 e2 st hne => ?_)
  subst e2
  refine ⟨_, _, _, _, _, _, _, rfl, Walks.list (A := X.A.in1) (I.ok.hd hc) _ a hne its.toArray, st, truth_ints hb, fun h' tk hk => ?_⟩
  refine ⟨.bl _, H, I.kept fun b o eo => hk b o (fun mem => ?_) (Heap.get?_push_of_some _ eo), ?_, q⟩
  · rcases List.mem_cons.mp mem with e1 | mem
    · exact absurd (e1 ▸ Heap.lt_size eo) (Nat.lt_irrefl _)
    · cases mem
  · show Value.bool _ = Value.bool _
    rw [← any_int, List.size_toArray, hlen]
/-! ### X(), X an own error class without __init__ -/
theorem pmk_own0 {bmB : List Value} {B newId initId : String} (F : ExcBaseFacts B newId initId bmB) (q : PySem.W.excIn X.K C bmB newId = true) (gC : X.mg x = some (.ref C)) (kC : PySem.W.keepIn X.K (.ref C) = true) (r : Raises X (.ref C)) (hg : Gl X x)
    (hdb : (x == ("__debug__" : Str)) = false := by decide) : PMk X (.Call (.Name x p) [] [] pos) (fun _ H Q => Q (.ref C) none H) := by
  intro pins s σ H Q I h
  refine wpAny_Call_Name_kw (ld_glob I hg gC ?_ hdb)
  refine PySem.W.callWith_K0 I.kIn kC ?_
  obtain ⟨bm, N, nm, qn, bs, hdct, sn, sub, ab, col, dd, k0, k1, k2, k3, k5, mN, hC, hN, hni, T⟩ := exc_obj I.kIn q
  refine wpAny_call_exc_subT F T hC hN hni (fun h' e hm => ?_) (Nat.zero_le _)
  exact mk_of I hm r h (I.hok.gone hm.new)
end
/-! ### the same rules, the written part named: K in X.K's place (a comprehension's elements must not name their block) -/
section
variable {X : Cx} {K : PySem.W.Frag} {e o value e2 b : Expr} {es elts : List Expr} {f : Str} {pos pos' apos cpos tpos p p2 : Pos} {ta tv te : TE} {t : TA} {tl th : TO} {tg : Expr} {kk n : Nat} {lo hi : Option Expr}
theorem kx_fld (hk : X.K = K) (he : PE X e ta) (hb : attributeBase e f X.env (eval e X.env) = eval e X.env) : PE X (.Attribute e f pos) (tFld K ta f) := by
  subst hk
  exact pe_fld he hb
theorem kx_sfld (hk : X.K = K) (ha : PE X o ta) (hv : PE X value tv) (hs : swapsWith value (some (.Attribute o f pos')) pos.line X.env = pure false) : PS X (.Assign [.Attribute o f pos'] value pos) (sFld K ta tv f) := by
  subst hk
  exact ps_fld ha hv hs
theorem kx_aug {op : Operator} {rd : V → V → Hp → VK → Prop} (hk : X.K = K) (ha : PE X o ta) (hv : PE X value tv) (hop : InOp X op rd) : PS X (.AugAssign (.Attribute o f tpos) op value pos) (sFldAug K ta tv rd f) := by
  subst hk
  exact ps_fldaug ha hv hop
theorem kx_ixl (hk : X.K = K) : IxR X (rIxL K) := by subst hk; exact ix_list
theorem kx_ixt (hk : X.K = K) : IxR X (rIxT K) := by subst hk; exact ix_tup
theorem kx_sll (hk : X.K = K) : SlR X (rSlL K) := by subst hk; exact sl_list
theorem kx_slt (hk : X.K = K) : SlR X (rSlT K) := by subst hk; exact sl_tup
theorem kx_list {l : Expr} {tl : TE} (hk : X.K = K) (hl : PE X l tl) : PI X tg l (iList K tl) := by subst hk; exact pi_list hl
theorem kx_tupi {l : Expr} {tl : TE} (hk : X.K = K) (hl : PE X l tl) : PI X tg l (iTup K tl) := by subst hk; exact pi_tup hl
theorem kx_enum (hk : X.K = K) (hg : Gl X "enumerate") (hm : X.mg "enumerate" = none) (ha : PA X [e] t) (hs : starEach [e] X.env = [(false, eval e X.env)] := by rfl) : PI X (.Tuple elts kk tpos) (.Call (.Name "enumerate" p) [e] [] pos) (iEnum K t) := by
  subst hk
  exact pi_enum hg hm ha hs
theorem kx_zip (hk : X.K = K) (hg : Gl X "zip") (hm : X.mg "zip" = none) (ha : PA X [e, e2] t) (hs : starEach [e, e2] X.env = (false, eval e X.env) :: starEach [e2] X.env := by rfl) (hpl : (backTo pos (starEach [e2] X.env)).any (·.1) = false := by rfl) :
    PI X (.Tuple elts kk tpos) (.Call (.Name "zip" p) [e, e2] [] pos) (iZip K t) := by
  subst hk
  exact pi_zip hg hm ha hs hpl
theorem kx_zipA (hk : X.K = K) (hg : Gl X "zip") (hm : X.mg "zip" = none) (ha : PA X [e, e2] t) (hs : starEach [e, e2] X.env = (false, eval e X.env) :: starEach [e2] X.env := by rfl) (hpl : (backTo pos (starEach [e2] X.env)).any (·.1) = false := by rfl) :
    PI X (.Tuple elts kk tpos) (.Call (.Name "zip" p) [e, e2] [] pos) (RZ.iZipA K t) := by
  subst hk
  exact RZ.pi_zipA hg hm ha hs hpl
theorem kx_tup {k : Nat} {u : TGs} (hk : X.K = K) (hc : X.calm = true) (h : PGs X es u) (hn : (assignEach es X.env).length = n := by rfl) (hst : (assignEach es X.env).findIdx? (·.1) = none := by rfl) : PG X (.Tuple es k pos) (gTup K n u) := by
  subst hk
  exact pg_tup hc h hn hst
theorem kx_bm0 {T id : String} {name : Str} {r : V → List V → Hp → VK → Prop} (hk : X.K = K) (pa : PlainAttrs T) (slot : Slot T name id) (hty : typeOf (.builtin id) = pure (.type "method_descriptor")) (hm : MtR X id r) (ho : PE X o ta)
    (hbase : attributeBase o name X.env (eval o X.env) = eval o X.env := by rfl) (hline : (apos.endLine == cpos.line) = true := by rfl) : PE X (.Call (.Attribute o name apos) [] [] cpos) (tBM0 K T r ta) := by
  subst hk
  exact pe_bm0 pa slot hty hm ho hbase hline
theorem kx_bm {T id : String} {name : Str} {r : V → List V → Hp → VK → Prop} (hk : X.K = K) (pa : PlainAttrs T) (slot : Slot T name id) (hty : typeOf (.builtin id) = pure (.type "method_descriptor")) (hm : MtR X id r) (ho : PE X o ta) (ha : PA X (e :: es) t)
    (hbase : attributeBase o name X.env (eval o X.env) = eval o X.env := by rfl)
    (hfew : ((backTo cpos (starEach (e :: es) X.env)).all (fun x => !x.1) && (backToKw cpos (keywordEach [] X.env)).all (fun x => x.1.isSome)
      && decide ((e :: es).length + ([] : List Keyword).length + (if ([] : List Keyword).isEmpty then 0 else 1) < 30)) = true := by rfl)
    (hline : (apos.endLine == cpos.line) = true := by rfl) (hs : starEach (e :: es) X.env = (false, eval e X.env) :: starEach es X.env := by rfl) (hplain : (backTo cpos (starEach es X.env)).any (·.1) = false := by rfl) :
    PE X (.Call (.Attribute o name apos) (e :: es) [] cpos) (tBM K T r ta t) := by
  subst hk
  exact pe_bm pa slot hty hm ho ha hbase hfew hline hs hplain
theorem kx_sum (hk : X.K = K) (hc : X.calm = true) : CallR X (.builtin "sum") (rSum K) := by subst hk; exact cr_sum hc
theorem kx_any (hk : X.K = K) (hc : X.calm = true) : CallR X (.builtin "any") (rAny K) := by subst hk; exact cr_any hc
theorem kx_all (hk : X.K = K) (hc : X.calm = true) : CallR X (.builtin "all") (rAll K) := by subst hk; exact cr_all hc
theorem kx_anyI (hk : X.K = K) (hc : X.calm = true) : CallR X (.builtin "any") (rAnyI K) := by subst hk; exact cr_anyI hc
theorem kx_sorted (hk : X.K = K) : CallR X (.builtin "sorted") (rSorted K) := by subst hk; exact cr_sorted
def rLen (K : PySem.W.Frag) : List V → Hp → VK → Prop := fun xs H Q => ∃ p ys, xs = [.ref p] ∧ (SqL K H p ys ∨ SqT K H p ys) ∧ Q (.int ys.length) H
theorem kx_len (hk : X.K = K) : CallR X (.builtin "len") (rLen K) := by subst hk; exact call_len_seq
def rTupOf (K : PySem.W.Frag) : List V → Hp → VK → Prop := fun xs H Q => ∃ p ys, xs = [.ref p] ∧ ((SqL K H p ys ∧ ∀ l, H l = none → Q (.ref l) (upd H l (.tup ys))) ∨ (SqT K H p ys ∧ Q (.ref p) H))
theorem kx_tuple (hk : X.K = K) : CallR X (.type "tuple") (rTupOf K) := by subst hk; exact call_tuple_of
def rListOf (K : PySem.W.Frag) : List V → Hp → VK → Prop := fun xs H Q => ∃ p ys, xs = [.ref p] ∧ (SqL K H p ys ∨ SqT K H p ys) ∧ ∀ l, H l = none → Q (.ref l) (upd H l (.lst ys))
theorem kx_listOf (hk : X.K = K) : CallR X (.type "list") (rListOf K) := by subst hk; exact call_list_of
theorem kx_eqD (hk : X.K = K) (hu : X.A.units + 64 < cLine) : OpR X (compareOp .Eq) (rEqD K) := by subst hk; exact op_eqD hu
theorem kx_get (hk : X.K = K) : PGet X (rGetL K) := by subst hk; exact get_list
end
/-! ### the three error classes -/
def ExcOk (K : PySem.W.Frag) (x : Str) : Prop := PySem.W.excIn K (He.ga K x) [.type "Exception", .type "BaseException", .type "object"] "Exception.__new__" = true ∧ PySem.W.keepIn K (.ref (He.ga K x)) = true ∧
  PySem.W.subIn K (.ref (He.ga K x)) (.type "BaseException") = some true ∧ PySem.W.typeIn K (.ref (He.ga K x)) = some (.type "type")
theorem excB_ok {K : PySem.W.Frag} {x : Str} (h : excB K x = true) : ExcOk K x := by
  obtain ⟨h1, h⟩ := He.ba h
  obtain ⟨h2, h⟩ := He.ba h
  obtain ⟨h3, h4⟩ := He.ba h
  exact ⟨h1, h2, of_decide_eq_true h3, of_decide_eq_true h4⟩
section
variable {K : PySem.W.Frag} {mg : Str → Option Value} (T : Txt K mg)
include T
theorem Txt.x_InvalidCall : ExcOk K "InvalidCall" := excB_ok (He.ba (He.ba T.more).1).1
theorem Txt.x_LimitReached : ExcOk K "LimitReached" := excB_ok (He.ba (He.ba (He.ba T.more).1).2).1
theorem Txt.x_GroupNotEnded : ExcOk K "GroupNotEnded" := excB_ok (He.ba (He.ba (He.ba T.more).1).2).2
theorem Txt.calls (H : Hp) : SqT K H (He.ga K "CALLS") (callsD.map (He.Dv.v K)) := He.tupB_ok (He.ba T.more).2 H
end
end Pd
end
section
set_option linter.all false
set_option maxHeartbeats 1000000
/-! Plain mathematics, no program in sight: whole roots -/
namespace Pd
/-! what the defs over whole numbers reckon -/
def mulI (x y : Int) : Int := (x * y + 127) / 255
def farB (x : Int) : Bool := decide (x < -1048576) || decide (1048576 < x)
def placeI (x y : Int) : Int := 64 * x + 4 * y + 2
def aloneI (p c : Int) : Int := if c = 0 then 0 else min ((255 * p + c / 2) / c) 255
def hardI (v u : Int) : Int := if v ≤ 127 then mulI (2 * v) u else 2 * v - 255 + u - mulI (2 * v - 255) u
def blendI (how v u : Int) : Int := if how = 1 then mulI v u else if how = 2 then v + u - mulI v u else if how = 3 then min v u else if how = 4 then max v u else if how = 5 then max v u - min v u else if how = 6 then hardI v u else hardI u v
def spreadI (how t : Int) : Int := if how = 0 then min (max t 0) 65536 else if how = 1 then t % 65536 else if t % 131072 ≤ 65536 then t % 131072 else 131072 - t % 131072
/-- r is the whole root of n -/
def IsRoot (n r : Int) : Prop := 0 ≤ r ∧ r * r ≤ n ∧ n < (r + 1) * (r + 1)
theorem sq_nonneg (a : Int) : 0 ≤ a * a := by
  rcases Int.le_total 0 a with h | h
  · exact Int.mul_nonneg h h
  · have := Int.mul_nonneg (Int.neg_nonneg_of_nonpos h) (Int.neg_nonneg_of_nonpos h)
    rwa [Int.neg_mul_neg] at this
theorem mul_le {a b c d : Int} (h1 : a ≤ b) (h2 : c ≤ d) (h3 : 0 ≤ a) (h4 : 0 ≤ c) : a * c ≤ b * d :=
  Int.le_trans (Int.mul_le_mul_of_nonneg_right h1 h4) (Int.mul_le_mul_of_nonneg_left h2 (Int.le_trans h3 h1))
theorem sq_le {a b : Int} (h1 : a ≤ b) (h3 : 0 ≤ a) : a * a ≤ b * b := mul_le h1 h1 h3 h3
/-- a root is one alone -/
theorem IsRoot.uniq {n r s : Int} (h : IsRoot n r) (k : IsRoot n s) : r = s := by
  obtain ⟨a1, a2, a3⟩ := h
  obtain ⟨b1, b2, b3⟩ := k
  rcases Int.lt_trichotomy r s with e | e | e
  · have := sq_le (show r + 1 ≤ s by omega) (by omega)
    omega
  · exact e
  · have := sq_le (show s + 1 ≤ r by omega) (by omega)
    omega
/-- one step of Newton's stays at or above the root -/
theorem newton_up {n r : Int} (hn : 0 ≤ n) (hr : 0 < r) : n < ((r + n / r) / 2 + 1) * ((r + n / r) / 2 + 1) := by
  have q1 : n < r * (n / r + 1) := by
    have e1 := Int.emod_add_mul_ediv n r
    have e2 := Int.emod_lt_of_pos n hr
    have e3 : r * (n / r + 1) = r * (n / r) + r := by rw [Int.mul_add, Int.mul_one]
    omega
  generalize n / r = q at q1 ⊢
  have hq : 0 ≤ q + 1 := by
    rcases Int.lt_or_le (q + 1) 0 with h | h
    · have := Int.mul_neg_of_pos_of_neg hr h
      omega
    · exact h
  have c2 : r + q + 1 ≤ 2 * ((r + q) / 2 + 1) := by omega
  generalize hc : (r + q) / 2 + 1 = c at c2 ⊢
  have h1 := sq_le c2 (by omega)
  have h2 := sq_nonneg (r - (q + 1))
  have h3 : (r + q + 1) * (r + q + 1) = (r - (q + 1)) * (r - (q + 1)) + 4 * (r * (q + 1)) := by
    simp only [Int.mul_add, Int.add_mul, Int.sub_mul, Int.mul_sub, Int.mul_one, Int.one_mul, Int.mul_comm q r]
    omega
  have h4 : 2 * c * (2 * c) = 4 * (c * c) := by
    rw [Int.mul_assoc, Int.mul_left_comm c 2 c, ← Int.mul_assoc] <;> rfl
  omega
/-- where the step doesn't fall, the root is there -/
theorem newton_end {n r : Int} (hn : 0 ≤ n) (hr : 0 < r) (hc : r ≤ (r + n / r) / 2) : r * r ≤ n := by
  have h1 : r ≤ n / r := by omega
  have h2 := Int.mul_le_mul_of_nonneg_left h1 (Int.le_of_lt hr)
  have h3 := Int.mul_ediv_self_le (x := n) (k := r) (Int.ne_of_gt hr)
  omega
/-! the specification's root is the root -/
theorem rootFrom_is (v : Nat) : ∀ (k r : Nat), r * r ≤ v → v < (r + 2 ^ k) * (r + 2 ^ k) → Vd.rootFrom v k r * Vd.rootFrom v k r ≤ v ∧ v < (Vd.rootFrom v k r + 1) * (Vd.rootFrom v k r + 1)
  | 0, r, h1, h2 => ⟨h1, h2⟩
  | k + 1, r, h1, h2 => by
    unfold Vd.rootFrom
    split
    · rename_i h
      refine rootFrom_is v k _ h ?_
      have e : r + 2 ^ k + 2 ^ k = r + 2 ^ (k + 1) := by rw [Nat.pow_succ]; omega
      rw [e]
      exact h2
    · rename_i h
      exact rootFrom_is v k r h1 (Nat.lt_of_not_le h)
theorem root_is (v : Nat) : Vd.root v * Vd.root v ≤ v ∧ v < (Vd.root v + 1) * (Vd.root v + 1) := by
  refine rootFrom_is v _ 0 (Nat.zero_le _) ?_
  rw [Nat.zero_add]
  rcases Nat.eq_zero_or_pos v with h | h
  · subst h
    exact Nat.mul_pos (Nat.two_pow_pos _) (Nat.two_pow_pos _)
  · have h1 : v < 2 ^ (Nat.log2 v + 1) := Nat.lt_log2_self
    rw [← Nat.pow_add]
    exact Nat.lt_of_lt_of_le h1 (Nat.pow_le_pow_right (by decide) (by omega))
theorem root_isRoot (v : Nat) : IsRoot (v : Int) (Vd.root v : Int) := by
  obtain ⟨h1, h2⟩ := root_is v
  refine ⟨Int.natCast_nonneg _, by exact_mod_cast h1, by exact_mod_cast h2⟩
/-- what is begun with is above -/
theorem begin_up {n : Int} {b : Nat} (h0 : 0 ≤ n) (h : n < 2 ^ b) : n < (2 ^ ((b + 1) / 2) + 1) * (2 ^ ((b + 1) / 2) + 1) := by
  have p : (0 : Int) < 2 ^ ((b + 1) / 2) := Int.pow_pos (by decide)
  have h1 : (2 : Int) ^ b ≤ 2 ^ ((b + 1) / 2) * 2 ^ ((b + 1) / 2) := by
    rw [← Int.pow_add]
    have := Nat.pow_le_pow_right (n := 2) (by decide) (show b ≤ (b + 1) / 2 + (b + 1) / 2 by omega)
    exact_mod_cast this
  have h2 := sq_le (show (2 : Int) ^ ((b + 1) / 2) ≤ 2 ^ ((b + 1) / 2) + 1 by omega) (by omega)
  omega
/-! ### colours: the program's numbers are the specification's -/
open Vd
theorem mulI_nat (x y : Nat) : mulI x y = (Vd.mul x y : Nat) := rfl
theorem mul_le_left {x y : Nat} (h : y ≤ 255) : Vd.mul x y ≤ x := by
  unfold Vd.mul
  have := Nat.mul_le_mul_left x h
  omega
theorem mul_le_right {x y : Nat} (h : x ≤ 255) : Vd.mul x y ≤ y := by
  unfold Vd.mul
  have := Nat.mul_le_mul_right y h
  omega
theorem alone_le (p c : Nat) : Vd.alone p c ≤ 255 := by
  unfold Vd.alone
  split
  · exact Nat.zero_le _
  · exact Nat.min_le_left _ _
theorem aloneI_nat (p c : Nat) : aloneI p c = (Vd.alone p c : Nat) := by
  unfold aloneI Vd.alone
  by_cases h : c = 0
  · subst h; rfl
  · rw [if_neg h, if_neg (by omega)]
    have e : ((255 : Int) * p + (c : Int) / 2) / c = (((255 * p + c / 2) / c : Nat) : Int) := rfl
    rw [e]
    omega
theorem screen_nat {v u : Nat} (h : v ≤ 255) : (v : Int) + u - mulI v u = (Vd.screen v u : Nat) := by
  have := mul_le_right (y := u) h
  rw [mulI_nat]
  unfold Vd.screen
  omega
theorem hardI_nat {v u : Nat} (h : v ≤ 255) : hardI v u = (Vd.overlay v u : Nat) := by
  unfold hardI Vd.overlay
  by_cases c : v ≤ 127
  · rw [if_pos c, if_pos (by omega)]
    have e : (2 : Int) * v = ((2 * v : Nat) : Int) := by push_cast; rfl
    rw [e, mulI_nat]
  · rw [if_neg c, if_neg (by omega)]
    have e : (2 : Int) * v - 255 = ((2 * v - 255 : Nat) : Int) := by omega
    rw [e]
    exact screen_nat (by omega)
theorem blendI_nat {k v u : Nat} (hv : v ≤ 255) (hu : u ≤ 255) : blendI k v u = (Vd.blend k v u : Nat) := by
  unfold blendI Vd.blend
  have w : ∀ n : Nat, ((k : Int) = (n : Int)) = (k = n) := fun n => propext Int.ofNat_inj
  by_cases c1 : k = 1
  · rw [if_pos c1, if_pos (by omega)]; rfl
  rw [if_neg c1, if_neg (by omega)]
  by_cases c2 : k = 2
  · rw [if_pos c2, if_pos (by omega)]; exact screen_nat hv
  rw [if_neg c2, if_neg (by omega)]
  by_cases c3 : k = 3
  · rw [if_pos c3, if_pos (by omega)]; omega
  rw [if_neg c3, if_neg (by omega)]
  by_cases c4 : k = 4
  · rw [if_pos c4, if_pos (by omega)]; omega
  rw [if_neg c4, if_neg (by omega)]
  by_cases c5 : k = 5
  · rw [if_pos c5, if_pos (by omega)]; omega
  rw [if_neg c5, if_neg (by omega)]
  by_cases c6 : k = 6
  · rw [if_pos c6, if_pos (by omega)]; exact hardI_nat hv
  rw [if_neg c6, if_neg (by omega)]
  exact hardI_nat hu
/-- each part at most 255 -/
def Sml (c : Col) : Prop := c.r ≤ 255 ∧ c.g ≤ 255 ∧ c.b ≤ 255 ∧ c.a ≤ 255
/-- laid on: no part above the cover, which is at most 255 -/
def Pre (c : Col) : Prop := c.r ≤ c.a ∧ c.g ≤ c.a ∧ c.b ≤ c.a ∧ c.a ≤ 255
theorem Pre.sml {c : Col} (h : Pre c) : Sml c := by
  obtain ⟨a, b, d, e⟩ := h
  exact ⟨by omega, by omega, by omega, e⟩
theorem Sml.laid {c : Col} (h : Sml c) : Pre c.laid := by
  obtain ⟨a, b, d, e⟩ := h
  exact ⟨mul_le_right a, mul_le_right b, mul_le_right d, e⟩
theorem nothing_pre : Pre Vd.nothing := ⟨Nat.le_refl _, Nat.le_refl _, Nat.le_refl _, Nat.zero_le _⟩
theorem colOf_sml (n : Nat) : Sml (Vd.colOf n) := ⟨by show _ % 256 ≤ 255; omega, by show _ % 256 ≤ 255; omega, by show _ % 256 ≤ 255; omega, by show _ % 256 ≤ 255; omega⟩
theorem cover_le {s d : Nat} (hs : s ≤ 255) (hd : d ≤ 255) : Vd.coverOf s d ≤ 255 := by
  unfold Vd.coverOf Vd.mul
  obtain ⟨a, ha⟩ : ∃ a, s + a = 255 := ⟨255 - s, by omega⟩
  obtain ⟨b, hb⟩ : ∃ b, d + b = 255 := ⟨255 - d, by omega⟩
  have h1 : d * s + d * a = d * 255 := by rw [← Nat.mul_add, ha]
  have h2 : a * d + a * b = a * 255 := by rw [← Nat.mul_add, hb]
  have h3 : d * a = a * d := Nat.mul_comm _ _
  omega
theorem mul_mono {x y u v : Nat} (h : x ≤ y) (k : u ≤ v) : Vd.mul x u ≤ Vd.mul y v := by
  unfold Vd.mul
  have := Nat.mul_le_mul h k
  omega
/-- what is seen through a cover rises with what lies below -/
theorem through_mono {x y s : Nat} (hs : s ≤ 255) (h : x ≤ y) : x - Vd.mul x s ≤ y - Vd.mul y s := by
  obtain ⟨e, rfl⟩ : ∃ e, y = x + e := ⟨y - x, by omega⟩
  unfold Vd.mul
  have h1 : (x + e) * s = x * s + e * s := Nat.add_mul _ _ _
  have h2 : e * s ≤ e * 255 := Nat.mul_le_mul_left _ hs
  rw [h1]
  omega
theorem mixPart_le {k S D s d : Nat} (hS : S ≤ s) (hD : D ≤ d) (hs : s ≤ 255) : Vd.mixPart k S D s d ≤ Vd.coverOf s d := by
  unfold Vd.mixPart
  split
  · have h1 := through_mono hs hD
    have h2 := mul_le_left (x := D) hs
    have h3 := mul_le_left (x := d) hs
    unfold Vd.coverOf
    omega
  · exact Nat.min_le_right _ _
theorem mix_pre {k : Nat} {S D : Col} (hS : Pre S) (hD : Pre D) : Pre (Vd.mix k S D) := by
  obtain ⟨a, b, c, e⟩ := hS
  obtain ⟨a', b', c', e'⟩ := hD
  exact ⟨mixPart_le a a' e, mixPart_le b b' e, mixPart_le c c' e, cover_le e e'⟩
/-- the program's part, by numbers -/
def mixI (k S D s d : Int) : Int := if k = 0 then S + D - mulI D s else min (s + d - mulI d s) (mulI S (255 - d) + mulI D (255 - s) + mulI (mulI s d) (blendI k (aloneI D d) (aloneI S s)))
theorem coverI_nat {s d : Nat} (hs : s ≤ 255) : (s : Int) + d - mulI d s = (Vd.coverOf s d : Nat) := by
  have := mul_le_left (x := d) hs
  rw [mulI_nat]
  unfold Vd.coverOf
  omega
theorem mixI_nat {k S D s d : Nat} (hs : s ≤ 255) (hd : d ≤ 255) : mixI k S D s d = (Vd.mixPart k S D s d : Nat) := by
  unfold mixI Vd.mixPart
  by_cases c : k = 0
  · rw [if_pos (by omega), if_pos c]
    have := mul_le_left (x := D) hs
    rw [mulI_nat]
    omega
  · rw [if_neg (by omega), if_neg c, coverI_nat hs, aloneI_nat, aloneI_nat, blendI_nat (alone_le _ _) (alone_le _ _)]
    have e1 : (255 : Int) - d = ((255 - d : Nat) : Int) := by omega
    have e2 : (255 : Int) - s = ((255 - s : Nat) : Int) := by omega
    rw [e1, e2]
    simp only [mulI_nat]
    omega
/-! what marks and groups bring -/
theorem near_mono {x y : Nat} (h : x ≤ y) : Vd.near x ≤ Vd.near y := by
  unfold Vd.near
  omega
end Pd
end
section
set_option Elab.async false
set_option linter.all false
set_option maxRecDepth 100000
set_option maxHeartbeats 4000000
namespace Pd
open PySem PySem.Spec PyProof.Rows L2
/-! ### heaps -/
/-- all but p stands -/
def But (p : Addr) (H H' : Hp) : Prop := ∀ a o, a ≠ p → H a = some o → H' a = some o
theorem But.refl (p : Addr) (H : Hp) : But p H H := fun _ _ _ h => h
theorem But.trans {p : Addr} {H H1 H2 : Hp} (a : But p H H1) (b : But p H1 H2) : But p H H2 := fun x o n h => b x o n (a x o n h)
theorem But.of {p : Addr} {H H' : Hp} (a : Same H H') : But p H H' := fun x o _ h => a x o h
theorem But.at_ {p : Addr} {H : Hp} {o : HO} : But p H (upd H p o) := fun x u n h => by rw [upd_ne n]; exact h
theorem Same.new {H : Hp} {p : Addr} {o : HO} (h : H p = none) : Same H (upd H p o) := fun a u e => by
  rw [upd_ne (ne_of_none e h)]
  exact e
/-- what was new ahead may change -/
theorem Same.mut {H H' : Hp} {p : Addr} {o : HO} (e : Same H H') (h : H p = none) : Same H (upd H' p o) := fun a u k => by
  rw [upd_ne (ne_of_none k h)]
  exact e a u k
theorem But.same {p : Addr} {H H' : Hp} (h : H p = none) (b : But p H H') : Same H H' := fun a o e => b a o (ne_of_none e h) e
theorem Same.fresh {H H' : Hp} {p : Addr} (e : Same H H') (h : H' p = none) : H p = none := e.free h
theorem Same.tup {K : PySem.W.Frag} {H H' : Hp} {a : Addr} {xs : List V} (e : Same H H') (h : SqT K H a xs) : SqT K H' a xs := by
  rcases h with (h | ⟨o, h⟩) | h
  · exact .inl (.inl (e _ _ h))
  · exact .inl (.inr ⟨o, e _ _ h⟩)
  · exact .inr h
theorem sz {n : Nat} (h : n ≤ 1000000) : n ≤ sizeLine := Nat.le_trans h (by decide)
theorem szl {n : Nat} (h : n < 1000000) : n < sizeLine := Nat.lt_of_lt_of_le h (by decide)
/-! ### lists of what a relation tells -/
/-- item by item -/
def All {α : Type} (R : V → α → Prop) (vs : List V) (xs : List α) : Prop := vs.length = xs.length ∧ ∀ (i : Nat) v x, vs[i]? = some v → xs[i]? = some x → R v x
section
variable {α : Type} {R S : V → α → Prop} {vs : List V} {xs : List α} {v : V} {x : α} {i : Nat}
theorem All.nil : All R [] [] := ⟨rfl, fun i v x h => by simp at h⟩
theorem All.imp (h : All R vs xs) (f : ∀ v x, R v x → S v x) : All S vs xs := ⟨h.1, fun i v x a b => f v x (h.2 i v x a b)⟩
theorem All.snoc (h : All R vs xs) (r : R v x) : All R (vs ++ [v]) (xs ++ [x]) := by
  refine ⟨by simp [h.1], fun i a b ha hb => ?_⟩
  by_cases c : i < vs.length
  · rw [List.getElem?_append_left c] at ha
    rw [List.getElem?_append_left (by rw [← h.1]; exact c)] at hb
    exact h.2 i a b ha hb
  · rw [List.getElem?_append_right (by omega)] at ha
    rw [List.getElem?_append_right (by rw [← h.1]; omega), ← h.1] at hb
    generalize i - vs.length = j at ha hb
    cases j with
    | zero =>
      obtain rfl : v = a := by simpa using ha
      obtain rfl : x = b := by simpa using hb
      exact r
    | succ j => simp at ha
theorem All.get (h : All R vs xs) (e : vs[i]? = some v) : ∃ x, xs[i]? = some x ∧ R v x := by
  have l : i < xs.length := by
    rw [← h.1]
    exact (List.getElem?_eq_some_iff.mp e).1
  exact ⟨xs[i], List.getElem?_eq_getElem l, h.2 i v _ e (List.getElem?_eq_getElem l)⟩
theorem All.at (h : All R vs xs) (e : xs[i]? = some x) : ∃ v, vs[i]? = some v ∧ R v x := by
  have l : i < vs.length := by
    rw [h.1]
    exact (List.getElem?_eq_some_iff.mp e).1
  exact ⟨vs[i], List.getElem?_eq_getElem l, h.2 i _ x (List.getElem?_eq_getElem l) e⟩
theorem All.cons (r : R v x) (h : All R vs xs) : All R (v :: vs) (x :: xs) := by
  refine ⟨by simp [h.1], fun i a b ha hb => ?_⟩
  cases i with
  | zero =>
    obtain rfl : v = a := by simpa using ha
    obtain rfl : x = b := by simpa using hb
    exact r
  | succ i => exact h.2 i a b (by simpa using ha) (by simpa using hb)
theorem All.uncons (h : All R (v :: vs) (x :: xs)) : R v x ∧ All R vs xs :=
  ⟨h.2 0 v x rfl rfl, ⟨by have := h.1; simpa using this, fun i a b ha hb => h.2 (i + 1) a b (by simpa using ha) (by simpa using hb)⟩⟩
theorem All.dropLast (h : All R vs xs) : All R vs.dropLast xs.dropLast := by
  refine ⟨by simp [h.1], fun i a b ha hb => ?_⟩
  rw [List.getElem?_dropLast] at ha hb
  split at ha
  · split at hb
    · exact h.2 i a b ha hb
    · cases hb
  · cases ha
end
/-- a tuple of whole numbers -/
def TupI (H : Hp) (v : V) (xs : List Int) : Prop := ∃ t, v = .ref t ∧ H t = some (.tup (xs.map V.int))
theorem TupI.mono {H H' : Hp} {v : V} {xs : List Int} (s : Same H H') (h : TupI H v xs) : TupI H' v xs := let ⟨t, a, b⟩ := h; ⟨t, a, s _ _ b⟩
theorem TupI.but {H H' : Hp} {v : V} {xs : List Int} {p : Addr} (s : But p H H') (hp : ∀ ys, H p ≠ some (.tup ys)) (h : TupI H v xs) : TupI H' v xs := let ⟨t, a, b⟩ := h; ⟨t, a, s _ _ (fun e => hp _ (e ▸ b)) b⟩
/-- a list, item by item -/
def ListOf {α : Type} (R : Hp → V → α → Prop) (H : Hp) (p : Addr) (xs : List α) : Prop := ∃ vs, H p = some (.lst vs) ∧ All (R H) vs xs
/-! ### steps of a reading -/
theorem q_of {Q : VK} {H : Hp} {v v' : V} (e : v = v') (q : Q v H) : Q v' H := e ▸ q
theorem qi_of {Q : VK} {H : Hp} {v v' : Int} (e : v = v') (q : Q (.int v) H) : Q (.int v') H := e ▸ q
theorem dint {x y : Int} (h : decide (V.int x = V.int y) = true) : x = y := V.int.inj (of_decide_eq_true h)
theorem dint_not {x y : Int} (h : ¬ decide (V.int x = V.int y) = true) : ¬ x = y := fun e => h (decide_eq_true (congrArg V.int e))
theorem dnot {p : Prop} [Decidable p] (h : ¬ decide p = true) : ¬ p := fun e => h (decide_eq_true e)
theorem ddec {p : Prop} [Decidable p] (h : decide p = true) : p := of_decide_eq_true h
/-- the value that a name stands for | a name that stands for none | the names behind a store -/
class Lk (fs : List (Str × V)) (f : Str) (v : outParam V) : Prop where
  h : fs.lookup f = some v
class LkN (fs : List (Str × V)) (f : Str) : Prop where
  h : fs.lookup f = none
section
variable {K : PySem.W.Frag} {H : Hp} {p a C dx : Addr} {xs : List V} {i : Int} {v : V} {f : Str} {fs : List (Str × V)} {Q : VK}
theorem ix_t (h : H p = some (.tup xs)) (e : atI xs i = some v) (q : Q v H) : rIxT K (.ref p) (.int i) H Q := ⟨p, xs, i, v, rfl, rfl, SqT.of h, e, q⟩
theorem ix_l (h : SqL K H p xs) (e : atI xs i = some v) (q : Q v H) : rIxL K (.ref p) (.int i) H Q := ⟨p, xs, i, v, rfl, rfl, h, e, q⟩
theorem fld_go (h : H a = some (.ins C dx fs)) (c : Cls K C) (n : NoAttr K C f) (e : fs.lookup f = some v) (q : Q v H) :
    ∃ (b D ex : Addr) (gs : List (Str × V)) (u : V), V.ref a = .ref b ∧ H b = some (.ins D ex gs) ∧ Cls K D ∧ NoAttr K D f ∧ gs.lookup f = some u ∧ Q u H := ⟨a, C, dx, fs, v, rfl, h, c, n, e, q⟩
/-- a comprehension without a test, whose items Out tells -/
theorem lc_build {J : It} {n : Nat} {G : Hp → Prop} {Y : Nat → Hp → V → Hp → Prop} (wk : Walk J n G Y) {g : TG} {tt : TT} {te : TE} {vs : List Nat} {σ : L2.St} {H1 : Hp} {D : Addr} {Qd : Hp → Prop}
    (Out : Nat → V → Hp → Prop) (mono : ∀ i y H H' zs, H D = some (.lst zs) → But D H H' → Out i y H → Out i y H') (hD : H1 D = none) (hG : ∀ H, Same H1 H → G H) (hn : n < 1000000)
    (step : ∀ (i : Nat) (x : V) (H H' : Hp) (F : VK) (B : Hp → Prop), i < n → Same H1 H → Y i H x H' → (∀ y H2, Same H H2 → Out i y H2 → F y H2) →
      g x (wipe σ vs) H' fun σ2 H2 => wipe σ2 vs = wipe σ vs ∧ tt σ2 H2 fun b H3 => if b = true then te σ2 H3 F else B H3)
    (fin : ∀ H ys, Same H1 H → H D = some (.lst ys) → ys.length = n → (∀ i y, ys[i]? = some y → Out i y H) → Qd H) :
    ∃ W : Nat → Nat → Hp → Prop, (∃ m, W 0 m (upd H1 D (.lst []))) ∧ ∀ i m H, W i m H →
      (J.stop i H ∧ Qd H) ∨ (J.go i H ∧ ∃ Nx : Hp → Prop, (∀ H', Nx H' → ∃ m', m' < m ∧ W (i + 1) m' H') ∧ ∀ x H', J.yld i H x H' → g x (wipe σ vs) H' fun σ2 H2 => wipe σ2 vs = wipe σ vs ∧ tt σ2 H2 fun b H3 =>
        if b = true then te σ2 H3 fun y H4 => ∃ acc, H4 D = some (.lst acc) ∧ acc.length < sizeLine ∧ Nx (upd H4 D (.lst (acc ++ [y]))) else Nx H3) := by
  refine lc_it wk (fun i H => Same H1 H ∧ ∃ ys, H D = some (.lst ys) ∧ ys.length = i ∧ ∀ j y, ys[j]? = some y → Out j y H) ⟨Same.new hD, [], upd_same, rfl, fun j y h => by simp at h⟩ (fun i H _ h => hG H h.1) ?_ ?_
  · rintro i x H H' hi ⟨s1, ys, hy, hl, ho⟩ yy
    refine step i x H H' _ _ hi s1 yy fun y H2 s2 o2 => ⟨ys, s2 _ _ hy, szl (by omega), ?_⟩
    have nt : ∀ a o, H1 a = some o → a ≠ D := fun a o e => ne_of_none e hD
    refine ⟨fun a o e => ?_, ys ++ [y], upd_same, by simp [hl], fun j z hz => ?_⟩
    · rw [upd_ne (nt a o e)]
      exact s2 _ _ (s1 _ _ e)
    · have up : ∀ k v, Out k v H2 → Out k v (upd H2 D (.lst (ys ++ [y]))) := fun k v o => mono k v _ _ _ (s2 _ _ hy) But.at_ o
      by_cases c : j < ys.length
      · rw [List.getElem?_append_left c] at hz
        exact up _ _ (mono j z H H2 ys hy (But.of s2) (ho j z hz))
      · rw [List.getElem?_append_right (by omega)] at hz
        have e : j - ys.length = 0 := by
          rcases Nat.eq_zero_or_pos (j - ys.length) with q | q
          · exact q
          · rw [List.getElem?_eq_none (by show ([y] : List V).length ≤ _; exact q)] at hz
            cases hz
        rw [e] at hz
        obtain rfl : y = z := by simpa using hz
        have : j = i := by omega
        subst this
        exact up _ _ o2
  · rintro H ⟨s1, ys, hy, hl, ho⟩
    exact fin H ys s1 hy hl ho
/-- a new object, its heap a letter -/
theorem new_go {o : HO} (k : ∀ q H', H q = none → Same H H' → H' q = some o → Q (.ref q) H') : ∀ q, H q = none → Q (.ref q) (upd H q o) := fun q hq => k q _ hq (Same.new hq) upd_same
end
end Pd
end
section
set_option Elab.async false
set_option linter.all false
set_option maxRecDepth 100000
set_option maxHeartbeats 4000000
/-! The attributes of the own classes (printed by gen_cls.py) -/
namespace Pd
open PySem PySem.Spec PyProof.Rows L2
theorem lk_0 {k : Str} {v : V} {r : List (Str × V)} : List.lookup k ((k, v) :: r) = some v := by
  have e : (k == k) = true := beq_self_eq_true k
  simp only [List.lookup, e]
theorem lk_s {k g : Str} {v : V} {r : List (Str × V)} {o : Option V} (h : (k == g) = false) (q : List.lookup k r = o) : List.lookup k ((g, v) :: r) = o := by
  simp only [List.lookup, h, q]
theorem pt_0 {f : Str} {v x : V} {r : List (Str × V)} : putF f v ((f, x) :: r) = (f, v) :: r := if_pos rfl
theorem pt_s {f g : Str} {v x : V} {r s : List (Str × V)} (h : ¬ g = f) (q : putF f v r = s) : putF f v ((g, x) :: r) = (g, x) :: s := by
  rw [← q]
  exact if_neg h
/-- so many attributes at most -/
class Few (fs : List (Str × V)) (n : outParam Nat) : Prop where
  h : fs.length ≤ n
instance few_nil : Few [] 0 := ⟨Nat.le_refl _⟩
instance few_put {f : Str} {v : V} {fs : List (Str × V)} {n : Nat} [k : Few fs n] : Few (putF f v fs) (n + 1) := ⟨Nat.le_trans (length_putF f v fs) (Nat.succ_le_succ k.h)⟩
theorem few_lt {fs : List (Str × V)} {n : Nat} [k : Few fs n] (h : n < 1000) : fs.length < 1000 := Nat.lt_of_le_of_lt k.h h

/-! ### Arguments -/
def fl_Arguments (x0 x1 : V) : List (Str × V) := [("numbers", x0), ("taken", x1)]
section
variable {x0 x1 y : V}
instance lk_Arguments_numbers : Lk (fl_Arguments x0 x1) "numbers" x0 := ⟨lk_0⟩
theorem pt_Arguments_numbers : putF "numbers" y (fl_Arguments x0 x1) = fl_Arguments y x1 := pt_0
instance lk_Arguments_taken : Lk (fl_Arguments x0 x1) "taken" x1 := ⟨(lk_s (by decide +kernel) lk_0)⟩
theorem pt_Arguments_taken : putF "taken" y (fl_Arguments x0 x1) = fl_Arguments x0 y := (pt_s (by decide +kernel) pt_0)
instance ln_Arguments_are_left : LkN (fl_Arguments x0 x1) "are_left" := ⟨(lk_s (by decide +kernel) (lk_s (by decide +kernel) rfl))⟩
instance ln_Arguments_take : LkN (fl_Arguments x0 x1) "take" := ⟨(lk_s (by decide +kernel) (lk_s (by decide +kernel) rfl))⟩
instance ln_Arguments_take_list : LkN (fl_Arguments x0 x1) "take_list" := ⟨(lk_s (by decide +kernel) (lk_s (by decide +kernel) rfl))⟩
instance ln_Arguments_take_place : LkN (fl_Arguments x0 x1) "take_place" := ⟨(lk_s (by decide +kernel) (lk_s (by decide +kernel) rfl))⟩
instance ln_Arguments_take_stops : LkN (fl_Arguments x0 x1) "take_stops" := ⟨(lk_s (by decide +kernel) (lk_s (by decide +kernel) rfl))⟩
instance ln_Arguments_take_path : LkN (fl_Arguments x0 x1) "take_path" := ⟨(lk_s (by decide +kernel) (lk_s (by decide +kernel) rfl))⟩
theorem new_Arguments : putF "taken" x1 (putF "numbers" x0 []) = fl_Arguments x0 x1 := by
  have e0 : putF "numbers" x0 [] = ([("numbers", x0)] : List (Str × V)) := rfl
  have e1 : putF "taken" x1 [("numbers", x0)] = ([("numbers", x0), ("taken", x1)] : List (Str × V)) := (pt_s (by decide +kernel) rfl)
  rw [e0, e1]
  all_goals rfl
instance few_Arguments : Few (fl_Arguments x0 x1) 2 := ⟨Nat.le_refl _⟩
end
/-! ### Shape -/
def fl_Shape (x0 x1 x2 : V) : List (Str × V) := [("rule", x0), ("slanted", x1), ("level", x2)]
section
variable {x0 x1 x2 y : V}
instance lk_Shape_rule : Lk (fl_Shape x0 x1 x2) "rule" x0 := ⟨lk_0⟩
theorem pt_Shape_rule : putF "rule" y (fl_Shape x0 x1 x2) = fl_Shape y x1 x2 := pt_0
instance lk_Shape_slanted : Lk (fl_Shape x0 x1 x2) "slanted" x1 := ⟨(lk_s (by decide +kernel) lk_0)⟩
theorem pt_Shape_slanted : putF "slanted" y (fl_Shape x0 x1 x2) = fl_Shape x0 y x2 := (pt_s (by decide +kernel) pt_0)
instance lk_Shape_level : Lk (fl_Shape x0 x1 x2) "level" x2 := ⟨(lk_s (by decide +kernel) (lk_s (by decide +kernel) lk_0))⟩
theorem pt_Shape_level : putF "level" y (fl_Shape x0 x1 x2) = fl_Shape x0 x1 y := (pt_s (by decide +kernel) (pt_s (by decide +kernel) pt_0))
instance ln_Shape_put_side : LkN (fl_Shape x0 x1 x2) "put_side" := ⟨(lk_s (by decide +kernel) (lk_s (by decide +kernel) (lk_s (by decide +kernel) rfl)))⟩
instance ln_Shape_row_within : LkN (fl_Shape x0 x1 x2) "row_within" := ⟨(lk_s (by decide +kernel) (lk_s (by decide +kernel) (lk_s (by decide +kernel) rfl)))⟩
instance ln_Shape_meet_level : LkN (fl_Shape x0 x1 x2) "meet_level" := ⟨(lk_s (by decide +kernel) (lk_s (by decide +kernel) (lk_s (by decide +kernel) rfl)))⟩
instance ln_Shape_meet_slanted : LkN (fl_Shape x0 x1 x2) "meet_slanted" := ⟨(lk_s (by decide +kernel) (lk_s (by decide +kernel) (lk_s (by decide +kernel) rfl)))⟩
theorem new_Shape : putF "level" x2 (putF "slanted" x1 (putF "rule" x0 [])) = fl_Shape x0 x1 x2 := by
  have e0 : putF "rule" x0 [] = ([("rule", x0)] : List (Str × V)) := rfl
  have e1 : putF "slanted" x1 [("rule", x0)] = ([("rule", x0), ("slanted", x1)] : List (Str × V)) := (pt_s (by decide +kernel) rfl)
  have e2 : putF "level" x2 [("rule", x0), ("slanted", x1)] = ([("rule", x0), ("slanted", x1), ("level", x2)] : List (Str × V)) := (pt_s (by decide +kernel) (pt_s (by decide +kernel) rfl))
  rw [e0, e1, e2]
  all_goals rfl
instance few_Shape : Few (fl_Shape x0 x1 x2) 3 := ⟨Nat.le_refl _⟩
end
/-! ### Mark -/
def fl_Mark (x0 x1 x2 : V) : List (Str × V) := [("shapes", x0), ("paint", x1), ("how", x2)]
section
variable {x0 x1 x2 y : V}
instance lk_Mark_shapes : Lk (fl_Mark x0 x1 x2) "shapes" x0 := ⟨lk_0⟩
theorem pt_Mark_shapes : putF "shapes" y (fl_Mark x0 x1 x2) = fl_Mark y x1 x2 := pt_0
instance lk_Mark_paint : Lk (fl_Mark x0 x1 x2) "paint" x1 := ⟨(lk_s (by decide +kernel) lk_0)⟩
theorem pt_Mark_paint : putF "paint" y (fl_Mark x0 x1 x2) = fl_Mark x0 y x2 := (pt_s (by decide +kernel) pt_0)
instance lk_Mark_how : Lk (fl_Mark x0 x1 x2) "how" x2 := ⟨(lk_s (by decide +kernel) (lk_s (by decide +kernel) lk_0))⟩
theorem pt_Mark_how : putF "how" y (fl_Mark x0 x1 x2) = fl_Mark x0 x1 y := (pt_s (by decide +kernel) (pt_s (by decide +kernel) pt_0))
instance ln_Mark_brings : LkN (fl_Mark x0 x1 x2) "brings" := ⟨(lk_s (by decide +kernel) (lk_s (by decide +kernel) (lk_s (by decide +kernel) rfl)))⟩
theorem new_Mark : putF "how" x2 (putF "paint" x1 (putF "shapes" x0 [])) = fl_Mark x0 x1 x2 := by
  have e0 : putF "shapes" x0 [] = ([("shapes", x0)] : List (Str × V)) := rfl
  have e1 : putF "paint" x1 [("shapes", x0)] = ([("shapes", x0), ("paint", x1)] : List (Str × V)) := (pt_s (by decide +kernel) rfl)
  have e2 : putF "how" x2 [("shapes", x0), ("paint", x1)] = ([("shapes", x0), ("paint", x1), ("how", x2)] : List (Str × V)) := (pt_s (by decide +kernel) (pt_s (by decide +kernel) rfl))
  rw [e0, e1, e2]
  all_goals rfl
instance few_Mark : Few (fl_Mark x0 x1 x2) 3 := ⟨Nat.le_refl _⟩
end
/-! ### Group -/
def fl_Group (x0 x1 x2 x3 : V) : List (Str × V) := [("members", x0), ("clips", x1), ("opacity", x2), ("how", x3)]
section
variable {x0 x1 x2 x3 y : V}
instance lk_Group_members : Lk (fl_Group x0 x1 x2 x3) "members" x0 := ⟨lk_0⟩
theorem pt_Group_members : putF "members" y (fl_Group x0 x1 x2 x3) = fl_Group y x1 x2 x3 := pt_0
instance lk_Group_clips : Lk (fl_Group x0 x1 x2 x3) "clips" x1 := ⟨(lk_s (by decide +kernel) lk_0)⟩
theorem pt_Group_clips : putF "clips" y (fl_Group x0 x1 x2 x3) = fl_Group x0 y x2 x3 := (pt_s (by decide +kernel) pt_0)
instance lk_Group_opacity : Lk (fl_Group x0 x1 x2 x3) "opacity" x2 := ⟨(lk_s (by decide +kernel) (lk_s (by decide +kernel) lk_0))⟩
theorem pt_Group_opacity : putF "opacity" y (fl_Group x0 x1 x2 x3) = fl_Group x0 x1 y x3 := (pt_s (by decide +kernel) (pt_s (by decide +kernel) pt_0))
instance lk_Group_how : Lk (fl_Group x0 x1 x2 x3) "how" x3 := ⟨(lk_s (by decide +kernel) (lk_s (by decide +kernel) (lk_s (by decide +kernel) lk_0)))⟩
theorem pt_Group_how : putF "how" y (fl_Group x0 x1 x2 x3) = fl_Group x0 x1 x2 y := (pt_s (by decide +kernel) (pt_s (by decide +kernel) (pt_s (by decide +kernel) pt_0)))
instance ln_Group_brings : LkN (fl_Group x0 x1 x2 x3) "brings" := ⟨(lk_s (by decide +kernel) (lk_s (by decide +kernel) (lk_s (by decide +kernel) (lk_s (by decide +kernel) rfl))))⟩
theorem new_Group : putF "how" x3 (putF "opacity" x2 (putF "clips" x1 (putF "members" x0 []))) = fl_Group x0 x1 x2 x3 := by
  have e0 : putF "members" x0 [] = ([("members", x0)] : List (Str × V)) := rfl
  have e1 : putF "clips" x1 [("members", x0)] = ([("members", x0), ("clips", x1)] : List (Str × V)) := (pt_s (by decide +kernel) rfl)
  have e2 : putF "opacity" x2 [("members", x0), ("clips", x1)] = ([("members", x0), ("clips", x1), ("opacity", x2)] : List (Str × V)) := (pt_s (by decide +kernel) (pt_s (by decide +kernel) rfl))
  have e3 : putF "how" x3 [("members", x0), ("clips", x1), ("opacity", x2)] = ([("members", x0), ("clips", x1), ("opacity", x2), ("how", x3)] : List (Str × V)) := (pt_s (by decide +kernel) (pt_s (by decide +kernel) (pt_s (by decide +kernel) rfl)))
  rw [e0, e1, e2, e3]
  all_goals rfl
instance few_Group : Few (fl_Group x0 x1 x2 x3) 4 := ⟨Nat.le_refl _⟩
end
/-! ### Shade -/
def fl_Shade (x0 x1 x2 : V) : List (Str × V) := [("how", x0), ("stops", x1), ("known", x2)]
section
variable {x0 x1 x2 y : V}
instance lk_Shade_how : Lk (fl_Shade x0 x1 x2) "how" x0 := ⟨lk_0⟩
theorem pt_Shade_how : putF "how" y (fl_Shade x0 x1 x2) = fl_Shade y x1 x2 := pt_0
instance lk_Shade_stops : Lk (fl_Shade x0 x1 x2) "stops" x1 := ⟨(lk_s (by decide +kernel) lk_0)⟩
theorem pt_Shade_stops : putF "stops" y (fl_Shade x0 x1 x2) = fl_Shade x0 y x2 := (pt_s (by decide +kernel) pt_0)
instance lk_Shade_known : Lk (fl_Shade x0 x1 x2) "known" x2 := ⟨(lk_s (by decide +kernel) (lk_s (by decide +kernel) lk_0))⟩
theorem pt_Shade_known : putF "known" y (fl_Shade x0 x1 x2) = fl_Shade x0 x1 y := (pt_s (by decide +kernel) (pt_s (by decide +kernel) pt_0))
instance ln_Shade_shade_at : LkN (fl_Shade x0 x1 x2) "shade_at" := ⟨(lk_s (by decide +kernel) (lk_s (by decide +kernel) (lk_s (by decide +kernel) rfl)))⟩
instance ln_Shade_parts_at : LkN (fl_Shade x0 x1 x2) "parts_at" := ⟨(lk_s (by decide +kernel) (lk_s (by decide +kernel) (lk_s (by decide +kernel) rfl)))⟩
theorem new_Shade : putF "known" x2 (putF "stops" x1 (putF "how" x0 [])) = fl_Shade x0 x1 x2 := by
  have e0 : putF "how" x0 [] = ([("how", x0)] : List (Str × V)) := rfl
  have e1 : putF "stops" x1 [("how", x0)] = ([("how", x0), ("stops", x1)] : List (Str × V)) := (pt_s (by decide +kernel) rfl)
  have e2 : putF "known" x2 [("how", x0), ("stops", x1)] = ([("how", x0), ("stops", x1), ("known", x2)] : List (Str × V)) := (pt_s (by decide +kernel) (pt_s (by decide +kernel) rfl))
  rw [e0, e1, e2]
  all_goals rfl
instance few_Shade : Few (fl_Shade x0 x1 x2) 3 := ⟨Nat.le_refl _⟩
end
/-! ### Plain -/
def fl_Plain (x0 : V) : List (Str × V) := [("laid", x0)]
section
variable {x0 y : V}
instance lk_Plain_laid : Lk (fl_Plain x0) "laid" x0 := ⟨lk_0⟩
theorem pt_Plain_laid : putF "laid" y (fl_Plain x0) = fl_Plain y := pt_0
instance ln_Plain_gives : LkN (fl_Plain x0) "gives" := ⟨(lk_s (by decide +kernel) rfl)⟩
theorem new_Plain : putF "laid" x0 [] = fl_Plain x0 := by
  have e0 : putF "laid" x0 [] = ([("laid", x0)] : List (Str × V)) := rfl
  rw [e0]
  all_goals rfl
instance few_Plain : Few (fl_Plain x0) 1 := ⟨Nat.le_refl _⟩
end
/-! ### Linear -/
def fl_Linear (x0 x1 x2 x3 x4 x5 : V) : List (Str × V) := [("a_x", x0), ("a_y", x1), ("across", x2), ("down", x3), ("square", x4), ("shade", x5)]
section
variable {x0 x1 x2 x3 x4 x5 y : V}
instance lk_Linear_a_x : Lk (fl_Linear x0 x1 x2 x3 x4 x5) "a_x" x0 := ⟨lk_0⟩
theorem pt_Linear_a_x : putF "a_x" y (fl_Linear x0 x1 x2 x3 x4 x5) = fl_Linear y x1 x2 x3 x4 x5 := pt_0
instance lk_Linear_a_y : Lk (fl_Linear x0 x1 x2 x3 x4 x5) "a_y" x1 := ⟨(lk_s (by decide +kernel) lk_0)⟩
theorem pt_Linear_a_y : putF "a_y" y (fl_Linear x0 x1 x2 x3 x4 x5) = fl_Linear x0 y x2 x3 x4 x5 := (pt_s (by decide +kernel) pt_0)
instance lk_Linear_across : Lk (fl_Linear x0 x1 x2 x3 x4 x5) "across" x2 := ⟨(lk_s (by decide +kernel) (lk_s (by decide +kernel) lk_0))⟩
theorem pt_Linear_across : putF "across" y (fl_Linear x0 x1 x2 x3 x4 x5) = fl_Linear x0 x1 y x3 x4 x5 := (pt_s (by decide +kernel) (pt_s (by decide +kernel) pt_0))
instance lk_Linear_down : Lk (fl_Linear x0 x1 x2 x3 x4 x5) "down" x3 := ⟨(lk_s (by decide +kernel) (lk_s (by decide +kernel) (lk_s (by decide +kernel) lk_0)))⟩
theorem pt_Linear_down : putF "down" y (fl_Linear x0 x1 x2 x3 x4 x5) = fl_Linear x0 x1 x2 y x4 x5 := (pt_s (by decide +kernel) (pt_s (by decide +kernel) (pt_s (by decide +kernel) pt_0)))
instance lk_Linear_square : Lk (fl_Linear x0 x1 x2 x3 x4 x5) "square" x4 := ⟨(lk_s (by decide +kernel) (lk_s (by decide +kernel) (lk_s (by decide +kernel) (lk_s (by decide +kernel) lk_0))))⟩
theorem pt_Linear_square : putF "square" y (fl_Linear x0 x1 x2 x3 x4 x5) = fl_Linear x0 x1 x2 x3 y x5 := (pt_s (by decide +kernel) (pt_s (by decide +kernel) (pt_s (by decide +kernel) (pt_s (by decide +kernel) pt_0))))
instance lk_Linear_shade : Lk (fl_Linear x0 x1 x2 x3 x4 x5) "shade" x5 := ⟨(lk_s (by decide +kernel) (lk_s (by decide +kernel) (lk_s (by decide +kernel) (lk_s (by decide +kernel) (lk_s (by decide +kernel) lk_0)))))⟩
theorem pt_Linear_shade : putF "shade" y (fl_Linear x0 x1 x2 x3 x4 x5) = fl_Linear x0 x1 x2 x3 x4 y := (pt_s (by decide +kernel) (pt_s (by decide +kernel) (pt_s (by decide +kernel) (pt_s (by decide +kernel) (pt_s (by decide +kernel) pt_0)))))
instance ln_Linear_gives : LkN (fl_Linear x0 x1 x2 x3 x4 x5) "gives" := ⟨(lk_s (by decide +kernel) (lk_s (by decide +kernel) (lk_s (by decide +kernel) (lk_s (by decide +kernel) (lk_s (by decide +kernel) (lk_s (by decide +kernel) rfl))))))⟩
theorem new_Linear : putF "shade" x5 (putF "square" x4 (putF "down" x3 (putF "across" x2 (putF "a_y" x1 (putF "a_x" x0 []))))) = fl_Linear x0 x1 x2 x3 x4 x5 := by
  have e0 : putF "a_x" x0 [] = ([("a_x", x0)] : List (Str × V)) := rfl
  have e1 : putF "a_y" x1 [("a_x", x0)] = ([("a_x", x0), ("a_y", x1)] : List (Str × V)) := (pt_s (by decide +kernel) rfl)
  have e2 : putF "across" x2 [("a_x", x0), ("a_y", x1)] = ([("a_x", x0), ("a_y", x1), ("across", x2)] : List (Str × V)) := (pt_s (by decide +kernel) (pt_s (by decide +kernel) rfl))
  have e3 : putF "down" x3 [("a_x", x0), ("a_y", x1), ("across", x2)] = ([("a_x", x0), ("a_y", x1), ("across", x2), ("down", x3)] : List (Str × V)) := (pt_s (by decide +kernel) (pt_s (by decide +kernel) (pt_s (by decide +kernel) rfl)))
  have e4 : putF "square" x4 [("a_x", x0), ("a_y", x1), ("across", x2), ("down", x3)] = ([("a_x", x0), ("a_y", x1), ("across", x2), ("down", x3), ("square", x4)] : List (Str × V)) := (pt_s (by decide +kernel) (pt_s (by decide +kernel) (pt_s (by decide +kernel) (pt_s (by decide +kernel) rfl))))
  have e5 : putF "shade" x5 [("a_x", x0), ("a_y", x1), ("across", x2), ("down", x3), ("square", x4)] = ([("a_x", x0), ("a_y", x1), ("across", x2), ("down", x3), ("square", x4), ("shade", x5)] : List (Str × V)) := (pt_s (by decide +kernel) (pt_s (by decide +kernel) (pt_s (by decide +kernel) (pt_s (by decide +kernel) (pt_s (by decide +kernel) rfl)))))
  rw [e0, e1, e2, e3, e4, e5]
  all_goals rfl
instance few_Linear : Few (fl_Linear x0 x1 x2 x3 x4 x5) 6 := ⟨Nat.le_refl _⟩
end
/-! ### Radial -/
def fl_Radial (x0 x1 x2 x3 : V) : List (Str × V) := [("m_x", x0), ("m_y", x1), ("radius", x2), ("shade", x3)]
section
variable {x0 x1 x2 x3 y : V}
instance lk_Radial_m_x : Lk (fl_Radial x0 x1 x2 x3) "m_x" x0 := ⟨lk_0⟩
theorem pt_Radial_m_x : putF "m_x" y (fl_Radial x0 x1 x2 x3) = fl_Radial y x1 x2 x3 := pt_0
instance lk_Radial_m_y : Lk (fl_Radial x0 x1 x2 x3) "m_y" x1 := ⟨(lk_s (by decide +kernel) lk_0)⟩
theorem pt_Radial_m_y : putF "m_y" y (fl_Radial x0 x1 x2 x3) = fl_Radial x0 y x2 x3 := (pt_s (by decide +kernel) pt_0)
instance lk_Radial_radius : Lk (fl_Radial x0 x1 x2 x3) "radius" x2 := ⟨(lk_s (by decide +kernel) (lk_s (by decide +kernel) lk_0))⟩
theorem pt_Radial_radius : putF "radius" y (fl_Radial x0 x1 x2 x3) = fl_Radial x0 x1 y x3 := (pt_s (by decide +kernel) (pt_s (by decide +kernel) pt_0))
instance lk_Radial_shade : Lk (fl_Radial x0 x1 x2 x3) "shade" x3 := ⟨(lk_s (by decide +kernel) (lk_s (by decide +kernel) (lk_s (by decide +kernel) lk_0)))⟩
theorem pt_Radial_shade : putF "shade" y (fl_Radial x0 x1 x2 x3) = fl_Radial x0 x1 x2 y := (pt_s (by decide +kernel) (pt_s (by decide +kernel) (pt_s (by decide +kernel) pt_0)))
instance ln_Radial_gives : LkN (fl_Radial x0 x1 x2 x3) "gives" := ⟨(lk_s (by decide +kernel) (lk_s (by decide +kernel) (lk_s (by decide +kernel) (lk_s (by decide +kernel) rfl))))⟩
theorem new_Radial : putF "shade" x3 (putF "radius" x2 (putF "m_y" x1 (putF "m_x" x0 []))) = fl_Radial x0 x1 x2 x3 := by
  have e0 : putF "m_x" x0 [] = ([("m_x", x0)] : List (Str × V)) := rfl
  have e1 : putF "m_y" x1 [("m_x", x0)] = ([("m_x", x0), ("m_y", x1)] : List (Str × V)) := (pt_s (by decide +kernel) rfl)
  have e2 : putF "radius" x2 [("m_x", x0), ("m_y", x1)] = ([("m_x", x0), ("m_y", x1), ("radius", x2)] : List (Str × V)) := (pt_s (by decide +kernel) (pt_s (by decide +kernel) rfl))
  have e3 : putF "shade" x3 [("m_x", x0), ("m_y", x1), ("radius", x2)] = ([("m_x", x0), ("m_y", x1), ("radius", x2), ("shade", x3)] : List (Str × V)) := (pt_s (by decide +kernel) (pt_s (by decide +kernel) (pt_s (by decide +kernel) rfl)))
  rw [e0, e1, e2, e3]
  all_goals rfl
instance few_Radial : Few (fl_Radial x0 x1 x2 x3) 4 := ⟨Nat.le_refl _⟩
end
/-! ### Picture -/
def fl_Picture (x0 x1 x2 : V) : List (Str × V) := [("width", x0), ("height", x1), ("colours", x2)]
section
variable {x0 x1 x2 y : V}
instance lk_Picture_width : Lk (fl_Picture x0 x1 x2) "width" x0 := ⟨lk_0⟩
theorem pt_Picture_width : putF "width" y (fl_Picture x0 x1 x2) = fl_Picture y x1 x2 := pt_0
instance lk_Picture_height : Lk (fl_Picture x0 x1 x2) "height" x1 := ⟨(lk_s (by decide +kernel) lk_0)⟩
theorem pt_Picture_height : putF "height" y (fl_Picture x0 x1 x2) = fl_Picture x0 y x2 := (pt_s (by decide +kernel) pt_0)
instance lk_Picture_colours : Lk (fl_Picture x0 x1 x2) "colours" x2 := ⟨(lk_s (by decide +kernel) (lk_s (by decide +kernel) lk_0))⟩
theorem pt_Picture_colours : putF "colours" y (fl_Picture x0 x1 x2) = fl_Picture x0 x1 y := (pt_s (by decide +kernel) (pt_s (by decide +kernel) pt_0))
instance ln_Picture_colour_in : LkN (fl_Picture x0 x1 x2) "colour_in" := ⟨(lk_s (by decide +kernel) (lk_s (by decide +kernel) (lk_s (by decide +kernel) rfl)))⟩
theorem new_Picture : putF "colours" x2 (putF "height" x1 (putF "width" x0 [])) = fl_Picture x0 x1 x2 := by
  have e0 : putF "width" x0 [] = ([("width", x0)] : List (Str × V)) := rfl
  have e1 : putF "height" x1 [("width", x0)] = ([("width", x0), ("height", x1)] : List (Str × V)) := (pt_s (by decide +kernel) rfl)
  have e2 : putF "colours" x2 [("width", x0), ("height", x1)] = ([("width", x0), ("height", x1), ("colours", x2)] : List (Str × V)) := (pt_s (by decide +kernel) (pt_s (by decide +kernel) rfl))
  rw [e0, e1, e2]
  all_goals rfl
instance few_Picture : Few (fl_Picture x0 x1 x2) 3 := ⟨Nat.le_refl _⟩
end
/-! ### Pictured -/
def fl_Pictured (x0 x1 x2 x3 : V) : List (Str × V) := [("picture", x0), ("how", x1), ("smooth", x2), ("six", x3)]
section
variable {x0 x1 x2 x3 y : V}
instance lk_Pictured_picture : Lk (fl_Pictured x0 x1 x2 x3) "picture" x0 := ⟨lk_0⟩
theorem pt_Pictured_picture : putF "picture" y (fl_Pictured x0 x1 x2 x3) = fl_Pictured y x1 x2 x3 := pt_0
instance lk_Pictured_how : Lk (fl_Pictured x0 x1 x2 x3) "how" x1 := ⟨(lk_s (by decide +kernel) lk_0)⟩
theorem pt_Pictured_how : putF "how" y (fl_Pictured x0 x1 x2 x3) = fl_Pictured x0 y x2 x3 := (pt_s (by decide +kernel) pt_0)
instance lk_Pictured_smooth : Lk (fl_Pictured x0 x1 x2 x3) "smooth" x2 := ⟨(lk_s (by decide +kernel) (lk_s (by decide +kernel) lk_0))⟩
theorem pt_Pictured_smooth : putF "smooth" y (fl_Pictured x0 x1 x2 x3) = fl_Pictured x0 x1 y x3 := (pt_s (by decide +kernel) (pt_s (by decide +kernel) pt_0))
instance lk_Pictured_six : Lk (fl_Pictured x0 x1 x2 x3) "six" x3 := ⟨(lk_s (by decide +kernel) (lk_s (by decide +kernel) (lk_s (by decide +kernel) lk_0)))⟩
theorem pt_Pictured_six : putF "six" y (fl_Pictured x0 x1 x2 x3) = fl_Pictured x0 x1 x2 y := (pt_s (by decide +kernel) (pt_s (by decide +kernel) (pt_s (by decide +kernel) pt_0)))
instance ln_Pictured_gives : LkN (fl_Pictured x0 x1 x2 x3) "gives" := ⟨(lk_s (by decide +kernel) (lk_s (by decide +kernel) (lk_s (by decide +kernel) (lk_s (by decide +kernel) rfl))))⟩
instance ln_Pictured_smoothed : LkN (fl_Pictured x0 x1 x2 x3) "smoothed" := ⟨(lk_s (by decide +kernel) (lk_s (by decide +kernel) (lk_s (by decide +kernel) (lk_s (by decide +kernel) rfl))))⟩
theorem new_Pictured : putF "six" x3 (putF "smooth" x2 (putF "how" x1 (putF "picture" x0 []))) = fl_Pictured x0 x1 x2 x3 := by
  have e0 : putF "picture" x0 [] = ([("picture", x0)] : List (Str × V)) := rfl
  have e1 : putF "how" x1 [("picture", x0)] = ([("picture", x0), ("how", x1)] : List (Str × V)) := (pt_s (by decide +kernel) rfl)
  have e2 : putF "smooth" x2 [("picture", x0), ("how", x1)] = ([("picture", x0), ("how", x1), ("smooth", x2)] : List (Str × V)) := (pt_s (by decide +kernel) (pt_s (by decide +kernel) rfl))
  have e3 : putF "six" x3 [("picture", x0), ("how", x1), ("smooth", x2)] = ([("picture", x0), ("how", x1), ("smooth", x2), ("six", x3)] : List (Str × V)) := (pt_s (by decide +kernel) (pt_s (by decide +kernel) (pt_s (by decide +kernel) rfl)))
  rw [e0, e1, e2, e3]
  all_goals rfl
instance few_Pictured : Few (fl_Pictured x0 x1 x2 x3) 4 := ⟨Nat.le_refl _⟩
end
/-! ### Layer -/
def fl_Layer (x0 x1 x2 x3 : V) : List (Str × V) := [("opacity", x0), ("how", x1), ("members", x2), ("clips", x3)]
section
variable {x0 x1 x2 x3 y : V}
instance lk_Layer_opacity : Lk (fl_Layer x0 x1 x2 x3) "opacity" x0 := ⟨lk_0⟩
theorem pt_Layer_opacity : putF "opacity" y (fl_Layer x0 x1 x2 x3) = fl_Layer y x1 x2 x3 := pt_0
instance lk_Layer_how : Lk (fl_Layer x0 x1 x2 x3) "how" x1 := ⟨(lk_s (by decide +kernel) lk_0)⟩
theorem pt_Layer_how : putF "how" y (fl_Layer x0 x1 x2 x3) = fl_Layer x0 y x2 x3 := (pt_s (by decide +kernel) pt_0)
instance lk_Layer_members : Lk (fl_Layer x0 x1 x2 x3) "members" x2 := ⟨(lk_s (by decide +kernel) (lk_s (by decide +kernel) lk_0))⟩
theorem pt_Layer_members : putF "members" y (fl_Layer x0 x1 x2 x3) = fl_Layer x0 x1 y x3 := (pt_s (by decide +kernel) (pt_s (by decide +kernel) pt_0))
instance lk_Layer_clips : Lk (fl_Layer x0 x1 x2 x3) "clips" x3 := ⟨(lk_s (by decide +kernel) (lk_s (by decide +kernel) (lk_s (by decide +kernel) lk_0)))⟩
theorem pt_Layer_clips : putF "clips" y (fl_Layer x0 x1 x2 x3) = fl_Layer x0 x1 x2 y := (pt_s (by decide +kernel) (pt_s (by decide +kernel) (pt_s (by decide +kernel) pt_0)))
theorem new_Layer : putF "clips" x3 (putF "members" x2 (putF "how" x1 (putF "opacity" x0 []))) = fl_Layer x0 x1 x2 x3 := by
  have e0 : putF "opacity" x0 [] = ([("opacity", x0)] : List (Str × V)) := rfl
  have e1 : putF "how" x1 [("opacity", x0)] = ([("opacity", x0), ("how", x1)] : List (Str × V)) := (pt_s (by decide +kernel) rfl)
  have e2 : putF "members" x2 [("opacity", x0), ("how", x1)] = ([("opacity", x0), ("how", x1), ("members", x2)] : List (Str × V)) := (pt_s (by decide +kernel) (pt_s (by decide +kernel) rfl))
  have e3 : putF "clips" x3 [("opacity", x0), ("how", x1), ("members", x2)] = ([("opacity", x0), ("how", x1), ("members", x2), ("clips", x3)] : List (Str × V)) := (pt_s (by decide +kernel) (pt_s (by decide +kernel) (pt_s (by decide +kernel) rfl)))
  rw [e0, e1, e2, e3]
  all_goals rfl
instance few_Layer : Few (fl_Layer x0 x1 x2 x3) 4 := ⟨Nat.le_refl _⟩
end
/-! ### Canvas -/
def fl_Canvas (x0 x1 x2 x3 x4 : V) : List (Str × V) := [("pictures", x0), ("paints", x1), ("layers", x2), ("numbered", x3), ("pieces", x4)]
section
variable {x0 x1 x2 x3 x4 y : V}
instance lk_Canvas_pictures : Lk (fl_Canvas x0 x1 x2 x3 x4) "pictures" x0 := ⟨lk_0⟩
theorem pt_Canvas_pictures : putF "pictures" y (fl_Canvas x0 x1 x2 x3 x4) = fl_Canvas y x1 x2 x3 x4 := pt_0
instance lk_Canvas_paints : Lk (fl_Canvas x0 x1 x2 x3 x4) "paints" x1 := ⟨(lk_s (by decide +kernel) lk_0)⟩
theorem pt_Canvas_paints : putF "paints" y (fl_Canvas x0 x1 x2 x3 x4) = fl_Canvas x0 y x2 x3 x4 := (pt_s (by decide +kernel) pt_0)
instance lk_Canvas_layers : Lk (fl_Canvas x0 x1 x2 x3 x4) "layers" x2 := ⟨(lk_s (by decide +kernel) (lk_s (by decide +kernel) lk_0))⟩
theorem pt_Canvas_layers : putF "layers" y (fl_Canvas x0 x1 x2 x3 x4) = fl_Canvas x0 x1 y x3 x4 := (pt_s (by decide +kernel) (pt_s (by decide +kernel) pt_0))
instance lk_Canvas_numbered : Lk (fl_Canvas x0 x1 x2 x3 x4) "numbered" x3 := ⟨(lk_s (by decide +kernel) (lk_s (by decide +kernel) (lk_s (by decide +kernel) lk_0)))⟩
theorem pt_Canvas_numbered : putF "numbered" y (fl_Canvas x0 x1 x2 x3 x4) = fl_Canvas x0 x1 x2 y x4 := (pt_s (by decide +kernel) (pt_s (by decide +kernel) (pt_s (by decide +kernel) pt_0)))
instance lk_Canvas_pieces : Lk (fl_Canvas x0 x1 x2 x3 x4) "pieces" x4 := ⟨(lk_s (by decide +kernel) (lk_s (by decide +kernel) (lk_s (by decide +kernel) (lk_s (by decide +kernel) lk_0))))⟩
theorem pt_Canvas_pieces : putF "pieces" y (fl_Canvas x0 x1 x2 x3 x4) = fl_Canvas x0 x1 x2 x3 y := (pt_s (by decide +kernel) (pt_s (by decide +kernel) (pt_s (by decide +kernel) (pt_s (by decide +kernel) pt_0))))
instance ln_Canvas_clear_page : LkN (fl_Canvas x0 x1 x2 x3 x4) "clear_page" := ⟨(lk_s (by decide +kernel) (lk_s (by decide +kernel) (lk_s (by decide +kernel) (lk_s (by decide +kernel) (lk_s (by decide +kernel) rfl)))))⟩
instance ln_Canvas_add_picture : LkN (fl_Canvas x0 x1 x2 x3 x4) "add_picture" := ⟨(lk_s (by decide +kernel) (lk_s (by decide +kernel) (lk_s (by decide +kernel) (lk_s (by decide +kernel) (lk_s (by decide +kernel) rfl)))))⟩
instance ln_Canvas_add_paint : LkN (fl_Canvas x0 x1 x2 x3 x4) "add_paint" := ⟨(lk_s (by decide +kernel) (lk_s (by decide +kernel) (lk_s (by decide +kernel) (lk_s (by decide +kernel) (lk_s (by decide +kernel) rfl)))))⟩
instance ln_Canvas_add_plain : LkN (fl_Canvas x0 x1 x2 x3 x4) "add_plain" := ⟨(lk_s (by decide +kernel) (lk_s (by decide +kernel) (lk_s (by decide +kernel) (lk_s (by decide +kernel) (lk_s (by decide +kernel) rfl)))))⟩
instance ln_Canvas_add_linear : LkN (fl_Canvas x0 x1 x2 x3 x4) "add_linear" := ⟨(lk_s (by decide +kernel) (lk_s (by decide +kernel) (lk_s (by decide +kernel) (lk_s (by decide +kernel) (lk_s (by decide +kernel) rfl)))))⟩
instance ln_Canvas_add_radial : LkN (fl_Canvas x0 x1 x2 x3 x4) "add_radial" := ⟨(lk_s (by decide +kernel) (lk_s (by decide +kernel) (lk_s (by decide +kernel) (lk_s (by decide +kernel) (lk_s (by decide +kernel) rfl)))))⟩
instance ln_Canvas_add_pictured : LkN (fl_Canvas x0 x1 x2 x3 x4) "add_pictured" := ⟨(lk_s (by decide +kernel) (lk_s (by decide +kernel) (lk_s (by decide +kernel) (lk_s (by decide +kernel) (lk_s (by decide +kernel) rfl)))))⟩
instance ln_Canvas_begin_clip : LkN (fl_Canvas x0 x1 x2 x3 x4) "begin_clip" := ⟨(lk_s (by decide +kernel) (lk_s (by decide +kernel) (lk_s (by decide +kernel) (lk_s (by decide +kernel) (lk_s (by decide +kernel) rfl)))))⟩
instance ln_Canvas_end_clip : LkN (fl_Canvas x0 x1 x2 x3 x4) "end_clip" := ⟨(lk_s (by decide +kernel) (lk_s (by decide +kernel) (lk_s (by decide +kernel) (lk_s (by decide +kernel) (lk_s (by decide +kernel) rfl)))))⟩
instance ln_Canvas_begin_group : LkN (fl_Canvas x0 x1 x2 x3 x4) "begin_group" := ⟨(lk_s (by decide +kernel) (lk_s (by decide +kernel) (lk_s (by decide +kernel) (lk_s (by decide +kernel) (lk_s (by decide +kernel) rfl)))))⟩
instance ln_Canvas_end_group : LkN (fl_Canvas x0 x1 x2 x3 x4) "end_group" := ⟨(lk_s (by decide +kernel) (lk_s (by decide +kernel) (lk_s (by decide +kernel) (lk_s (by decide +kernel) (lk_s (by decide +kernel) rfl)))))⟩
instance ln_Canvas_add_mark : LkN (fl_Canvas x0 x1 x2 x3 x4) "add_mark" := ⟨(lk_s (by decide +kernel) (lk_s (by decide +kernel) (lk_s (by decide +kernel) (lk_s (by decide +kernel) (lk_s (by decide +kernel) rfl)))))⟩
instance ln_Canvas_draw_dots : LkN (fl_Canvas x0 x1 x2 x3 x4) "draw_dots" := ⟨(lk_s (by decide +kernel) (lk_s (by decide +kernel) (lk_s (by decide +kernel) (lk_s (by decide +kernel) (lk_s (by decide +kernel) rfl)))))⟩
theorem new_Canvas : putF "pieces" x4 (putF "numbered" x3 (putF "layers" x2 (putF "paints" x1 (putF "pictures" x0 [])))) = fl_Canvas x0 x1 x2 x3 x4 := by
  have e0 : putF "pictures" x0 [] = ([("pictures", x0)] : List (Str × V)) := rfl
  have e1 : putF "paints" x1 [("pictures", x0)] = ([("pictures", x0), ("paints", x1)] : List (Str × V)) := (pt_s (by decide +kernel) rfl)
  have e2 : putF "layers" x2 [("pictures", x0), ("paints", x1)] = ([("pictures", x0), ("paints", x1), ("layers", x2)] : List (Str × V)) := (pt_s (by decide +kernel) (pt_s (by decide +kernel) rfl))
  have e3 : putF "numbered" x3 [("pictures", x0), ("paints", x1), ("layers", x2)] = ([("pictures", x0), ("paints", x1), ("layers", x2), ("numbered", x3)] : List (Str × V)) := (pt_s (by decide +kernel) (pt_s (by decide +kernel) (pt_s (by decide +kernel) rfl)))
  have e4 : putF "pieces" x4 [("pictures", x0), ("paints", x1), ("layers", x2), ("numbered", x3)] = ([("pictures", x0), ("paints", x1), ("layers", x2), ("numbered", x3), ("pieces", x4)] : List (Str × V)) := (pt_s (by decide +kernel) (pt_s (by decide +kernel) (pt_s (by decide +kernel) (pt_s (by decide +kernel) rfl))))
  rw [e0, e1, e2, e3, e4]
  all_goals rfl
instance few_Canvas : Few (fl_Canvas x0 x1 x2 x3 x4) 5 := ⟨Nat.le_refl _⟩
end
end Pd
end
section
set_option Elab.async false
set_option linter.all false
set_option maxRecDepth 100000
set_option maxHeartbeats 4000000
namespace Pd
open PySem PySem.Spec PyProof.Rows L2
open Wrvdot (State Answer step)
/-! ### the calls: plain -/
/-- so the numbers lie: a call's whole numbers, its rows, each behind its length -/
structure Lies (ns : List Int) (i : Nat) (xs : List Int) (rows : List (List Int)) (j : Nat) : Prop where
  eq : ns.drop i = (xs ++ rows.flatMap fun r => (r.length : Int) :: r) ++ ns.drop j
  len : j = i + xs.length + (rows.flatMap fun r => (r.length : Int) :: r).length
  le : j ≤ ns.length
theorem Lies.get {ns : List Int} {i j : Nat} {xs : List Int} {rows : List (List Int)} (h : Lies ns i xs rows j) {k : Nat} {v : Int} (e : (xs ++ rows.flatMap fun r => (r.length : Int) :: r)[k]? = some v) : ns[i + k]? = some v := by
  rw [← List.getElem?_drop, h.eq, List.getElem?_append_left (List.getElem?_eq_some_iff.mp e).1]
  exact e
theorem Lies.row {ns : List Int} {i j : Nat} {xs r : List Int} (h : Lies ns i xs [r] j) : (ns.drop (i + xs.length + 1)).take r.length = r ∧ i + xs.length + 1 + r.length = j ∧ j ≤ ns.length := by
  have e := h.eq
  have l := h.len
  simp only [List.flatMap_cons, List.flatMap_nil, List.append_nil, List.length_cons] at e l
  refine ⟨?_, by omega, h.le⟩
  rw [show i + xs.length + 1 = i + (xs.length + 1) from rfl, ← List.drop_drop, e, List.append_assoc, List.drop_append, show (xs.length + 1) - xs.length = 1 from by omega, List.drop_eq_nil_of_le (by omega), List.nil_append]
  show (r ++ ns.drop j).take r.length = r
  rw [List.take_append, List.take_length, Nat.sub_self, List.take_zero, List.append_nil]
def isDots : Wrvdot.Call → Bool
  | .dots _ _ _ _ _ => true
  | _ => false
theorem noRow (s : State) (x : Wrvdot.Call) (hx : isDots x = false := by rfl) : ∀ l, (step s x).2 ≠ .row l := by
  intro l
  cases x <;> first | (cases hx; done) | (simp only [Wrvdot.step, Wrvdot.addPaint, Wrvdot.no] <;> (repeat' split) <;> (intro e; cases e))
theorem noNum (s : State) (g : Nat) (x y : Int) (pw ph : Nat) : ∀ n, (step s (.dots g x y pw ph)).2 ≠ .number n := by
  intro n
  simp only [Wrvdot.step, Wrvdot.no] <;> (repeat' split) <;> (intro e; cases e)
open WrvdotNeutral (asked1 callOf whole32 n_ stops pieces piecesOk)
section
variable {xs : List Int} {rows : List (List Int)} {x : Wrvdot.Call}
theorem w32 {z : Int} (h : whole32 z = true) : ∃ n : Nat, z = (n : Int) ∧ n < 4294967296 := by
  simp only [whole32, Bool.and_eq_true, decide_eq_true_eq] at h
  exact ⟨z.toNat, by omega, by omega⟩
theorem n_nat (n : Nat) : n_ (n : Int) = n := rfl
theorem ask0 (h : asked1 ((0 :: xs) :: rows) = true) (e : callOf ((0 :: xs) :: rows) = some x) : xs = [] ∧ rows = [] ∧ x = .clear := by
  unfold asked1 at h; split at h <;> simp_all [callOf]
theorem ask1 (h : asked1 ((1 :: xs) :: rows) = true) (e : callOf ((1 :: xs) :: rows) = some x) : ∃ (a b : Nat) (l : List Int), xs = [(a : Int), (b : Int)] ∧ rows = [l] ∧ a < 4294967296 ∧ b < 4294967296 ∧ l.all whole32 = true ∧ x = .picture a b (l.map n_) := by
  unfold asked1 at h; split at h <;> rename_i hq <;> (try (simp at hq; done)) <;> (try (cases h; done))
  cases hq
  cases e
  simp only [Bool.and_eq_true] at h
  obtain ⟨a, rfl, ha⟩ := w32 h.1
  obtain ⟨b, rfl, hb⟩ := w32 h.2.1
  exact ⟨a, b, _, rfl, rfl, ha, hb, h.2.2, rfl⟩
theorem ask2 (h : asked1 ((2 :: xs) :: rows) = true) (e : callOf ((2 :: xs) :: rows) = some x) : ∃ (a : Nat), xs = [(a : Int)] ∧ rows = [] ∧ a < 4294967296 ∧ x = .plain a := by
  unfold asked1 at h; split at h <;> rename_i hq <;> (try (simp at hq; done)) <;> (try (cases h; done))
  cases hq
  cases e
  obtain ⟨a, rfl, ha⟩ := w32 h
  exact ⟨a, rfl, rfl, ha, rfl⟩
theorem ask3 (h : asked1 ((3 :: xs) :: rows) = true) (e : callOf ((3 :: xs) :: rows) = some x) : ∃ (a1 a2 b1 b2 : Int) (k : Nat) (l : List Int), xs = [a1, a2, b1, b2, (k : Int)] ∧ rows = [l] ∧ l.all whole32 = true ∧ x = .linear (a1, a2) (b1, b2) k (stops l) := by
  unfold asked1 at h; split at h <;> rename_i hq <;> (try (simp at hq; done)) <;> (try (cases h; done))
  cases hq
  cases e
  simp only [Bool.and_eq_true] at h
  obtain ⟨k, rfl, hk⟩ := w32 h.2.1
  exact ⟨_, _, _, _, k, _, rfl, rfl, h.2.2, rfl⟩
theorem ask4 (h : asked1 ((4 :: xs) :: rows) = true) (e : callOf ((4 :: xs) :: rows) = some x) : ∃ (a1 a2 : Int) (r k : Nat) (l : List Int), xs = [a1, a2, (r : Int), (k : Int)] ∧ rows = [l] ∧ l.all whole32 = true ∧ x = .radial (a1, a2) r k (stops l) := by
  unfold asked1 at h; split at h <;> rename_i hq <;> (try (simp at hq; done)) <;> (try (cases h; done))
  cases hq
  cases e
  simp only [Bool.and_eq_true] at h
  obtain ⟨r, rfl, hr⟩ := w32 h.2.1
  obtain ⟨k, rfl, hk⟩ := w32 h.2.2.1
  exact ⟨_, _, r, k, _, rfl, rfl, h.2.2.2, rfl⟩
theorem ask5 (h : asked1 ((5 :: xs) :: rows) = true) (e : callOf ((5 :: xs) :: rows) = some x) : ∃ (a b c : Nat) (l : List Int), xs = [(a : Int), (b : Int), (c : Int)] ∧ rows = [l] ∧ x = .pictured a b c l := by
  unfold asked1 at h; split at h <;> rename_i hq <;> (try (simp at hq; done)) <;> (try (cases h; done))
  cases hq
  cases e
  simp only [Bool.and_eq_true] at h
  obtain ⟨a, rfl, ha⟩ := w32 h.1
  obtain ⟨b, rfl, hb⟩ := w32 h.2.1
  obtain ⟨c, rfl, hc⟩ := w32 h.2.2.1
  exact ⟨a, b, c, _, rfl, rfl, rfl⟩
theorem ask6 (h : asked1 ((6 :: xs) :: rows) = true) (e : callOf ((6 :: xs) :: rows) = some x) : ∃ (a : Nat) (l : List Int), xs = [(a : Int)] ∧ rows = [l] ∧ piecesOk l = true ∧ x = .clip a (pieces l) := by
  unfold asked1 at h; split at h <;> rename_i hq <;> (try (simp at hq; done)) <;> (try (cases h; done))
  cases hq
  cases e
  simp only [Bool.and_eq_true] at h
  obtain ⟨a, rfl, ha⟩ := w32 h.1
  exact ⟨a, _, rfl, rfl, h.2, rfl⟩
theorem ask7 (h : asked1 ((7 :: xs) :: rows) = true) (e : callOf ((7 :: xs) :: rows) = some x) : xs = [] ∧ rows = [] ∧ x = .unclip := by
  unfold asked1 at h; split at h <;> simp_all [callOf]
theorem ask8 (h : asked1 ((8 :: xs) :: rows) = true) (e : callOf ((8 :: xs) :: rows) = some x) : ∃ (a b : Nat), xs = [(a : Int), (b : Int)] ∧ rows = [] ∧ x = .group a b := by
  unfold asked1 at h; split at h <;> rename_i hq <;> (try (simp at hq; done)) <;> (try (cases h; done))
  cases hq
  cases e
  simp only [Bool.and_eq_true] at h
  obtain ⟨a, rfl, ha⟩ := w32 h.1
  obtain ⟨b, rfl, hb⟩ := w32 h.2
  exact ⟨a, b, rfl, rfl, rfl⟩
theorem ask9 (h : asked1 ((9 :: xs) :: rows) = true) (e : callOf ((9 :: xs) :: rows) = some x) : xs = [] ∧ rows = [] ∧ x = .end_ := by
  unfold asked1 at h; split at h <;> simp_all [callOf]
theorem ask10 (h : asked1 ((10 :: xs) :: rows) = true) (e : callOf ((10 :: xs) :: rows) = some x) : ∃ (a b c : Nat) (l : List Int), xs = [(a : Int), (b : Int), (c : Int)] ∧ rows = [l] ∧ piecesOk l = true ∧ x = .mark a b c (pieces l) := by
  unfold asked1 at h; split at h <;> rename_i hq <;> (try (simp at hq; done)) <;> (try (cases h; done))
  cases hq
  cases e
  simp only [Bool.and_eq_true] at h
  obtain ⟨a, rfl, ha⟩ := w32 h.1
  obtain ⟨b, rfl, hb⟩ := w32 h.2.1
  obtain ⟨c, rfl, hc⟩ := w32 h.2.2.1
  exact ⟨a, b, c, _, rfl, rfl, h.2.2.2, rfl⟩
theorem ask11 (h : asked1 ((11 :: xs) :: rows) = true) (e : callOf ((11 :: xs) :: rows) = some x) : ∃ (gr : Nat) (x1 y1 : Int) (pw ph : Nat), xs = [(gr : Int), x1, y1, (pw : Int), (ph : Int)] ∧ rows = [] ∧ x = .dots gr x1 y1 pw ph := by
  unfold asked1 at h; split at h <;> rename_i hq <;> (try (simp at hq; done)) <;> (try (cases h; done))
  cases hq
  cases e
  simp only [Bool.and_eq_true] at h
  obtain ⟨gr, rfl, ha⟩ := w32 h.1.1.1
  obtain ⟨pw, rfl, hb⟩ := w32 h.2.1
  obtain ⟨ph, rfl, hc⟩ := w32 h.2.2
  exact ⟨gr, _, _, pw, ph, rfl, rfl, rfl⟩
end
/-! ### what a call may answer -/
theorem refused_of (s : State) (x : Wrvdot.Call) : ∀ z, (step s x).2 = .refused z → z = -1 ∨ z = -3 ∨ z = -5 := by
  intro z
  cases x <;> simp only [Wrvdot.step, Wrvdot.addPaint, Wrvdot.no] <;> (repeat' split) <;> (intro e; cases e) <;> simp
theorem row_of (s : State) (x : Wrvdot.Call) : ∀ l, (step s x).2 = .row l → l.length ≤ 64 := by
  intro l e
  cases x with
  | dots g a b pw ph =>
    simp only [Wrvdot.step, Wrvdot.no] at e
    split at e
    · cases e
    · rename_i h
      split at e
      · cases e
      · cases e
        rw [not_or, not_or, not_or] at h
        have h1 : pw ≤ 8 := Nat.le_of_not_lt h.2.2.1
        have h2 : ph ≤ 8 := Nat.le_of_not_lt h.2.2.2
        rw [Wrvdot.dotsOf, List.length_map, List.length_range]
        exact Nat.mul_le_mul h1 h2
  | _ => exact absurd e (noRow s _ rfl l)
theorem asked_le {p : Int} {xs : List Int} {rows : List (List Int)} (h : asked1 ((p :: xs) :: rows) = true) : ∃ n : Nat, n < 12 ∧ p = (n : Int) := by
  unfold asked1 at h
  split at h <;> rename_i hq <;> first
    | (cases h; done)
    | (injection hq with q1 q2
       injection q1 with q3 q4
       exact ⟨p.toNat, by omega, by omega⟩)
theorem asked_call {p : Int} {xs : List Int} {rows : List (List Int)} (h : asked1 ((p :: xs) :: rows) = true) : ∃ x, callOf ((p :: xs) :: rows) = some x := by
  unfold asked1 at h
  split at h <;> rename_i hq <;> first
    | (cases h; done)
    | (rw [hq]; exact ⟨_, rfl⟩)
end Pd
end
section
set_option Elab.async false
set_option linter.all false
set_option maxRecDepth 100000
set_option maxHeartbeats 4000000
namespace Pd
open PySem PySem.Spec PyProof.Rows L2
section
variable {P : Program} {w : World} {K : PySem.W.Frag} {mg : Str → Option Value} {base : Heap}
local macro_rules | `(tactic| walk_at "at") => `(tactic| first
  | assumption
  | exact upd_same
  | (refine (show Same _ _ by assumption) _ _ ?_; walk_at "at")
  | (refine (show But _ _ _ by assumption) _ _ (by assumption) ?_; assumption)
  | (refine Same.new (by assumption) _ _ ?_; walk_at "at")
  | (refine (upd_ne (ne_of (by assumption) (by assumption) (by intro z; cases z))).trans ?_; walk_at "at"))
local macro_rules | `(tactic| walk_at "go") => `(tactic| repeat (first
  | refine ⟨_, rfl, ?_⟩
  | refine ⟨_, _, rfl, rfl, ?_⟩
  | refine ⟨_, _, rfl, ?_⟩
  | refine ⟨_, _, _, rfl, ?_⟩
  | refine And.intro rfl ?_
  | refine And.intro (Or.inl ⟨by decide, by decide⟩) ?_
  | refine And.intro (Or.inr ⟨by decide, by decide⟩) ?_
  | refine And.intro ⟨by decide, by decide⟩ ?_
  | refine And.intro (Or.inl ⟨by omega, by omega⟩) ?_
  | refine And.intro (Or.inr ⟨by omega, by omega⟩) ?_
  | refine And.intro ⟨by omega, by omega⟩ ?_
  | refine And.intro trivial ?_
  | refine And.intro (by omega) ?_
  | refine And.intro (sz (Nat.le_of_ble_eq_true rfl)) ?_
  | refine And.intro (Or.inl ⟨rfl, _, SqL.of (by walk_at "at")⟩) ?_
  | refine ⟨_, _, _, _, rfl, rfl, SqT.of (by walk_at "at"), (by rfl), ?_⟩
  | refine ⟨_, _, _, _, rfl, rfl, SqL.of (by walk_at "at"), (by rfl), ?_⟩
  | refine ⟨_, _, _, _, _, rfl, (by walk_at "at"), (by assumption), (by assumption), Lk.h, ?_⟩
  | refine ⟨_, _, _, rfl, rfl, (by walk_at "at"), ?_⟩
  | refine ⟨_, _, _, rfl, (by walk_at "at"), LkN.h, ?_⟩
  | refine ⟨_, _, _, _, rfl, (by walk_at "at"), (by assumption), (by assumption), (by apply few_lt; decide), ?_⟩
  | refine ⟨_, _, (by walk_at "at"), (by apply few_lt; decide), ?_⟩
  | refine ⟨_, _, rfl, Or.inl (SqL.of (by walk_at "at")), ?_⟩))
/-! ### numbers alone -/
def sp1 (C : Int → Prop) (g : Int → V) : Sp := fun vs H Q _ => ∃ x : Int, vs = [.int x] ∧ C x ∧ Q (g x) H
def sp2 (C : Int → Int → Prop) (g : Int → Int → V) : Sp := fun vs H Q _ => ∃ x y : Int, vs = [.int x, .int y] ∧ C x y ∧ Q (g x y) H
def sp3 (C : Int → Int → Int → Prop) (g : Int → Int → Int → V) : Sp := fun vs H Q _ => ∃ x y z : Int, vs = [.int x, .int y, .int z] ∧ C x y z ∧ Q (g x y z) H
theorem sp1_len {C : Int → Prop} {g : Int → V} : ∀ vs H Q E, sp1 C g vs H Q E → vs.length = 1 := fun _ _ _ _ ⟨_, e, _⟩ => by rw [e]; rfl
theorem sp2_len {C : Int → Int → Prop} {g : Int → Int → V} : ∀ vs H Q E, sp2 C g vs H Q E → vs.length = 2 := fun _ _ _ _ ⟨_, _, e, _⟩ => by rw [e]; rfl
theorem sp3_len {C : Int → Int → Int → Prop} {g : Int → Int → Int → V} : ∀ vs H Q E, sp3 C g vs H Q E → vs.length = 3 := fun _ _ _ _ ⟨_, _, _, e, _⟩ => by rw [e]; rfl
/-- within 64 bits -/
abbrev Sm (x : Int) : Prop := -(2 ^ 64) < x ∧ x < 2 ^ 64
/-! ### mul -/
theorem sc_mul : FnScope ["x", "y"] ["x", "y"] (defScope s_mul) := ⟨rfl, rfl, rfl, by decide +kernel, rfl, by decide +kernel, by decide +kernel⟩
theorem bd_mul : BindAll "mul" "mul" s_mul ["x", "y"] := fun _ _ _ _ _ _ us hl => match us, hl with | [_, _], _ => rfl
theorem ok_mul (T : Txt K mg) : Ok P w K mg base CX0 1 (He.fAd K ("mul", none)) ["x", "y"] (sp2 (fun x _ => Sm x) fun x y => .int (mulI x y)) := by
  refine mk_ok T.f_mul sc_mul bd_mul sp2_len fun cdv A outer s H vs Q E hr h => ?_
  obtain ⟨x, y, rfl, b, q⟩ := h
  refine ⟨_, (pss_one (ps_ret (pe_op op_fdiv (pe_op op_add (pe_op op_mul (pv 0) (pv 1)) pe_int) pe_int))), ?_⟩
  exact ⟨_, rfl, _, rfl, _, _, rfl, rfl, .inl b, _, _, rfl, rfl, _, _, rfl, rfl, ⟨by decide, by decide⟩, q⟩
/-! ### is_far -/
theorem sc_is_far : FnScope ["number"] ["number"] (defScope s_is_far) := ⟨rfl, rfl, rfl, by decide +kernel, rfl, by decide +kernel, by decide +kernel⟩
theorem bd_is_far : BindAll "is_far" "is_far" s_is_far ["number"] := fun _ _ _ _ _ _ us hl => match us, hl with | [_], _ => rfl
theorem ok_is_far (T : Txt K mg) : Ok P w K mg base CX0 1 (He.fAd K ("is_far", none)) ["number"] (sp1 (fun _ => True) fun x => .bl (farB x)) := by
  refine mk_ok T.f_is_far sc_is_far bd_is_far sp1_len fun cdv A outer s H vs Q E hr h => ?_
  obtain ⟨x, rfl, b, q⟩ := h
  refine ⟨_, (pss_one (ps_ret (pe_or (pe_cmpR op_lt (pv 0) (pe_un un_neg (c_int rfl T.i_FAR)) (nomark _)) (pe_one (pe_cmpR op_gt (pv 0) (c_int rfl T.i_FAR) (nomark _)))))), ?_⟩
  walk_at "go"
  refine ite2 (fun c => ?_) (fun c => ?_)
  · exact q_of (by simp only [farB, c]; rfl) q
  · walk_at "go"
    exact q_of (by simp only [farB, Bool.eq_false_iff.mpr c]; rfl) q
/-! ### place_at -/
theorem sc_place_at : FnScope ["dot", "number"] ["dot", "number"] (defScope s_place_at) := ⟨rfl, rfl, rfl, by decide +kernel, rfl, by decide +kernel, by decide +kernel⟩
theorem bd_place_at : BindAll "place_at" "place_at" s_place_at ["dot", "number"] := fun _ _ _ _ _ _ us hl => match us, hl with | [_, _], _ => rfl
theorem ok_place_at (T : Txt K mg) : Ok P w K mg base CX0 1 (He.fAd K ("place_at", none)) ["dot", "number"] (sp2 (fun _ _ => True) fun x y => .int (placeI x y)) := by
  refine mk_ok T.f_place_at sc_place_at bd_place_at sp2_len fun cdv A outer s H vs Q E hr h => ?_
  obtain ⟨x, y, rfl, b, q⟩ := h
  refine ⟨_, (pss_one (ps_ret (pe_op op_add (pe_op op_add (pe_op op_mul (c_int rfl T.i_DOT) (pv 0)) (pe_op op_mul (c_int rfl T.i_APART) (pv 1))) (c_int rfl T.i_FIRST)))), ?_⟩
  walk_at "go"
  exact q
/-! ### alone -/
theorem sc_alone : FnScope ["part", "cover"] ["part", "cover"] (defScope s_alone) := ⟨rfl, rfl, rfl, by decide +kernel, rfl, by decide +kernel, by decide +kernel⟩
theorem bd_alone : BindAll "alone" "alone" s_alone ["part", "cover"] := fun _ _ _ _ _ _ us hl => match us, hl with | [_, _], _ => rfl
theorem ok_alone (T : Txt K mg) : Ok P w K mg base CX0 1 (He.fAd K ("alone", none)) ["part", "cover"] (sp2 (fun _ c => 0 ≤ c ∧ c ≤ 255) fun x y => .int (aloneI x y)) := by
  refine mk_ok T.f_alone sc_alone bd_alone sp2_len fun cdv A outer s H vs Q E hr h => ?_
  obtain ⟨x, y, rfl, b, q⟩ := h
  refine ⟨_, (pss_cons (ps_if (pt_cmpR op_eq (pv 1) pe_int (nomark _)) (pss_one (ps_ret pe_int)) pss_nil)
      (pss_one (ps_ret (pe_callB (call_min2 rfl) (by rfl) T.z_min (by decide +kernel) (pa_cons (pe_op op_fdiv (pe_op op_add (pe_op op_mul pe_int (pv 0)) (pe_op op_fdiv (pv 1) pe_int)) (pv 1)) (pa_cons pe_int pa_nil)))))), ?_⟩
  walk_at "go"
  refine ite2 (fun c => ?_) (fun c => ?_)
  · exact qi_of (by unfold aloneI; rw [if_pos (dint c)]) q
  · have c2 := dint_not c
    walk_at "go"
    refine qi_of ?_ q
    unfold aloneI
    rw [if_neg c2]
    split <;> omega
/-! ### hard -/
theorem sc_hard : FnScope ["chosen", "other", "rest"] ["chosen", "other"] (defScope s_hard) := ⟨rfl, rfl, rfl, by decide +kernel, rfl, by decide +kernel, by decide +kernel⟩
theorem bd_hard : BindAll "hard" "hard" s_hard ["chosen", "other"] := fun _ _ _ _ _ _ us hl => match us, hl with | [_, _], _ => rfl
theorem ok_hard (T : Txt K mg) : Ok P w K mg base CX0 2 (He.fAd K ("hard", none)) ["chosen", "other"] (sp2 (fun v _ => 0 ≤ v ∧ v ≤ 255) fun x y => .int (hardI x y)) := by
  refine mk_ok T.f_hard sc_hard bd_hard sp2_len fun cdv A outer s H vs Q E hr h => ?_
  obtain ⟨x, y, rfl, b, q⟩ := h
  refine ⟨_, (pss_cons (ps_if (pt_cmpR op_le (pv 0) pe_int (nomark _)) (pss_one (ps_ret (c_call (ok_mul (K := K) T) hr (by decide) rfl T.g_mul pass0 (pa_cons (pe_op op_mul pe_int (pv 0)) (pa_cons (pv 1) pa_nil))))) pss_nil)
      (pss_cons (ps_set (i := 2) sc_hard.nd rfl (Or.inl rfl) (pe_op op_sub (pe_op op_mul pe_int (pv 0)) pe_int))
      (pss_one (ps_ret (pe_op op_sub (pe_op op_add (pv 2) (pv 1)) (c_call (ok_mul (K := K) T) hr (by decide) rfl T.g_mul pass0 (pa_cons (pv 2) (pa_cons (pv 1) pa_nil)))))))), ?_⟩
  walk_at "go"
  refine ite2 (fun c => ?_) (fun c => ?_)
  · walk_at "go"
    exact qi_of (by unfold hardI; rw [if_pos (ddec c)]) q
  · walk_at "go"
    exact qi_of (by unfold hardI; rw [if_neg (dnot c)]) q
/-! ### blended -/
theorem sc_blended : FnScope ["how", "under", "over"] ["how", "under", "over"] (defScope s_blended) := ⟨rfl, rfl, rfl, by decide +kernel, rfl, by decide +kernel, by decide +kernel⟩
theorem bd_blended : BindAll "blended" "blended" s_blended ["how", "under", "over"] := fun _ _ _ _ _ _ us hl => match us, hl with | [_, _, _], _ => rfl
theorem ok_blended (T : Txt K mg) : Ok P w K mg base CX0 3 (He.fAd K ("blended", none)) ["how", "under", "over"] (sp3 (fun _ v u => (0 ≤ v ∧ v ≤ 255) ∧ 0 ≤ u ∧ u ≤ 255) fun h x y => .int (blendI h x y)) := by
  refine mk_ok T.f_blended sc_blended bd_blended sp3_len fun cdv A outer s H vs Q E hr h => ?_
  obtain ⟨k, x, y, rfl, ⟨b1, b2⟩, q⟩ := h
  refine ⟨_, (pss_cons (ps_if (pt_cmpR op_eq (pv 0) pe_int (nomark _)) (pss_one (ps_ret (c_call (ok_mul (K := K) T) hr (by decide) rfl T.g_mul pass0 (pa_cons (pv 1) (pa_cons (pv 2) pa_nil))))) pss_nil)
      (pss_cons (ps_if (pt_cmpR op_eq (pv 0) pe_int (nomark _)) (pss_one (ps_ret (pe_op op_sub (pe_op op_add (pv 1) (pv 2)) (c_call (ok_mul (K := K) T) hr (by decide) rfl T.g_mul pass0 (pa_cons (pv 1) (pa_cons (pv 2) pa_nil)))))) pss_nil)
      (pss_cons (ps_if (pt_cmpR op_eq (pv 0) pe_int (nomark _)) (pss_one (ps_ret (pe_callB (call_min2 rfl) (by rfl) T.z_min (by decide +kernel) (pa_cons (pv 1) (pa_cons (pv 2) pa_nil))))) pss_nil)
      (pss_cons (ps_if (pt_cmpR op_eq (pv 0) pe_int (nomark _)) (pss_one (ps_ret (pe_callB (call_max2 rfl) (by rfl) T.z_max (by decide +kernel) (pa_cons (pv 1) (pa_cons (pv 2) pa_nil))))) pss_nil)
      (pss_cons (ps_if (pt_cmpR op_eq (pv 0) pe_int (nomark _)) (pss_one (ps_ret (pe_op op_sub (pe_callB (call_max2 rfl) (by rfl) T.z_max (by decide +kernel) (pa_cons (pv 1) (pa_cons (pv 2) pa_nil))) (pe_callB (call_min2 rfl) (by rfl) T.z_min (by decide +kernel) (pa_cons (pv 1) (pa_cons (pv 2) pa_nil)))))) pss_nil)
      (pss_cons (ps_if (pt_cmpR op_eq (pv 0) pe_int (nomark _)) (pss_one (ps_ret (c_call (ok_hard (K := K) T) hr (by decide) rfl T.g_hard pass0 (pa_cons (pv 1) (pa_cons (pv 2) pa_nil))))) pss_nil)
      (pss_one (ps_ret (c_call (ok_hard (K := K) T) hr (by decide) rfl T.g_hard pass0 (pa_cons (pv 2) (pa_cons (pv 1) pa_nil))))))))))), ?_⟩
  have mx : ∀ a b : Int, (if b > a then b else a) = max a b := fun a b => by split <;> omega
  have mn : ∀ a b : Int, (if b < a then b else a) = min a b := fun a b => by split <;> omega
  walk_at "go"
  refine ite2 (fun c => ?_) (fun c1 => ?_)
  · walk_at "go"
    exact qi_of (by unfold blendI; rw [if_pos (dint c)]) q
  walk_at "go"
  refine ite2 (fun c => ?_) (fun c2 => ?_)
  · walk_at "go"
    exact qi_of (by unfold blendI; rw [if_neg (dint_not c1), if_pos (dint c)]) q
  walk_at "go"
  refine ite2 (fun c => ?_) (fun c3 => ?_)
  · walk_at "go"
    exact qi_of (by unfold blendI; rw [if_neg (dint_not c1), if_neg (dint_not c2), if_pos (dint c), mn]) q
  walk_at "go"
  refine ite2 (fun c => ?_) (fun c4 => ?_)
  · walk_at "go"
    exact qi_of (by unfold blendI; rw [if_neg (dint_not c1), if_neg (dint_not c2), if_neg (dint_not c3), if_pos (dint c), mx]) q
  walk_at "go"
  refine ite2 (fun c => ?_) (fun c5 => ?_)
  · walk_at "go"
    exact qi_of (by unfold blendI; rw [if_neg (dint_not c1), if_neg (dint_not c2), if_neg (dint_not c3), if_neg (dint_not c4), if_pos (dint c), mx, mn]) q
  walk_at "go"
  refine ite2 (fun c => ?_) (fun c6 => ?_)
  · walk_at "go"
    exact qi_of (by unfold blendI; rw [if_neg (dint_not c1), if_neg (dint_not c2), if_neg (dint_not c3), if_neg (dint_not c4), if_neg (dint_not c5), if_pos (dint c)]) q
  · walk_at "go"
    exact qi_of (by unfold blendI; rw [if_neg (dint_not c1), if_neg (dint_not c2), if_neg (dint_not c3), if_neg (dint_not c4), if_neg (dint_not c5), if_neg (dint_not c6)]) q
/-! ### spread -/
theorem sc_spread : FnScope ["how", "t", "turned"] ["how", "t"] (defScope s_spread) := ⟨rfl, rfl, rfl, by decide +kernel, rfl, by decide +kernel, by decide +kernel⟩
theorem bd_spread : BindAll "spread" "spread" s_spread ["how", "t"] := fun _ _ _ _ _ _ us hl => match us, hl with | [_, _], _ => rfl
theorem ok_spread (T : Txt K mg) : Ok P w K mg base CX0 1 (He.fAd K ("spread", none)) ["how", "t"] (sp2 (fun _ _ => True) fun x y => .int (spreadI x y)) := by
  refine mk_ok T.f_spread sc_spread bd_spread sp2_len fun cdv A outer s H vs Q E hr h => ?_
  obtain ⟨k, x, rfl, b, q⟩ := h
  refine ⟨_, (pss_cons (ps_if (pt_cmpR op_eq (pv 0) pe_int (nomark _)) (pss_one (ps_ret (pe_callB (call_min2 rfl) (by rfl) T.z_min (by decide +kernel) (pa_cons (pe_callB (call_max2 rfl) (by rfl) T.z_max (by decide +kernel) (pa_cons (pv 1) (pa_cons pe_int pa_nil))) (pa_cons (c_int rfl T.i_WHOLE_shades) pa_nil))))) pss_nil)
      (pss_cons (ps_if (pt_cmpR op_eq (pv 0) pe_int (nomark _)) (pss_one (ps_ret (pe_op op_mod (pv 1) (c_int rfl T.i_WHOLE_shades)))) pss_nil)
      (pss_cons (ps_set (i := 2) sc_spread.nd rfl (Or.inl rfl) (pe_op op_mod (pv 1) (pe_op op_mul pe_int (c_int rfl T.i_WHOLE_shades))))
      (pss_one (ps_ret (pe_ifExp (pt_cmpR op_le (pv 2) (c_int rfl T.i_WHOLE_shades) (nomark _)) (pv 2) (pe_op op_sub (pe_op op_mul pe_int (c_int rfl T.i_WHOLE_shades)) (pv 2)))))))), ?_⟩
  walk_at "go"
  refine ite2 (fun c => ?_) (fun c1 => ?_)
  · walk_at "go"
    refine qi_of ?_ q
    unfold spreadI
    rw [if_pos (dint c)]
    split <;> split <;> omega
  walk_at "go"
  refine ite2 (fun c => ?_) (fun c2 => ?_)
  · walk_at "go"
    exact qi_of (by unfold spreadI; rw [if_neg (dint_not c1), if_pos (dint c)]) q
  walk_at "go"
  refine ite2 (fun c3 => ?_) (fun c3 => ?_)
  · walk_at "go"
    have c4 : x % 131072 ≤ 65536 := ddec c3
    exact qi_of (by unfold spreadI; rw [if_neg (dint_not c1), if_neg (dint_not c2), if_pos c4] <;> rfl) q
  · walk_at "go"
    have c4 : ¬ x % 131072 ≤ 65536 := dnot c3
    exact qi_of (by unfold spreadI; rw [if_neg (dint_not c1), if_neg (dint_not c2), if_neg c4] <;> rfl) q
/-! ### brought_in -/
def broughtI (n size how : Int) : V := if 0 ≤ n ∧ n < size then .int n else if how = 0 then .non else if how = 1 then (if n < 0 then .int 0 else .int (size - 1)) else if how = 2 then .int (n % size) else
  if n % (2 * size) < size then .int (n % (2 * size)) else .int (2 * size - 1 - n % (2 * size))
theorem sc_brought_in : FnScope ["number", "size", "how", "turned"] ["number", "size", "how"] (defScope s_brought_in) := ⟨rfl, rfl, rfl, by decide +kernel, rfl, by decide +kernel, by decide +kernel⟩
theorem bd_brought_in : BindAll "brought_in" "brought_in" s_brought_in ["number", "size", "how"] := fun _ _ _ _ _ _ us hl => match us, hl with | [_, _, _], _ => rfl
theorem ok_brought_in (T : Txt K mg) : Ok P w K mg base CX0 1 (He.fAd K ("brought_in", none)) ["number", "size", "how"] (sp3 (fun _ n _ => 0 < n ∧ n ≤ 1024) fun x n h => broughtI x n h) := by
  refine mk_ok T.f_brought_in sc_brought_in bd_brought_in sp3_len fun cdv A outer s H vs Q E hr h => ?_
  obtain ⟨x, n, k, rfl, b, q⟩ := h
  refine ⟨_, (Evl.pss_cut (ps_if (pt_chain op_le op_lt pe_int (pv 0) (pv 1)) (pss_one (ps_ret (pv 0))) pss_nil)
      (pss_cons (ps_if (pt_cmpR op_eq (pv 2) (c_int rfl T.i_NOTHING_BEYOND) (nomark _)) (pss_one (ps_ret pe_non)) pss_nil)
      (pss_cons (ps_if (pt_cmpR op_eq (pv 2) (c_int rfl T.i_NEAREST) (nomark _)) (pss_one (ps_ret (pe_ifExp (pt_cmpR op_lt (pv 0) pe_int (nomark _)) pe_int (pe_op op_sub (pv 1) pe_int)))) pss_nil)
      (pss_cons (ps_if (pt_cmpR op_eq (pv 2) (c_int rfl T.i_AGAIN) (nomark _)) (pss_one (ps_ret (pe_op op_mod (pv 0) (pv 1)))) pss_nil)
      (pss_cons (ps_set (i := 3) sc_brought_in.nd rfl (Or.inl rfl) (pe_op op_mod (pv 0) (pe_op op_mul pe_int (pv 1))))
      (pss_one (ps_ret (pe_ifExp (pt_cmpR op_lt (pv 3) (pv 1) (nomark _)) (pv 3) (pe_op op_sub (pe_op op_sub (pe_op op_mul pe_int (pv 1)) pe_int) (pv 3)))))))))), ?_⟩
  refine ⟨fun σ' H' => σ' = start ["number", "size", "how", "turned"] [.int x, .int n, .int k] ∧ H' = H ∧ ¬ (0 ≤ x ∧ x < n), ?_, ?_⟩
  · walk_at "go"
    refine ite2 (fun c1 => ?_) (fun c1 => ?_)
    · replace c1 := ddec c1
      walk_at "go"
      refine ite2 (fun c2 => ?_) (fun c2 => ?_)
      · replace c2 := ddec c2
        walk_at "go"
        exact q_of (by simp only [broughtI, if_pos (show 0 ≤ x ∧ x < n from ⟨c1, c2⟩)]) q
      · exact ⟨rfl, rfl, fun z => dnot c2 z.2⟩
    · walk_at "go"
      exact fun z => dnot c1 z.1
  · rintro σ' H' ⟨rfl, rfl, c⟩
    have bx : broughtI x n k = if k = 0 then .non else if k = 1 then (if x < 0 then .int 0 else .int (n - 1)) else if k = 2 then .int (x % n) else if x % (2 * n) < n then .int (x % (2 * n)) else .int (2 * n - 1 - x % (2 * n)) := by
      unfold broughtI
      rw [if_neg c]
    replace q : Q (broughtI x n k) H' := q
    rw [bx] at q
    clear bx
    walk_at "go"
    refine ite2 (fun c1 => ?_) (fun c1 => ?_)
    · exact q_of (by rw [if_pos (dint c1)]) q
    rw [if_neg (dint_not c1)] at q
    walk_at "go"
    refine ite2 (fun c2 => ?_) (fun c2 => ?_)
    · rw [if_pos (dint c2)] at q
      walk_at "go"
      refine ite2 (fun c3 => ?_) (fun c3 => ?_)
      · exact q_of (by rw [if_pos (ddec c3)]) q
      · walk_at "go"
        exact q_of (by rw [if_neg (dnot c3)]) q
    rw [if_neg (dint_not c2)] at q
    walk_at "go"
    refine ite2 (fun c3 => ?_) (fun c3 => ?_)
    · walk_at "go"
      exact q_of (by rw [if_pos (dint c3)]) q
    rw [if_neg (dint_not c3)] at q
    walk_at "go"
    refine ite2 (fun c4 => ?_) (fun c4 => ?_)
    · walk_at "go"
      exact q_of (by rw [if_pos (ddec c4)]) q
    · walk_at "go"
      exact q_of (by rw [if_neg (dnot c4)]) q
/-! ### whole_root -/
theorem bits_up {n : Int} (h0 : 0 ≤ n) : n < 2 ^ Builtin.Int.intBits n := by
  unfold Builtin.Int.intBits
  split
  · rename_i h
    have : n = 0 := by simpa using h
    rw [this]
    decide
  · have h1 : n.natAbs < 2 ^ (n.natAbs.log2 + 1) := Nat.lt_log2_self
    have h2 : (n.natAbs : Int) < 2 ^ (n.natAbs.log2 + 1) := by exact_mod_cast h1
    omega
theorem sc_whole_root : FnScope ["square", "root", "closer"] ["square"] (defScope s_whole_root) := ⟨rfl, rfl, rfl, by decide +kernel, rfl, by decide +kernel, by decide +kernel⟩
theorem bd_whole_root : BindAll "whole_root" "whole_root" s_whole_root ["square"] := fun _ _ _ _ _ _ us hl => match us, hl with | [_], _ => rfl
theorem ok_whole_root (T : Txt K mg) : Ok P w K mg base CX0 1 (He.fAd K ("whole_root", none)) ["square"] (fun vs H Q _ => ∃ n : Int, vs = [.int n] ∧ (0 ≤ n ∧ n < 2 ^ 200) ∧ ∀ r, IsRoot n r → Q (.int r) H) := by
  refine mk_ok T.f_whole_root sc_whole_root bd_whole_root (fun _ _ _ _ ⟨_, e, _⟩ => by rw [e]; rfl) fun cdv A outer s H vs Q E hr h => ?_
  obtain ⟨n, rfl, ⟨b1, b2⟩, q⟩ := h
  refine ⟨_, (pss_cons (ps_if (pt_cmpR op_eq (pv 0) pe_int (nomark _)) (pss_one (ps_ret pe_int)) pss_nil)
      (pss_cons (ps_set (i := 1) sc_whole_root.nd rfl (Or.inl rfl) (pe_op op_shl pe_int (pe_op op_fdiv (pe_op op_add (pe_bits (pv 0)) pe_int) pe_int)))
      (pss_cons (ps_set (i := 2) sc_whole_root.nd rfl (Or.inl rfl) (pe_op op_fdiv (pe_op op_add (pv 1) (pe_op op_fdivW (pv 0) (pv 1))) pe_int))
      (pss_cons (ps_while PassesOwn.never (pt_cmpR op_lt (pv 2) (pv 1) (nomark _)) (pss_cons (ps_set (i := 1) sc_whole_root.nd rfl (Or.inl rfl) (pv 2))
      (pss_one (ps_set (i := 2) sc_whole_root.nd rfl (Or.inl rfl) (pe_op op_fdiv (pe_op op_add (pv 1) (pe_op op_fdivW (pv 0) (pv 1))) pe_int)))))
      (pss_one (ps_ret (pv 1))))))), ?_⟩
  walk_at "go"
  refine ite2 (fun c => ?_) (fun c => ?_)
  · refine q 0 ?_
    rw [dint c]
    exact ⟨by decide, by decide, by decide⟩
  have hn : 0 < n := by have := dint_not c; omega
  have bl : Builtin.Int.intBits n ≤ 200 := intBits_le (by omega)
  have e0 : (((Builtin.Int.intBits n : Nat) : Int) + 1) / 2 = (((Builtin.Int.intBits n + 1) / 2 : Nat) : Int) := by omega
  have up := begin_up b1 (bits_up b1)
  have pos : (0 : Int) < 2 ^ ((Builtin.Int.intBits n + 1) / 2) := Int.pow_pos (by decide)
  have top : ((2 : Int) ^ ((Builtin.Int.intBits n + 1) / 2)).natAbs < 2 ^ 201 := by
    rw [Int.natAbs_pow]
    exact Nat.pow_lt_pow_right (by decide) (by omega)
  have step : ∀ R : Int, 0 < R → R.natAbs < 2 ^ 201 → CDivW n R := fun R h1 h2 => wide_div h1 h2 (by decide) (by decide)
  have e1 : (1 : Int) * 2 ^ ((((Builtin.Int.intBits n : Nat) : Int) + 1) / 2).toNat = 2 ^ ((Builtin.Int.intBits n + 1) / 2) := by
    rw [e0, Int.one_mul, Int.toNat_natCast]
  rw [← e1] at up pos top
  walk_at "go"
  refine And.intro (step _ pos top) ?_
  walk_at "go"
  refine ⟨fun m σ H' => H' = H ∧ ∃ r : Int, σ = [some (.int n), some (.int r), some (.int ((r + n / r) / 2))] ∧ (0 < r ∧ r.natAbs < 2 ^ 201 ∧ n < (r + 1) * (r + 1)) ∧ m = r.toNat, ⟨_, rfl, _, rfl, ⟨pos, top, up⟩, rfl⟩, ?_⟩
  rintro m σ H' ⟨rfl, r, rfl, ⟨p1, p2, p3⟩, rfl⟩
  have dn := newton_up b1 p1
  have en := newton_end b1 p1
  have c0 : 0 ≤ (r + n / r) / 2 := by
    have := Int.ediv_nonneg b1 (Int.le_of_lt p1)
    omega
  walk_at "go"
  generalize (r + n / r) / 2 = c at dn en c0 ⊢
  have cp : 0 < c := by
    rcases Int.lt_or_le 0 c with z | z
    · exact z
    · have : c = 0 := by omega
      subst this
      omega
  refine ite2 (fun c1 => ?_) (fun c1 => ?_)
  · replace c1 := ddec c1
    refine ⟨fun σ' H2 => H2 = H' ∧ ∃ r' : Int, σ' = [some (.int n), some (.int r'), some (.int ((r' + n / r') / 2))] ∧ (0 < r' ∧ r'.natAbs < 2 ^ 201 ∧ n < (r' + 1) * (r' + 1)) ∧ r' < r, ?_, ?_⟩
    · rintro σ' H2 ⟨rfl, r', rfl, g, l⟩
      exact ⟨_, by omega, rfl, r', rfl, g, rfl⟩
    · walk_at "go"
      refine And.intro (step c cp (by omega)) ?_
      walk_at "go"
      exact c1
  · replace c1 := dnot c1
    walk_at "go"
    exact q r ⟨by omega, en (by omega), p3⟩
end
end Pd
end
section
set_option Elab.async false
set_option linter.all false
set_option maxRecDepth 100000
set_option maxHeartbeats 4000000
namespace Pd
open PySem PySem.Spec PyProof.Rows L2
local macro_rules | `(tactic| walk_at "at") => `(tactic| first
  | assumption
  | exact upd_same
  | (refine (show Same _ _ by assumption) _ _ ?_; walk_at "at")
  | (refine (show But _ _ _ by assumption) _ _ (by assumption) ?_; assumption)
  | (refine Same.new (by assumption) _ _ ?_; walk_at "at")
  | (refine (upd_ne (ne_of (by assumption) (by assumption) (by intro z; cases z))).trans ?_; walk_at "at"))
local macro_rules | `(tactic| walk_at "go") => `(tactic| repeat (first
  | refine ⟨_, rfl, ?_⟩
  | refine ⟨_, _, rfl, rfl, ?_⟩
  | refine ⟨_, _, rfl, ?_⟩
  | refine ⟨_, _, _, rfl, ?_⟩
  | refine And.intro rfl ?_
  | refine And.intro (Or.inl ⟨by decide, by decide⟩) ?_
  | refine And.intro (Or.inr ⟨by decide, by decide⟩) ?_
  | refine And.intro ⟨by decide, by decide⟩ ?_
  | refine And.intro (Or.inl ⟨by omega, by omega⟩) ?_
  | refine And.intro (Or.inr ⟨by omega, by omega⟩) ?_
  | refine And.intro ⟨by omega, by omega⟩ ?_
  | refine And.intro trivial ?_
  | refine And.intro (by omega) ?_
  | refine And.intro (sz (Nat.le_of_ble_eq_true rfl)) ?_
  | refine And.intro (Or.inl ⟨rfl, _, SqL.of (by walk_at "at")⟩) ?_
  | refine ⟨_, _, _, _, rfl, rfl, SqT.of (by walk_at "at"), (by rfl), ?_⟩
  | refine ⟨_, _, _, _, rfl, rfl, SqL.of (by walk_at "at"), (by rfl), ?_⟩
  | refine ⟨_, _, _, _, _, rfl, (by walk_at "at"), (by assumption), (by assumption), Lk.h, ?_⟩
  | refine ⟨_, _, _, rfl, rfl, (by walk_at "at"), ?_⟩
  | refine ⟨_, _, _, rfl, (by walk_at "at"), LkN.h, ?_⟩
  | refine ⟨_, _, _, _, rfl, (by walk_at "at"), (by assumption), (by assumption), (by apply few_lt; decide), ?_⟩
  | refine ⟨_, _, (by walk_at "at"), (by apply few_lt; decide), ?_⟩
  | refine ⟨_, _, rfl, Or.inl (SqL.of (by walk_at "at")), ?_⟩))
/-! ### colours -/
def colV (c : Vd.Col) : List V := [.int (c.r : Int), .int (c.g : Int), .int (c.b : Int), .int (c.a : Int)]
/-- v is a tuple of the colour's parts -/
def ColAt (H : Hp) (v : V) (c : Vd.Col) : Prop := ∃ t, v = .ref t ∧ H t = some (.tup (colV c))
theorem ColAt.mono {H H' : Hp} {v : V} {c : Vd.Col} (e : Same H H') (h : ColAt H v c) : ColAt H' v c := let ⟨t, a, b⟩ := h; ⟨t, a, e _ _ b⟩
section
variable {P : Program} {w : World} {K : PySem.W.Frag} {mg : Str → Option Value} {base : Heap}
/-- hands back a colour, all else stands -/
def RetCol (c : Vd.Col) (H : Hp) (Q : VK) : Prop := ∀ v H', Same H H' → ColAt H' v c → Q v H'
theorem RetCol.new {c : Vd.Col} {H H0 : Hp} {Q : VK} (k : RetCol c H0 Q) (e : Same H0 H) {p : Addr} (hp : H p = none) {xs : List V} (hx : xs = colV c) : Q (.ref p) (upd H p (.tup xs)) :=
  k _ _ (e.trans (Same.new hp)) ⟨p, rfl, by rw [upd_same, hx]⟩
theorem sc_parts_of : FnScope ["number"] ["number"] (defScope s_parts_of) := ⟨rfl, rfl, rfl, by decide +kernel, rfl, by decide +kernel, by decide +kernel⟩
theorem bd_parts_of : BindAll "parts_of" "parts_of" s_parts_of ["number"] := fun _ _ _ _ _ _ us hl => match us, hl with | [_], _ => rfl
theorem ok_parts_of (T : Txt K mg) : Ok P w K mg base CX0 1 (He.fAd K ("parts_of", none)) ["number"] (fun vs H Q _ => ∃ n : Nat, vs = [.int (n : Int)] ∧ n < 4294967296 ∧ RetCol (Vd.colOf n) H Q) := by
  refine mk_ok T.f_parts_of sc_parts_of bd_parts_of (fun _ _ _ _ ⟨_, e, _⟩ => by rw [e]; rfl) fun cdv A outer s H vs Q E hr h => ?_
  obtain ⟨n, rfl, b, q⟩ := h
  refine ⟨_, (pss_one (ps_ret (pe_tup (pa_cons (pe_op op_mod (pv 0) pe_int) (pa_cons (pe_op op_mod (pe_op op_fdiv (pv 0) pe_int) pe_int) (pa_cons (pe_op op_mod (pe_op op_fdiv (pv 0) pe_int) pe_int) (pa_cons (pe_op op_fdiv (pv 0) pe_int) pa_nil))))))), ?_⟩
  walk_at "go"
  refine fun p hp => q.new (Same.refl _) hp ?_
  have e : (n : Int) / 16777216 = ((n / 16777216 % 256 : Nat) : Int) := by omega
  show [V.int _, .int _, .int _, .int ((n : Int) / 16777216)] = _
  rw [e]
  rfl
theorem sc_laid_on : FnScope ["parts", "cover"] ["parts"] (defScope s_laid_on) := ⟨rfl, rfl, rfl, by decide +kernel, rfl, by decide +kernel, by decide +kernel⟩
theorem bd_laid_on : BindAll "laid_on" "laid_on" s_laid_on ["parts"] := fun _ _ _ _ _ _ us hl => match us, hl with | [_], _ => rfl
theorem ok_laid_on (T : Txt K mg) : Ok P w K mg base CX0 2 (He.fAd K ("laid_on", none)) ["parts"] (fun vs H Q _ => ∃ (v : V) (c : Vd.Col), vs = [v] ∧ ColAt H v c ∧ Sml c ∧ RetCol c.laid H Q) := by
  refine mk_ok T.f_laid_on sc_laid_on bd_laid_on (fun _ _ _ _ ⟨_, _, e, _⟩ => by rw [e]; rfl) fun cdv A outer s H vs Q E hr h => ?_
  obtain ⟨v, c, rfl, ⟨t, rfl, ht⟩, ⟨b1, b2, b3, b4⟩, q⟩ := h
  refine ⟨_, (pss_cons (ps_set (i := 1) sc_laid_on.nd rfl (Or.inl rfl) (pe_ix (kx_ixt (K := K) rfl) (pv 0) pe_int (fun _ _ => rfl)))
      (pss_one (ps_ret (pe_tup (pa_cons (c_call (ok_mul (K := K) T) hr (by decide) rfl T.g_mul pass0 (pa_cons (pe_ix (kx_ixt (K := K) rfl) (pv 0) pe_int (fun _ _ => rfl)) (pa_cons (pv 1) pa_nil))) (pa_cons (c_call (ok_mul (K := K) T) hr (by decide) rfl T.g_mul pass0 (pa_cons (pe_ix (kx_ixt (K := K) rfl) (pv 0) pe_int (fun _ _ => rfl)) (pa_cons (pv 1) pa_nil))) (pa_cons (c_call (ok_mul (K := K) T) hr (by decide) rfl T.g_mul pass0 (pa_cons (pe_ix (kx_ixt (K := K) rfl) (pv 0) pe_int (fun _ _ => rfl)) (pa_cons (pv 1) pa_nil))) (pa_cons (pv 1) pa_nil)))))))), ?_⟩
  walk_at "go"
  exact fun p hp => q.new (Same.refl _) hp rfl
theorem sc_nothing : FnScope [] [] (defScope s_nothing) := ⟨rfl, rfl, rfl, by decide +kernel, rfl, by decide +kernel, by decide +kernel⟩
theorem bd_nothing : BindAll "nothing" "nothing" s_nothing [] := fun _ _ _ _ _ _ us hl => match us, hl with | [], _ => rfl
theorem ok_nothing (T : Txt K mg) : Ok P w K mg base CX0 1 (He.fAd K ("nothing", none)) [] (fun vs H Q _ => vs = [] ∧ RetCol Vd.nothing H Q) := by
  refine mk_ok T.f_nothing sc_nothing bd_nothing (fun _ _ _ _ ⟨e, _⟩ => by rw [e]; rfl) fun cdv A outer s H vs Q E hr h => ?_
  obtain ⟨rfl, q⟩ := h
  refine ⟨_, (pss_one (ps_ret (pe_tup (pa_cons pe_int (pa_cons pe_int (pa_cons pe_int (pa_cons pe_int pa_nil))))))), ?_⟩
  refine ⟨sz (by show 4 ≤ _; decide), fun p hp => q.new (Same.refl _) hp rfl⟩
theorem sc_mixed : FnScope ["source", "ground", "how", "s", "d", "cover", "parts", "over", "under", "both"] ["source", "ground", "how"] (defScope s_mixed) := ⟨rfl, rfl, rfl, by decide +kernel, rfl, by decide +kernel, by decide +kernel⟩
theorem bd_mixed : BindAll "mixed" "mixed" s_mixed ["source", "ground", "how"] := fun _ _ _ _ _ _ us hl => match us, hl with | [_, _, _], _ => rfl
theorem ok_mixed (T : Txt K mg) : Ok P w K mg base CX0 4 (He.fAd K ("mixed", none)) ["source", "ground", "how"] (fun vs H Q _ => ∃ (x y : V) (k : Nat) (S D : Vd.Col), vs = [x, y, .int (k : Int)] ∧ ColAt H x S ∧ ColAt H y D ∧ Pre S ∧ Pre D ∧ RetCol (Vd.mix k S D) H Q) := by
  refine mk_ok T.f_mixed sc_mixed bd_mixed (fun _ _ _ _ ⟨_, _, _, _, _, e, _⟩ => by rw [e]; rfl) fun cdv A outer s H vs Q E hr h => ?_
  obtain ⟨x, y, k, S, D, rfl, ⟨tx, rfl, hx⟩, ⟨ty, rfl, hy⟩, ⟨a1, a2, a3, a4⟩, ⟨b1, b2, b3, b4⟩, q⟩ := h
  refine ⟨_, (pss_cons (ps_set (i := 3) sc_mixed.nd rfl (Or.inl rfl) (pe_ix (kx_ixt (K := K) rfl) (pv 0) pe_int (fun _ _ => rfl)))
      (pss_cons (ps_set (i := 4) sc_mixed.nd rfl (Or.inl rfl) (pe_ix (kx_ixt (K := K) rfl) (pv 1) pe_int (fun _ _ => rfl)))
      (pss_cons (ps_set (i := 5) sc_mixed.nd rfl (Or.inl rfl) (pe_op op_sub (pe_op op_add (pv 3) (pv 4)) (c_call (ok_mul (K := K) T) hr (by decide) rfl T.g_mul pass0 (pa_cons (pv 4) (pa_cons (pv 3) pa_nil)))))
      (pss_cons (ps_set (i := 6) sc_mixed.nd rfl (Or.inl rfl) (pe_lst pa_nil))
      (pss_cons (ps_for PassesOwn.never rfl (kx_zipA (K := K) rfl (by rfl) T.z_zip (pa_cons (pe_slice (kx_slt (K := K) rfl) (pv 0) po_none (po_some pe_int)) (pa_cons (pe_slice (kx_slt (K := K) rfl) (pv 1) po_none (po_some pe_int)) pa_nil))) (kx_tup (K := K) (n := 2) rfl rfl (pgs_cons (pg_name (i := 7) sc_mixed.nd rfl (Or.inl rfl)) (pgs_cons (pg_name (i := 8) sc_mixed.nd rfl (Or.inl rfl)) pgs_nil))) (pss_one (ps_if (pt_cmpR op_eq (pv 2) pe_int (nomark _)) (pss_one (ps_expr (kx_bm (K := K) rfl PySem.F.plainAttrs_list PySem.F.slot_list_append PySem.F.type_list_append mt_append (pv 6) (pa_cons (pe_op op_sub (pe_op op_add (pv 7) (pv 8)) (c_call (ok_mul (K := K) T) hr (by decide) rfl T.g_mul pass0 (pa_cons (pv 8) (pa_cons (pv 3) pa_nil)))) pa_nil)))) (pss_cons (ps_set (i := 9) sc_mixed.nd rfl (Or.inl rfl) (c_call (ok_mul (K := K) T) hr (by decide) rfl T.g_mul pass0 (pa_cons (c_call (ok_mul (K := K) T) hr (by decide) rfl T.g_mul pass0 (pa_cons (pv 3) (pa_cons (pv 4) pa_nil))) (pa_cons (c_call (ok_blended (K := K) T) hr (by decide) rfl T.g_blended pass0 (pa_cons (pv 2) (pa_cons (c_call (ok_alone (K := K) T) hr (by decide) rfl T.g_alone pass0 (pa_cons (pv 8) (pa_cons (pv 4) pa_nil))) (pa_cons (c_call (ok_alone (K := K) T) hr (by decide) rfl T.g_alone pass0 (pa_cons (pv 7) (pa_cons (pv 3) pa_nil))) pa_nil)))) pa_nil))))
      (pss_one (ps_expr (kx_bm (K := K) rfl PySem.F.plainAttrs_list PySem.F.slot_list_append PySem.F.type_list_append mt_append (pv 6) (pa_cons (pe_callB (call_min2 rfl) (by rfl) T.z_min (by decide +kernel) (pa_cons (pv 5) (pa_cons (pe_op op_add (pe_op op_add (c_call (ok_mul (K := K) T) hr (by decide) rfl T.g_mul pass0 (pa_cons (pv 7) (pa_cons (pe_op op_sub pe_int (pv 4)) pa_nil))) (c_call (ok_mul (K := K) T) hr (by decide) rfl T.g_mul pass0 (pa_cons (pv 8) (pa_cons (pe_op op_sub pe_int (pv 3)) pa_nil)))) (pv 9)) pa_nil))) pa_nil))))))))
      (pss_one (ps_ret (pe_tup (pa_cons (pe_ix (kx_ixl (K := K) rfl) (pv 6) pe_int (fun _ _ => rfl)) (pa_cons (pe_ix (kx_ixl (K := K) rfl) (pv 6) pe_int (fun _ _ => rfl)) (pa_cons (pe_ix (kx_ixl (K := K) rfl) (pv 6) pe_int (fun _ _ => rfl)) (pa_cons (pv 5) pa_nil)))))))))))), ?_⟩
  walk_at "go"
  intro p hp
  have s1 : Same H (upd H p (.lst [])) := Same.new hp
  have hp1 : (upd H p (.lst [])) p = some (.lst []) := upd_same
  generalize upd H p (.lst []) = H1 at s1 hp1
  refine ⟨_, rfl, _, rfl, _, _, rfl, SqT.of (s1 _ _ hx), by show ¬ (_ ∧ 3 = 4); omega, fun a ha => ?_⟩
  have s2 : Same H1 (upd H1 a (.tup (cutV (colV S) none (some 3)))) := Same.new ha
  have ha2 : (upd H1 a (.tup (cutV (colV S) none (some 3)))) a = some (.tup [.int (S.r : Int), .int (S.g : Int), .int (S.b : Int)]) := upd_same
  generalize upd H1 a (.tup (cutV (colV S) none (some 3))) = H2 at s2 ha2
  refine ⟨_, rfl, _, rfl, _, _, rfl, SqT.of (s2 _ _ (s1 _ _ hy)), by show ¬ (_ ∧ 3 = 4); omega, fun b hb => ?_⟩
  have s3 : Same H2 (upd H2 b (.tup (cutV (colV D) none (some 3)))) := Same.new hb
  have hb3 : (upd H2 b (.tup (cutV (colV D) none (some 3)))) b = some (.tup [.int (D.r : Int), .int (D.g : Int), .int (D.b : Int)]) := upd_same
  generalize upd H2 b (.tup (cutV (colV D) none (some 3))) = H3 at s3 hb3
  have ha3 := s3 _ _ ha2
  have hp3 := s3 _ _ (s2 _ _ hp1)
  have s0 : Same H H3 := s1.trans (s2.trans s3)
  refine ⟨a, b, _, _, rfl, .inr ⟨SqT.of ha3, SqT.of hb3, ?_⟩⟩
  have cov : (S.a : Int) + D.a - mulI D.a S.a = (Vd.coverOf S.a D.a : Nat) := coverI_nat a4
  refine RZ.for_zipT (xs := [.int (S.r : Int), .int (S.g : Int), .int (S.b : Int)]) (ys := [.int (D.r : Int), .int (D.g : Int), .int (D.b : Int)]) rfl
    (fun i σ H' => But p H3 H' ∧ H' p = some (.lst ([V.int (Vd.mixPart k S.r D.r S.a D.a : Nat), V.int (Vd.mixPart k S.g D.g S.a D.a : Nat), V.int (Vd.mixPart k S.b D.b S.a D.a : Nat)].take i)) ∧
      ∃ o u bo, σ = [some (.ref tx), some (.ref ty), some (.int (k : Int)), some (.int (S.a : Int)), some (.int (D.a : Int)), some (.int ((S.a : Int) + D.a - mulI D.a S.a)), some (.ref p), o, u, bo])
    ⟨But.refl _ _, hp3, none, none, none, rfl⟩ ?_ ?_ ?_
  · rintro i σ H' ⟨bt, hp', _⟩
    have n1 : a ≠ p := ne_of ha3 hp3 (by intro z; cases z)
    have n2 : b ≠ p := ne_of hb3 hp3 (by intro z; cases z)
    exact ⟨SqT.of (bt _ _ n1 ha3), SqT.of (bt _ _ n2 hb3)⟩
  · rintro i x y t σ H' hxi hyi ⟨bt, hp', o, u, bo, rfl⟩ ht
    obtain ⟨X, Y, Z, rfl, rfl, hX, hY, hZ, hi⟩ : ∃ X Y Z : Nat, x = .int (X : Int) ∧ y = .int (Y : Int) ∧ X ≤ S.a ∧ Y ≤ D.a ∧ Z = Vd.mixPart k X Y S.a D.a ∧
        [V.int (Vd.mixPart k S.r D.r S.a D.a : Nat), V.int (Vd.mixPart k S.g D.g S.a D.a : Nat), V.int (Vd.mixPart k S.b D.b S.a D.a : Nat)].take (i + 1) = [V.int (Vd.mixPart k S.r D.r S.a D.a : Nat), V.int (Vd.mixPart k S.g D.g S.a D.a : Nat), V.int (Vd.mixPart k S.b D.b S.a D.a : Nat)].take i ++ [V.int (Z : Int)] := by
      match i, hxi, hyi with
      | 0, hxi, hyi => exact ⟨S.r, D.r, _, (by simpa using hxi.symm), (by simpa using hyi.symm), a1, b1, rfl, rfl⟩
      | 1, hxi, hyi => exact ⟨S.g, D.g, _, (by simpa using hxi.symm), (by simpa using hyi.symm), a2, b2, rfl, rfl⟩
      | 2, hxi, hyi => exact ⟨S.b, D.b, _, (by simpa using hxi.symm), (by simpa using hyi.symm), a3, b3, rfl, rfl⟩
      | i + 3, hxi, hyi => simp at hxi
    have ev := mixI_nat (k := k) (S := X) (D := Y) a4 b4
    have hZ' : mixI k X Y S.a D.a = (Z : Int) := by rw [ev, hZ]
    unfold mixI at hZ'
    have len3 : ([V.int (Vd.mixPart k S.r D.r S.a D.a : Nat), V.int (Vd.mixPart k S.g D.g S.a D.a : Nat), V.int (Vd.mixPart k S.b D.b S.a D.a : Nat)].take i).length < sizeLine := szl (by rw [List.length_take]; exact Nat.lt_of_le_of_lt (Nat.min_le_right _ _) (Nat.le_of_ble_eq_true rfl))
    have ntp : p ≠ t := ne_of_none hp' ht
    have bt2 : But p H3 (upd H' t (.tup [.int (X : Int), .int (Y : Int)])) := bt.trans (But.of (Same.new ht))
    have hp2 : (upd H' t (.tup [.int (X : Int), .int (Y : Int)])) p = _ := (upd_ne ntp).trans hp'
    refine ⟨t, _, rfl, SqT.of upd_same, rfl, _, _, rfl, _, _, rfl, rfl, ?_⟩
    generalize upd H' t (.tup [.int (X : Int), .int (Y : Int)]) = H4 at bt2 hp2
    have fin : ∀ (Hx : Hp) (o' u' b' : Option V) (z : Int), Hx = H4 → z = (Z : Int) → But p H3 (upd Hx p (.lst ([V.int (Vd.mixPart k S.r D.r S.a D.a : Nat), V.int (Vd.mixPart k S.g D.g S.a D.a : Nat), V.int (Vd.mixPart k S.b D.b S.a D.a : Nat)].take i ++ [V.int z]))) ∧
        (upd Hx p (.lst ([V.int (Vd.mixPart k S.r D.r S.a D.a : Nat), V.int (Vd.mixPart k S.g D.g S.a D.a : Nat), V.int (Vd.mixPart k S.b D.b S.a D.a : Nat)].take i ++ [V.int z]))) p = some (.lst ([V.int (Vd.mixPart k S.r D.r S.a D.a : Nat), V.int (Vd.mixPart k S.g D.g S.a D.a : Nat), V.int (Vd.mixPart k S.b D.b S.a D.a : Nat)].take (i + 1))) := by
      rintro Hx o' u' b' z rfl rfl
      exact ⟨bt2.trans But.at_, by rw [upd_same, hi]⟩
    walk_at "go"
    refine ite2 (fun c => ?_) (fun c => ?_)
    · rw [if_pos (dint c)] at hZ'
      walk_at "go"
      obtain ⟨f1, f2⟩ := fin H4 none none none _ rfl hZ'
      exact ⟨f1, f2, _, _, _, rfl⟩
    · rw [if_neg (dint_not c)] at hZ'
      have g1 : 0 ≤ aloneI Y D.a ∧ aloneI Y D.a ≤ 255 := by have := alone_le Y D.a; rw [aloneI_nat]; omega
      have g2 : 0 ≤ aloneI X S.a ∧ aloneI X S.a ≤ 255 := by have := alone_le X S.a; rw [aloneI_nat]; omega
      have g3 : 0 ≤ mulI S.a D.a ∧ mulI S.a D.a ≤ 255 := by have := mul_le_left (x := S.a) b4; rw [mulI_nat]; omega
      walk_at "go"
      have e2 : ∀ a b : Int, (if b < a then b else a) = min a b := fun a b => by split <;> omega
      rw [← e2] at hZ'
      obtain ⟨f1, f2⟩ := fin H4 none none none _ rfl hZ'
      exact ⟨f1, f2, _, _, _, rfl⟩
  · rintro σ H' ⟨bt, hp', o, u, bo, rfl⟩
    have s5 : Same H H' := fun x z hz => bt _ _ (ne_of_none hz hp) (s0 _ _ hz)
    walk_at "go"
    exact fun t ht => q.new s5 ht (by rw [cov]; rfl)
end
end Pd
end
section
set_option Elab.async false
set_option linter.all false
set_option maxRecDepth 100000
set_option maxHeartbeats 4000000
namespace Pd
open PySem PySem.Spec PyProof.Rows L2
local macro_rules | `(tactic| walk_at "at") => `(tactic| first
  | assumption
  | exact upd_same
  | (refine (show Same _ _ by assumption) _ _ ?_; walk_at "at")
  | (refine (show But _ _ _ by assumption) _ _ (by assumption) ?_; assumption)
  | (refine Same.new (by assumption) _ _ ?_; walk_at "at")
  | (refine (upd_ne (ne_of (by assumption) (by assumption) (by intro z; cases z))).trans ?_; walk_at "at"))
local macro_rules | `(tactic| walk_at "go") => `(tactic| repeat (first
  | refine ⟨_, rfl, ?_⟩
  | refine ⟨_, _, rfl, rfl, ?_⟩
  | refine ⟨_, _, rfl, ?_⟩
  | refine ⟨_, _, _, rfl, ?_⟩
  | refine And.intro rfl ?_
  | refine And.intro (Or.inl ⟨by decide, by decide⟩) ?_
  | refine And.intro (Or.inr ⟨by decide, by decide⟩) ?_
  | refine And.intro ⟨by decide, by decide⟩ ?_
  | refine And.intro (Or.inl ⟨by omega, by omega⟩) ?_
  | refine And.intro (Or.inr ⟨by omega, by omega⟩) ?_
  | refine And.intro ⟨by omega, by omega⟩ ?_
  | refine And.intro trivial ?_
  | refine And.intro (by omega) ?_
  | refine And.intro (sz (Nat.le_of_ble_eq_true rfl)) ?_
  | refine And.intro (Or.inl ⟨rfl, _, SqL.of (by walk_at "at")⟩) ?_
  | refine ⟨_, _, _, _, rfl, rfl, SqT.of (by walk_at "at"), (by rfl), ?_⟩
  | refine ⟨_, _, _, _, rfl, rfl, SqL.of (by walk_at "at"), (by rfl), ?_⟩
  | refine ⟨_, _, _, _, _, rfl, (by walk_at "at"), (by assumption), (by assumption), Lk.h, ?_⟩
  | refine ⟨_, _, _, rfl, rfl, (by walk_at "at"), ?_⟩
  | refine ⟨_, _, _, rfl, (by walk_at "at"), LkN.h, ?_⟩
  | refine ⟨_, _, _, _, rfl, (by walk_at "at"), (by assumption), (by assumption), (by apply few_lt; decide), ?_⟩
  | refine ⟨_, _, (by walk_at "at"), (by apply few_lt; decide), ?_⟩
  | refine ⟨_, _, rfl, Or.inl (SqL.of (by walk_at "at")), ?_⟩))
theorem But.seq {K : PySem.W.Frag} {H H' : Hp} {g a : Addr} {xs : List V} {C dx : Addr} {fs : List (Str × V)} (b : But g H H') (hg : H g = some (.ins C dx fs)) (h : SqL K H a xs) : SqL K H' a xs := by
  rcases h with (h | ⟨o, h⟩) | h
  · exact .inl (.inl (b _ _ (ne_of h hg (by intro z; cases z)) h))
  · exact .inl (.inr ⟨o, b _ _ (ne_of h hg (by intro z; cases z)) h⟩)
  · exact .inr h
/-- the numbers ns at L, so many of them taken -/
def ArgsAt (K : PySem.W.Frag) (H : Hp) (g L : Addr) (ns : List Int) (i : Nat) : Prop := (∃ dx, H g = some (.ins (He.ga K "Arguments") dx (fl_Arguments (.ref L) (.int (i : Int))))) ∧ SqL K H L (ns.map V.int)
theorem ArgsAt.mono {K : PySem.W.Frag} {H H' : Hp} {g L : Addr} {ns : List Int} {i : Nat} (s : Same H H') (h : ArgsAt K H g L ns i) : ArgsAt K H' g L ns i := let ⟨⟨dx, a⟩, b⟩ := h; ⟨⟨dx, s _ _ a⟩, s.seq b⟩
section
variable {P : Program} {w : World} {K : PySem.W.Frag} {mg : Str → Option Value} {base : Heap}
theorem sc_Arguments_init : FnScope ["self", "numbers"] ["self", "numbers"] (defScope s_Arguments_init) := ⟨rfl, rfl, rfl, by decide +kernel, rfl, by decide +kernel, by decide +kernel⟩
theorem bd_Arguments_init : BindAll "__init__" "Arguments.__init__" s_Arguments_init ["self", "numbers"] := fun _ _ _ _ _ _ us hl => match us, hl with | [_, _], _ => rfl
theorem ok_Arguments_init (T : Txt K mg) : Ok P w K mg base CX0 1 (He.fAd K ("Arguments", some "__init__")) ["self", "numbers"] (fun vs H Q _ => ∃ (p dx : Addr) (v : V), vs = [.ref p, v] ∧ H p = some (.ins (He.ga K "Arguments") dx []) ∧
    ∀ H', But p H H' → (∃ dx, H' p = some (.ins (He.ga K "Arguments") dx (fl_Arguments v (.int 0)))) → Q .non H') := by
  refine mk_ok T.f_Arguments_init sc_Arguments_init bd_Arguments_init (fun _ _ _ _ ⟨_, _, _, e, _⟩ => by rw [e]; rfl) fun cdv A outer s H vs Q E hr h => ?_
  obtain ⟨p, dx, v, rfl, hp, q⟩ := h
  have fc_Arguments := T.c_Arguments
  have fn_Arguments_numbers := T.n_Arguments_numbers
  have fn_Arguments_taken := T.n_Arguments_taken
  refine ⟨_, (pss_cons (kx_sfld (K := K) rfl (pv 0) (pv 1) rfl)
      (pss_one (kx_sfld (K := K) rfl (pv 0) pe_int rfl))), ?_⟩
  walk_at "go"
  refine q _ (But.trans But.at_ But.at_) ⟨dx, ?_⟩
  rw [upd_same, new_Arguments]
theorem sc_Arguments_are_left : FnScope ["self"] ["self"] (defScope s_Arguments_are_left) := ⟨rfl, rfl, rfl, by decide +kernel, rfl, by decide +kernel, by decide +kernel⟩
theorem bd_Arguments_are_left : BindAll "are_left" "Arguments.are_left" s_Arguments_are_left ["self"] := fun _ _ _ _ _ _ us hl => match us, hl with | [_], _ => rfl
theorem ok_Arguments_are_left (T : Txt K mg) : Ok P w K mg base CX0 1 (He.fAd K ("Arguments", some "are_left")) ["self"] (fun vs H Q _ => ∃ (g L : Addr) (ns : List Int) (i : Nat), vs = [.ref g] ∧ ArgsAt K H g L ns i ∧ Q (.bl (decide (i < ns.length))) H) := by
  refine mk_ok T.f_Arguments_are_left sc_Arguments_are_left bd_Arguments_are_left (fun _ _ _ _ ⟨_, _, _, _, e, _⟩ => by rw [e]; rfl) fun cdv A outer s H vs Q E hr h => ?_
  obtain ⟨g, L, ns, i, rfl, ⟨⟨dx, hg⟩, hL⟩, q⟩ := h
  have fc_Arguments := T.c_Arguments
  have fn_Arguments_numbers := T.n_Arguments_numbers
  have fn_Arguments_taken := T.n_Arguments_taken
  refine ⟨_, (pss_one (ps_ret (pe_cmpR op_lt (kx_fld (K := K) rfl (pv 0) rfl) (pe_callB (kx_len (K := K) rfl) (by rfl) T.z_len PySem.boot_len (pa_cons (kx_fld (K := K) rfl (pv 0) rfl) pa_nil)) (nomark _)))), ?_⟩
  walk_at "go"
  refine ⟨_, _, rfl, .inl hL, ?_⟩
  walk_at "go"
  exact q_of (congrArg V.bl (by simp)) q
theorem sc_Arguments_take : FnScope ["self", "number"] ["self"] (defScope s_Arguments_take) := ⟨rfl, rfl, rfl, by decide +kernel, rfl, by decide +kernel, by decide +kernel⟩
theorem bd_Arguments_take : BindAll "take" "Arguments.take" s_Arguments_take ["self"] := fun _ _ _ _ _ _ us hl => match us, hl with | [_], _ => rfl
theorem ok_Arguments_take (T : Txt K mg) : Ok P w K mg base CX0 1 (He.fAd K ("Arguments", some "take")) ["self"] (fun vs H Q _ => ∃ (g L : Addr) (ns : List Int) (i : Nat) (n : Int), vs = [.ref g] ∧ ArgsAt K H g L ns i ∧ ns[i]? = some n ∧
    ∀ H', But g H H' → ArgsAt K H' g L ns (i + 1) → Q (.int n) H') := by
  refine mk_ok T.f_Arguments_take sc_Arguments_take bd_Arguments_take (fun _ _ _ _ ⟨_, _, _, _, _, e, _⟩ => by rw [e]; rfl) fun cdv A outer s H vs Q E hr h => ?_
  obtain ⟨g, L, ns, i, n, rfl, ⟨⟨dx, hg⟩, hL⟩, hn, q⟩ := h
  have fc_Arguments := T.c_Arguments
  have fn_Arguments_numbers := T.n_Arguments_numbers
  have fn_Arguments_taken := T.n_Arguments_taken
  refine ⟨_, (pss_cons (ps_set (i := 1) sc_Arguments_take.nd rfl (Or.inl rfl) (pe_ix (kx_ixl (K := K) rfl) (kx_fld (K := K) rfl (pv 0) rfl) (kx_fld (K := K) rfl (pv 0) rfl) (fun _ _ => rfl)))
      (pss_cons (kx_aug (K := K) rfl (pv 0) pe_int in_add)
      (pss_one (ps_ret (pv 1))))), ?_⟩
  walk_at "go"
  refine ⟨_, _, _, _, rfl, rfl, hL, atI_nat (by rw [List.getElem?_map, hn] <;> rfl), ?_⟩
  walk_at "go"
  rw [pt_Arguments_taken]
  exact q _ But.at_ ⟨⟨dx, upd_same⟩, But.seq But.at_ hg hL⟩
theorem sc_Arguments_take_list : FnScope ["self", "length", "begin"] ["self"] (defScope s_Arguments_take_list) := ⟨rfl, rfl, rfl, by decide +kernel, rfl, by decide +kernel, by decide +kernel⟩
theorem bd_Arguments_take_list : BindAll "take_list" "Arguments.take_list" s_Arguments_take_list ["self"] := fun _ _ _ _ _ _ us hl => match us, hl with | [_], _ => rfl
theorem ok_Arguments_take_list (T : Txt K mg) : Ok P w K mg base CX0 2 (He.fAd K ("Arguments", some "take_list")) ["self"] (fun vs H Q _ => ∃ (g L : Addr) (ns : List Int) (i n : Nat), vs = [.ref g] ∧ ArgsAt K H g L ns i ∧ ns[i]? = some (n : Int) ∧ i + 1 + n ≤ ns.length ∧
    ∀ H' p, But g H H' → ArgsAt K H' g L ns (i + 1 + n) → H p = none → H' p = some (.lst (((ns.drop (i + 1)).take n).map V.int)) → Q (.ref p) H') := by
  refine mk_ok T.f_Arguments_take_list sc_Arguments_take_list bd_Arguments_take_list (fun _ _ _ _ ⟨_, _, _, _, _, e, _⟩ => by rw [e]; rfl) fun cdv A outer s H vs Q E hr h => ?_
  obtain ⟨g, L, ns, i, n, rfl, ⟨⟨dx, hg⟩, hL⟩, hn, hle, q⟩ := h
  have fc_Arguments := T.c_Arguments
  have fn_Arguments_numbers := T.n_Arguments_numbers
  have fn_Arguments_taken := T.n_Arguments_taken
  refine ⟨_, (pss_cons (ps_set (i := 1) sc_Arguments_take_list.nd rfl (Or.inl rfl) (c_meth0 (ok_Arguments_take (K := K) T) hr (by decide) T.c_Arguments T.m_Arguments_take pass0 (pv 0)))
      (pss_cons (ps_set (i := 2) sc_Arguments_take_list.nd rfl (Or.inl rfl) (kx_fld (K := K) rfl (pv 0) rfl))
      (pss_cons (kx_aug (K := K) rfl (pv 0) (pv 1) in_add)
      (pss_one (ps_ret (pe_slice (kx_sll (K := K) rfl) (kx_fld (K := K) rfl (pv 0) rfl) (po_some (pv 2)) (po_some (pe_op op_add (pv 2) (pv 1))))))))), ?_⟩
  walk_at "go"
  refine ⟨g, L, ns, i, n, rfl, ⟨⟨dx, hg⟩, hL⟩, hn, fun H1 b1 a1 => ?_⟩
  obtain ⟨⟨dx1, hg1⟩, hL1⟩ := a1
  walk_at "go"
  rw [pt_Arguments_taken]
  have b2 : But g H (upd H1 g (.ins (He.ga K "Arguments") dx1 (fl_Arguments (.ref L) (.int (((i + 1 : Nat) : Int) + n))))) := b1.trans But.at_
  have hL2 := But.seq (H' := upd H1 g (.ins (He.ga K "Arguments") dx1 (fl_Arguments (.ref L) (.int (((i + 1 : Nat) : Int) + n))))) But.at_ hg1 hL1
  have hg2 : (upd H1 g (.ins (He.ga K "Arguments") dx1 (fl_Arguments (.ref L) (.int (((i + 1 : Nat) : Int) + n))))) g = _ := upd_same
  generalize upd H1 g (.ins (He.ga K "Arguments") dx1 (fl_Arguments (.ref L) (.int (((i + 1 : Nat) : Int) + n)))) = H2 at b2 hL2 hg2
  walk_at "go"
  refine ⟨_, _, rfl, hL2, fun p hp => ?_⟩
  have pg : g ≠ p := ne_of_none hg2 hp
  have e : cutV (ns.map V.int) (some ((i + 1 : Nat) : Int)) (some (((i + 1 : Nat) : Int) + n)) = ((ns.drop (i + 1)).take n).map V.int := by
    have e1 : (((i + 1 : Nat) : Int) + n) = ((i + 1 + n : Nat) : Int) := by omega
    unfold cutV
    rw [e1, HT.sIx_nat, HT.sIx_nat, List.length_map, Nat.min_eq_left (show i + 1 ≤ ns.length by omega), Nat.min_eq_left hle, show i + 1 + n - (i + 1) = n by omega, List.map_take, List.map_drop]
  have hpH : H p = none := by
    cases z : H p with
    | none => rfl
    | some o =>
      rw [b2 p o (Ne.symm pg) z] at hp
      cases hp
  refine q _ p (b2.trans (But.of (Same.new hp))) ⟨⟨dx1, ?_⟩, (Same.new hp).seq hL2⟩ hpH ?_
  · rw [upd_ne pg, hg2]
    rfl
  · rw [upd_same, e]
theorem sc_Arguments_take_place : FnScope ["self", "x", "y"] ["self"] (defScope s_Arguments_take_place) := ⟨rfl, rfl, rfl, by decide +kernel, rfl, by decide +kernel, by decide +kernel⟩
theorem bd_Arguments_take_place : BindAll "take_place" "Arguments.take_place" s_Arguments_take_place ["self"] := fun _ _ _ _ _ _ us hl => match us, hl with | [_], _ => rfl
theorem ok_Arguments_take_place (T : Txt K mg) : Ok P w K mg base CX0 2 (He.fAd K ("Arguments", some "take_place")) ["self"] (fun vs H Q _ => ∃ (g L : Addr) (ns : List Int) (i : Nat) (x y : Int), vs = [.ref g] ∧ ArgsAt K H g L ns i ∧ ns[i]? = some x ∧ ns[i + 1]? = some y ∧
    ∀ H' v, But g H H' → ArgsAt K H' g L ns (i + 2) → TupI H' v [x, y] → Q v H') := by
  refine mk_ok T.f_Arguments_take_place sc_Arguments_take_place bd_Arguments_take_place (fun _ _ _ _ ⟨_, _, _, _, _, _, e, _⟩ => by rw [e]; rfl) fun cdv A outer s H vs Q E hr h => ?_
  obtain ⟨g, L, ns, i, x, y, rfl, ⟨⟨dx, hg⟩, hL⟩, hx, hy, q⟩ := h
  refine ⟨_, (pss_cons (ps_set (i := 1) sc_Arguments_take_place.nd rfl (Or.inl rfl) (c_meth0 (ok_Arguments_take (K := K) T) hr (by decide) T.c_Arguments T.m_Arguments_take pass0 (pv 0)))
      (pss_cons (ps_set (i := 2) sc_Arguments_take_place.nd rfl (Or.inl rfl) (c_meth0 (ok_Arguments_take (K := K) T) hr (by decide) T.c_Arguments T.m_Arguments_take pass0 (pv 0)))
      (pss_one (ps_ret (pe_tup (pa_cons (pv 1) (pa_cons (pv 2) pa_nil))))))), ?_⟩
  walk_at "go"
  refine ⟨g, L, ns, i, x, rfl, ⟨⟨dx, hg⟩, hL⟩, hx, fun H1 b1 a1 => ?_⟩
  obtain ⟨⟨dx1, hg1⟩, hL1⟩ := a1
  walk_at "go"
  refine ⟨g, L, ns, i + 1, y, rfl, ⟨⟨dx1, hg1⟩, hL1⟩, hy, fun H2 b2 a2 => ?_⟩
  walk_at "go"
  exact fun p hp => q _ _ ((b1.trans b2).trans (But.of (Same.new hp))) (a2.mono (Same.new hp)) ⟨p, rfl, upd_same⟩
def pairs2 : List Int → List (List Int)
  | a :: b :: r => [a, b] :: pairs2 r
  | _ => []
def trips3 : List Int → List (List Int)
  | a :: b :: c :: r => [a, b, c] :: trips3 r
  | _ => []
theorem pairs2_len : ∀ l : List Int, (pairs2 l).length = l.length / 2
  | [] => rfl
  | [_] => by simp [pairs2]
  | _ :: _ :: r => by
    show (pairs2 r).length + 1 = (r.length + 2) / 2
    rw [pairs2_len r]
    omega
theorem pairs2_at : ∀ (l : List Int) (k : Nat) (a b : Int), l[2 * k]? = some a → l[2 * k + 1]? = some b → (pairs2 l)[k]? = some [a, b]
  | [], k, a, b, h, _ => by simp at h
  | [x], k, a, b, _, h => by simp at h
  | x :: y :: r, 0, a, b, h1, h2 => by
    obtain rfl : x = a := by simpa using h1
    obtain rfl : y = b := by simpa using h2
    rfl
  | x :: y :: r, k + 1, a, b, h1, h2 => pairs2_at r k a b (by simpa [Nat.mul_add] using h1) (by simpa [Nat.mul_add] using h2)
theorem trips3_len : ∀ l : List Int, (trips3 l).length = l.length / 3
  | [] => rfl
  | [_] => by simp [trips3]
  | [_, _] => by simp [trips3]
  | _ :: _ :: _ :: r => by
    show (trips3 r).length + 1 = (r.length + 3) / 3
    rw [trips3_len r]
    omega
theorem trips3_at : ∀ (l : List Int) (k : Nat) (a b c : Int), l[3 * k]? = some a → l[3 * k + 1]? = some b → l[3 * k + 2]? = some c → (trips3 l)[k]? = some [a, b, c]
  | [], k, a, b, c, h, _, _ => by simp at h
  | [x], k, a, b, c, _, h, _ => by simp at h
  | [x, y], k, a, b, c, _, _, h => by simp at h
  | x :: y :: z :: r, 0, a, b, c, h1, h2, h3 => by
    obtain rfl : x = a := by simpa using h1
    obtain rfl : y = b := by simpa using h2
    obtain rfl : z = c := by simpa using h3
    rfl
  | x :: y :: z :: r, k + 1, a, b, c, h1, h2, h3 => trips3_at r k a b c (by simpa [Nat.mul_add] using h1) (by simpa [Nat.mul_add] using h2) (by simpa [Nat.mul_add] using h3)
theorem sc_Arguments_take_stops : FnScope ["self", "numbers", "k"] ["self"] (defScope s_Arguments_take_stops) := ⟨rfl, rfl, rfl, by decide +kernel, rfl, by decide +kernel, by decide +kernel⟩
theorem bd_Arguments_take_stops : BindAll "take_stops" "Arguments.take_stops" s_Arguments_take_stops ["self"] := fun _ _ _ _ _ _ us hl => match us, hl with | [_], _ => rfl
theorem ok_Arguments_take_stops (T : Txt K mg) : Ok P w K mg base CX0 3 (He.fAd K ("Arguments", some "take_stops")) ["self"] (fun vs H Q _ => ∃ (g L : Addr) (ns : List Int) (i n : Nat), vs = [.ref g] ∧ ArgsAt K H g L ns i ∧ ns[i]? = some (n : Int) ∧ i + 1 + n ≤ ns.length ∧ ns.length ≤ 30000 ∧
    ∀ H' p, But g H H' → ArgsAt K H' g L ns (i + 1 + n) → ListOf TupI H' p (pairs2 ((ns.drop (i + 1)).take n)) → Q (.ref p) H') := by
  refine mk_ok T.f_Arguments_take_stops sc_Arguments_take_stops bd_Arguments_take_stops (fun _ _ _ _ ⟨_, _, _, _, _, e, _⟩ => by rw [e]; rfl) fun cdv A outer s H vs Q E hr h => ?_
  obtain ⟨g, L, ns, i, n, rfl, ⟨⟨dx, hg⟩, hL⟩, hn, hle, hz, q⟩ := h
  refine ⟨_, (pss_cons (ps_set (i := 1) sc_Arguments_take_stops.nd rfl (Or.inr rfl) (c_meth0 (ok_Arguments_take_list (K := K) T) hr (by decide) T.c_Arguments T.m_Arguments_take_list pass0 (pv 0)))
      (pss_one (ps_ret (pe_lc (own := [("k", 2)]) (by rfl) sc_Arguments_take_stops.nd (pi_range1 rfl T.z_range (pa_cons (pe_op op_fdiv (pe_callB (kx_len (K := K) rfl) (by rfl) T.z_len PySem.boot_len (pa_cons (pv 1) pa_nil)) pe_int) pa_nil)) (blkOk_by (own := [("k", 2)]) (N := ["self", "numbers", "k"]) (sc := defScope s_Arguments_take_stops) (by decide +kernel)) (fun _ _ _ _ _ => (pg_name (i := 2) sc_Arguments_take_stops.nd rfl (Or.inl rfl))) (fun _ _ _ _ _ => pts_nil) (fun _ _ _ _ _ => (pe_tup (pa_cons (pe_ix (kx_ixl (K := K) rfl) (pv 1) (pe_op op_mul pe_int (pv 2)) (fun _ _ => rfl)) (pa_cons (pe_ix (kx_ixl (K := K) rfl) (pv 1) (pe_op op_add (pe_op op_mul pe_int (pv 2)) pe_int) (fun _ _ => rfl)) pa_nil)))))))), ?_⟩
  walk_at "go"
  refine ⟨g, L, ns, i, n, rfl, ⟨⟨dx, hg⟩, hL⟩, hn, hle, fun H1 p b1 a1 hp0 hp => ?_⟩
  generalize hl : (ns.drop (i + 1)).take n = l at hp q
  have ll : l.length = n := by rw [← hl, List.length_take, List.length_drop]; omega
  have lm : (l.map V.int).length = n := by rw [List.length_map, ll]
  walk_at "go"
  refine fun D hD => lc_build walk_range (fun k y H' => ∃ a b, l[2 * k]? = some a ∧ l[2 * k + 1]? = some b ∧ TupI H' y [a, b]) ?_ hD (fun _ _ => trivial) (by omega) ?_ ?_
  · rintro k y H2 H3 zs hz bt ⟨a, b, e1, e2, e3⟩
    exact ⟨a, b, e1, e2, e3.but bt (fun ys e => by rw [hz] at e; cases e)⟩
  · rintro k x H2 H3 F B hk s2 ⟨rfl, rfl⟩ hF
    have k1 : 2 * k < l.length := by omega
    have k2 : 2 * k + 1 < l.length := by omega
    walk_at "go"
    refine ⟨_, _, _, _, rfl, rfl, SqL.of (s2 _ _ hp), at_of (j := 2 * k) (by omega) (by rw [List.getElem?_map, List.getElem?_eq_getElem k1] <;> rfl), ?_⟩
    walk_at "go"
    refine ⟨_, _, _, _, rfl, rfl, SqL.of (s2 _ _ hp), at_of (j := 2 * k + 1) (by omega) (by rw [List.getElem?_map, List.getElem?_eq_getElem k2] <;> rfl), ?_⟩
    walk_at "go"
    exact fun t ht => hF _ _ (Same.new ht) ⟨_, _, List.getElem?_eq_getElem k1, List.getElem?_eq_getElem k2, t, rfl, upd_same⟩
  · intro H2 ys s2 hy hl2 ho
    refine q H2 D (b1.trans (But.of s2)) (a1.mono s2) ⟨ys, hy, by rw [hl2, pairs2_len]; omega, fun k v x hv hx => ?_⟩
    obtain ⟨a, b, e1, e2, e3⟩ := ho k v hv
    rw [pairs2_at l k a b e1 e2] at hx
    cases hx
    exact e3
theorem sc_Arguments_take_path : FnScope ["self", "numbers", "k"] ["self"] (defScope s_Arguments_take_path) := ⟨rfl, rfl, rfl, by decide +kernel, rfl, by decide +kernel, by decide +kernel⟩
theorem bd_Arguments_take_path : BindAll "take_path" "Arguments.take_path" s_Arguments_take_path ["self"] := fun _ _ _ _ _ _ us hl => match us, hl with | [_], _ => rfl
theorem ok_Arguments_take_path (T : Txt K mg) : Ok P w K mg base CX0 3 (He.fAd K ("Arguments", some "take_path")) ["self"] (fun vs H Q _ => ∃ (g L : Addr) (ns : List Int) (i n : Nat), vs = [.ref g] ∧ ArgsAt K H g L ns i ∧ ns[i]? = some (n : Int) ∧ i + 1 + n ≤ ns.length ∧ ns.length ≤ 30000 ∧
    ∀ H' p, But g H H' → ArgsAt K H' g L ns (i + 1 + n) → H p = none → ListOf TupI H' p (trips3 ((ns.drop (i + 1)).take n)) → Q (.ref p) H') := by
  refine mk_ok T.f_Arguments_take_path sc_Arguments_take_path bd_Arguments_take_path (fun _ _ _ _ ⟨_, _, _, _, _, e, _⟩ => by rw [e]; rfl) fun cdv A outer s H vs Q E hr h => ?_
  obtain ⟨g, L, ns, i, n, rfl, ⟨⟨dx, hg⟩, hL⟩, hn, hle, hz, q⟩ := h
  refine ⟨_, (pss_cons (ps_set (i := 1) sc_Arguments_take_path.nd rfl (Or.inr rfl) (c_meth0 (ok_Arguments_take_list (K := K) T) hr (by decide) T.c_Arguments T.m_Arguments_take_list pass0 (pv 0)))
      (pss_one (ps_ret (pe_lc (own := [("k", 2)]) (by rfl) sc_Arguments_take_path.nd (pi_range1 rfl T.z_range (pa_cons (pe_op op_fdiv (pe_callB (kx_len (K := K) rfl) (by rfl) T.z_len PySem.boot_len (pa_cons (pv 1) pa_nil)) pe_int) pa_nil)) (blkOk_by (own := [("k", 2)]) (N := ["self", "numbers", "k"]) (sc := defScope s_Arguments_take_path) (by decide +kernel)) (fun _ _ _ _ _ => (pg_name (i := 2) sc_Arguments_take_path.nd rfl (Or.inl rfl))) (fun _ _ _ _ _ => pts_nil) (fun _ _ _ _ _ => (pe_tup (pa_cons (pe_ix (kx_ixl (K := K) rfl) (pv 1) (pe_op op_mul pe_int (pv 2)) (fun _ _ => rfl)) (pa_cons (pe_ix (kx_ixl (K := K) rfl) (pv 1) (pe_op op_add (pe_op op_mul pe_int (pv 2)) pe_int) (fun _ _ => rfl)) (pa_cons (pe_ix (kx_ixl (K := K) rfl) (pv 1) (pe_op op_add (pe_op op_mul pe_int (pv 2)) pe_int) (fun _ _ => rfl)) pa_nil))))))))), ?_⟩
  walk_at "go"
  refine ⟨g, L, ns, i, n, rfl, ⟨⟨dx, hg⟩, hL⟩, hn, hle, fun H1 p b1 a1 hp0 hp => ?_⟩
  generalize hl : (ns.drop (i + 1)).take n = l at hp q
  have ll : l.length = n := by rw [← hl, List.length_take, List.length_drop]; omega
  have lm : (l.map V.int).length = n := by rw [List.length_map, ll]
  walk_at "go"
  refine fun D hD => lc_build walk_range (fun k y H' => ∃ a b c, l[3 * k]? = some a ∧ l[3 * k + 1]? = some b ∧ l[3 * k + 2]? = some c ∧ TupI H' y [a, b, c]) ?_ hD (fun _ _ => trivial) (by omega) ?_ ?_
  · rintro k y H2 H3 zs hz bt ⟨a, b, c, e1, e2, e4, e3⟩
    exact ⟨a, b, c, e1, e2, e4, e3.but bt (fun ys e => by rw [hz] at e; cases e)⟩
  · rintro k x H2 H3 F B hk s2 ⟨rfl, rfl⟩ hF
    have k1 : 3 * k < l.length := by omega
    have k2 : 3 * k + 1 < l.length := by omega
    have k3 : 3 * k + 2 < l.length := by omega
    walk_at "go"
    refine ⟨_, _, _, _, rfl, rfl, SqL.of (s2 _ _ hp), at_of (j := 3 * k) (by omega) (by rw [List.getElem?_map, List.getElem?_eq_getElem k1] <;> rfl), ?_⟩
    walk_at "go"
    refine ⟨_, _, _, _, rfl, rfl, SqL.of (s2 _ _ hp), at_of (j := 3 * k + 1) (by omega) (by rw [List.getElem?_map, List.getElem?_eq_getElem k2] <;> rfl), ?_⟩
    walk_at "go"
    refine ⟨_, _, _, _, rfl, rfl, SqL.of (s2 _ _ hp), at_of (j := 3 * k + 2) (by omega) (by rw [List.getElem?_map, List.getElem?_eq_getElem k3] <;> rfl), ?_⟩
    walk_at "go"
    exact fun t ht => hF _ _ (Same.new ht) ⟨_, _, _, List.getElem?_eq_getElem k1, List.getElem?_eq_getElem k2, List.getElem?_eq_getElem k3, t, rfl, upd_same⟩
  · intro H2 ys s2 hy hl2 ho
    have hDH : H D = none := by
      obtain ⟨⟨dx1, hg1⟩, _⟩ := a1
      have gD : g ≠ D := ne_of_none hg1 hD
      cases z : H D with
      | none => rfl
      | some o =>
        rw [b1 D o (Ne.symm gD) z] at hD
        cases hD
    refine q H2 D (b1.trans (But.of s2)) (a1.mono s2) hDH ⟨ys, hy, by rw [hl2, trips3_len]; omega, fun k v x hv hx => ?_⟩
    obtain ⟨a, b, c, e1, e2, e4, e3⟩ := ho k v hv
    rw [trips3_at l k a b c e1 e2 e4] at hx
    cases hx
    exact e3
end
end Pd
end
section
set_option Elab.async false
set_option linter.all false
set_option maxRecDepth 100000
set_option maxHeartbeats 4000000
namespace Pd
open PySem PySem.Spec PyProof.Rows L2
open Wrvdot (State Answer)
/-! ### a list of numbers as calls -/
def flatR (rows : List (List Int)) : List Int := rows.flatMap fun r => (r.length : Int) :: r
theorem rows_eq : ∀ (k : Nat) (r : List Int) (xs : List (List Int)) (t : List Int), PyFlat.rows k r = some (xs, t) → r = flatR xs ++ t
  | 0, r, xs, t, h => by
    cases h
    rfl
  | k + 1, [], xs, t, h => by cases h
  | k + 1, n :: r, xs, t, h => by
    unfold PyFlat.rows PyFlat.row at h
    by_cases c : 0 ≤ n ∧ n.toNat ≤ r.length
    · simp only [if_pos c] at h
      split at h
      · cases h
      · rename_i ys u hu
        cases h
        have := rows_eq k _ _ _ hu
        unfold flatR
        rw [List.flatMap_cons]
        have l1 : (r.take n.toNat).length = n.toNat := by rw [List.length_take]; omega
        rw [l1]
        show n :: r = ((n.toNat : Int) :: r.take n.toNat ++ flatR ys) ++ t
        rw [show ((n.toNat : Nat) : Int) = n by omega, List.append_assoc, ← this]
        show n :: r = n :: (r.take n.toNat ++ r.drop n.toNat)
        rw [List.take_append_drop]
    · simp only [if_neg c] at h
      cases h
theorem call_eq {p : Int} {r t : List Int} {c : List (List Int)} (h : PyFlat.call PyWrvdot.shape (p :: r) = some (c, t)) : ∃ xs rows, c = (p :: xs) :: rows ∧ r = (xs ++ flatR rows) ++ t := by
  unfold PyFlat.call at h
  simp only at h
  split at h
  · cases h
  · rename_i n k hs
    split at h
    · cases h
    · split at h
      · cases h
      · rename_i xs u hu
        cases h
        refine ⟨_, _, rfl, ?_⟩
        rw [List.append_assoc, ← rows_eq _ _ _ _ hu, List.take_append_drop]
theorem flat_next {f i : Nat} {ns : List Int} {cs : List (List (List Int))} (h : PyFlat.calls PyWrvdot.shape f (ns.drop i) = some cs) (hi : i < ns.length) :
    ∃ (p : Int) (xs : List Int) (rows : List (List Int)) (j f' : Nat) (cs' : List (List (List Int))), ns[i]? = some p ∧ Lies ns (i + 1) xs rows j ∧ cs = ((p :: xs) :: rows) :: cs' ∧ PyFlat.calls PyWrvdot.shape f' (ns.drop j) = some cs' ∧ i < j := by
  have e0 : ns.drop i = ns[i] :: ns.drop (i + 1) := List.drop_eq_getElem_cons hi
  generalize hp : ns[i] = p at e0
  rw [e0] at h
  cases f with
  | zero => cases h
  | succ f =>
    unfold PyFlat.calls at h
    split at h
    · cases h
    · rename_i c t hc
      split at h
      · cases h
      · rename_i cs' hcs
        cases h
        obtain ⟨xs, rows, rfl, er⟩ := call_eq hc
        have et : ns.drop (i + 1 + (xs ++ flatR rows).length) = t := by
          rw [← List.drop_drop, er, List.drop_append, Nat.sub_self, List.drop_zero, List.drop_eq_nil_of_le (Nat.le_refl _), List.nil_append]
        have el := congrArg List.length er
        rw [List.length_drop, List.length_append] at el
        refine ⟨p, xs, rows, i + 1 + (xs ++ flatR rows).length, f, cs', ?_, ⟨?_, ?_, ?_⟩, rfl, ?_, by omega⟩
        · rw [List.getElem?_eq_getElem hi, hp]
        · rw [et]
          exact er
        · rw [List.length_append]
          show i + 1 + (xs.length + (flatR rows).length) = i + 1 + xs.length + (flatR rows).length
          omega
        · omega
        · rw [et]
          exact hcs
theorem flat_end {f i : Nat} {ns : List Int} {cs : List (List (List Int))} (h : PyFlat.calls PyWrvdot.shape f (ns.drop i) = some cs) (hi : ns.length ≤ i) : cs = [] := by
  rw [List.drop_eq_nil_of_le hi] at h
  unfold PyFlat.calls at h
  cases h
  rfl
theorem whole_id (q : List (List Int)) : PyWrvdot.whole q = q := by
  unfold PyWrvdot.whole
  split <;> rfl
theorem map_whole (l : List (List (List Int))) : l.map PyWrvdot.whole = l := by
  rw [show PyWrvdot.whole = id from funext whole_id, List.map_id]
/-- what is asked of the list -/
theorem asked_of {ns : List Int} (h : PyWrvdot.answers_asked ns = true) : ∃ cs, PyFlat.calls PyWrvdot.shape ns.length ns = some cs ∧ (∀ q ∈ cs, WrvdotNeutral.asked1 q = true) ∧ PyFlat.told (PyFlat.played WrvdotNeutral.step Wrvdot.start cs) = PyWrvdot.answers ns ∧
    (PyWrvdot.answers ns).length ≤ 10000000 := by
  unfold PyWrvdot.answers_asked at h
  split at h
  · cases h
  · rename_i raw hr
    rw [map_whole] at h
    simp only [Bool.and_eq_true] at h
    obtain ⟨⟨⟨_, _⟩, h2⟩, h3⟩ := h
    unfold WrvdotNeutral.asked at h2
    rw [Bool.and_eq_true] at h2
    refine ⟨raw, hr, fun q hq => List.all_eq_true.mp h2.1 q hq, ?_, of_decide_eq_true h3⟩
    unfold PyWrvdot.answers PyWrvdot.calls
    rw [hr]
    simp only [map_whole]
    rfl
theorem step_of {s : State} {q : List (List Int)} {x : Wrvdot.Call} (h : WrvdotNeutral.callOf q = some x) : WrvdotNeutral.step s q = ((Wrvdot.step s x).1, WrvdotNeutral.told (Wrvdot.step s x).2) := by
  unfold WrvdotNeutral.step
  rw [h]
theorem told_next {s : State} {q : List (List Int)} {x : Wrvdot.Call} {cs : List (List (List Int))} (h : WrvdotNeutral.callOf q = some x) :
    PyFlat.told (PyFlat.played WrvdotNeutral.step s (q :: cs)) = ((WrvdotNeutral.told (Wrvdot.step s x).2).length : Int) :: WrvdotNeutral.told (Wrvdot.step s x).2 ++ PyFlat.told (PyFlat.played WrvdotNeutral.step (Wrvdot.step s x).1 cs) := by
  show PyFlat.told ((WrvdotNeutral.step s q).2 :: PyFlat.played WrvdotNeutral.step (WrvdotNeutral.step s q).1 cs) = _
  rw [step_of h]
  rfl
end Pd
end
section
set_option Elab.async false
set_option linter.all false
set_option maxRecDepth 100000
set_option maxHeartbeats 4000000
namespace Pd
open PySem PySem.Spec PyProof.Rows L2
local macro_rules | `(tactic| walk_at "at") => `(tactic| first
  | assumption
  | exact upd_same
  | (refine (show Same _ _ by assumption) _ _ ?_; walk_at "at")
  | (refine (show But _ _ _ by assumption) _ _ (by assumption) ?_; assumption)
  | (refine Same.new (by assumption) _ _ ?_; walk_at "at")
  | (refine (upd_ne (ne_of (by assumption) (by assumption) (by intro z; cases z))).trans ?_; walk_at "at"))
local macro_rules | `(tactic| walk_at "go") => `(tactic| repeat (first
  | refine ⟨_, rfl, ?_⟩
  | refine ⟨_, _, rfl, rfl, ?_⟩
  | refine ⟨_, _, rfl, ?_⟩
  | refine ⟨_, _, _, rfl, ?_⟩
  | refine And.intro rfl ?_
  | refine And.intro (Or.inl ⟨by decide, by decide⟩) ?_
  | refine And.intro (Or.inr ⟨by decide, by decide⟩) ?_
  | refine And.intro ⟨by decide, by decide⟩ ?_
  | refine And.intro (Or.inl ⟨by omega, by omega⟩) ?_
  | refine And.intro (Or.inr ⟨by omega, by omega⟩) ?_
  | refine And.intro ⟨by omega, by omega⟩ ?_
  | refine And.intro trivial ?_
  | refine And.intro (by omega) ?_
  | refine And.intro (sz (Nat.le_of_ble_eq_true rfl)) ?_
  | refine And.intro (Or.inl ⟨rfl, _, SqL.of (by walk_at "at")⟩) ?_
  | refine ⟨_, _, _, _, rfl, rfl, SqT.of (by walk_at "at"), (by rfl), ?_⟩
  | refine ⟨_, _, _, _, rfl, rfl, SqL.of (by walk_at "at"), (by rfl), ?_⟩
  | refine ⟨_, _, _, _, _, rfl, (by walk_at "at"), (by assumption), (by assumption), Lk.h, ?_⟩
  | refine ⟨_, _, _, rfl, rfl, (by walk_at "at"), ?_⟩
  | refine ⟨_, _, _, rfl, (by walk_at "at"), LkN.h, ?_⟩
  | refine ⟨_, _, _, _, rfl, (by walk_at "at"), (by assumption), (by assumption), (by apply few_lt; decide), ?_⟩
  | refine ⟨_, _, (by walk_at "at"), (by apply few_lt; decide), ?_⟩
  | refine ⟨_, _, rfl, Or.inl (SqL.of (by walk_at "at")), ?_⟩))
/-- a piece of a path, a stop: as tuples -/
def PcAt (H : Hp) (v : V) (p : Wrvdot.Piece) : Prop := TupI H v [if p.begins = true then 1 else 0, p.at_.1, p.at_.2]
def SpAt (H : Hp) (v : V) (z : Nat × Nat) : Prop := TupI H v [(z.1 : Int), (z.2 : Int)]
theorem eq_map {α : Type} {g : α → V} {ys : List V} {xs : List α} (hl : ys.length = xs.length) (h : ∀ (i : Nat) y x, ys[i]? = some y → xs[i]? = some x → y = g x) : ys = xs.map g := by
  refine List.ext_getElem? fun i => ?_
  rw [List.getElem?_map]
  cases e : ys[i]? with
  | none =>
    have : xs[i]? = none := by
      rw [List.getElem?_eq_none_iff] at e ⊢
      omega
    rw [this] <;> rfl
  | some y =>
    have li : i < xs.length := by
      rw [← hl]
      exact (List.getElem?_eq_some_iff.mp e).1
    rw [List.getElem?_eq_getElem li]
    exact congrArg some (h i y _ e (List.getElem?_eq_getElem li))
theorem at_last1 {xs : List V} {v : V} (h : xs[xs.length - 1]? = some v) : atI xs (-1) = some v := by
  have l : xs.length - 1 < xs.length := (List.getElem?_eq_some_iff.mp h).1
  unfold atI ixN
  rw [if_neg (by decide), if_pos (by omega)]
  show xs[((-1 : Int) + xs.length).toNat]? = some v
  rw [show ((-1 : Int) + xs.length).toNat = xs.length - 1 by omega]
  exact h
theorem place_far (p : Vd.Pt) : Wrvdot.placeOk p = !(farB p.1 || farB p.2) := by
  unfold Wrvdot.placeOk farB Wrvdot.FAR
  rw [Bool.eq_iff_iff]
  simp
  omega
section
variable {P : Program} {w : World} {K : PySem.W.Frag} {mg : Str → Option Value} {base : Heap}
theorem sc_is_path : FnScope ["path", "begins", "x", "y"] ["path"] (defScope s_is_path) := ⟨rfl, rfl, rfl, by decide +kernel, rfl, by decide +kernel, by decide +kernel⟩
theorem bd_is_path : BindAll "is_path" "is_path" s_is_path ["path"] := fun _ _ _ _ _ _ us hl => match us, hl with | [_], _ => rfl
theorem ok_is_path (T : Txt K mg) : Ok P w K mg base CX0 2 (He.fAd K ("is_path", none)) ["path"] (fun vs H Q _ => ∃ (p : Addr) (l : List Wrvdot.Piece), vs = [.ref p] ∧ ListOf PcAt H p l ∧ l.length ≤ 30000 ∧ ∀ H', Same H H' → Q (.bl (Wrvdot.pathOk l)) H') := by
  refine mk_ok T.f_is_path sc_is_path bd_is_path (fun _ _ _ _ ⟨_, _, e, _⟩ => by rw [e]; rfl) fun cdv A outer s H vs Q E hr h => ?_
  obtain ⟨p, l, rfl, ⟨us, hp, ha⟩, hz, q⟩ := h
  refine ⟨_, (pss_cons (ps_if (PW.pt (pw_or (pt_cmpR op_eq (pe_callB (kx_len (K := K) rfl) (by rfl) T.z_len PySem.boot_len (pa_cons (pv 0) pa_nil)) pe_int (nomark _)) (pw_or1 (pt_cmpR op_eq (pe_ix (kx_ixt (K := K) rfl) (pe_ix (kx_ixl (K := K) rfl) (pv 0) pe_int (fun _ _ => rfl)) pe_int (fun _ _ => rfl)) pe_int (nomark _))))) (pss_one (ps_ret pe_bl)) pss_nil)
      (pss_one (ps_ret (pe_not (pe_callB (kx_any (K := K) rfl rfl) (by rfl) T.z_any (by decide +kernel) (pa_cons (pe_lc (own := [("begins", 1), ("x", 2), ("y", 3)]) (by rfl) sc_is_path.nd (kx_list (K := K) rfl (pv 0)) (blkOk_by (own := [("begins", 1), ("x", 2), ("y", 3)]) (N := ["path", "begins", "x", "y"]) (sc := defScope s_is_path) (by decide +kernel)) (fun _ _ _ _ _ => (kx_tup (K := K) (n := 3) rfl rfl (pgs_cons (pg_name (i := 1) sc_is_path.nd rfl (Or.inl rfl)) (pgs_cons (pg_name (i := 2) sc_is_path.nd rfl (Or.inl rfl)) (pgs_cons (pg_name (i := 3) sc_is_path.nd rfl (Or.inl rfl)) pgs_nil))))) (fun _ _ _ _ _ => pts_nil) (fun _ _ _ _ _ => (pe_or (c_call (ok_is_far (K := K) T) hr (by decide) rfl T.g_is_far pass0 (pa_cons (pv 2) pa_nil)) (pe_one (c_call (ok_is_far (K := K) T) hr (by decide) rfl T.g_is_far pass0 (pa_cons (pv 3) pa_nil)))))) pa_nil)))))), ?_⟩
  walk_at "go"
  refine ite2 (fun c => ?_) (fun c => ?_)
  · have c1 := dint c
    have : l = [] := List.eq_nil_of_length_eq_zero (by rw [← ha.1]; omega)
    subst this
    exact q _ (Same.refl _)
  obtain ⟨u, us', rfl⟩ : ∃ u us', us = u :: us' := by
    cases us with
    | nil => exact absurd rfl (dint_not c)
    | cons u us' => exact ⟨u, us', rfl⟩
  obtain ⟨z, l', rfl⟩ : ∃ z l', l = z :: l' := by
    cases l with
    | nil => exact absurd ha.1 (by simp)
    | cons z l' => exact ⟨z, l', rfl⟩
  obtain ⟨⟨t, rfl, ht⟩, _⟩ := All.uncons ha
  walk_at "go"
  refine ⟨_, _, _, _, rfl, rfl, SqL.of hp, at_of (j := 0) rfl rfl, ?_⟩
  walk_at "go"
  refine ite2 (fun c2 => ?_) (fun c2 => ?_)
  · have c3 := dint c2
    refine q_of ?_ (q _ (Same.refl _))
    cases zb : z.begins with
    | true => rw [zb] at c3; exact absurd c3 (by decide)
    | false => simp only [Wrvdot.pathOk, zb, Bool.false_and]
  have zb : z.begins = true := by
    have c3 := dint_not c2
    cases zb : z.begins with
    | true => rfl
    | false => rw [zb] at c3; exact absurd rfl c3
  walk_at "go"
  refine ⟨⟨_, SqL.of hp⟩, fun D hD => lc_build walk_list (fun k y H' => ∃ x, (z :: l')[k]? = some x ∧ y = .bl (farB x.at_.1 || farB x.at_.2)) ?_ hD (fun H' s1 => SqL.of (s1 _ _ hp)) ?_ ?_ ?_⟩
  · rintro k y H2 H3 zs hz bt e
    exact e
  · have := ha.1
    omega
  · rintro k x H2 H3 F B hk s2 ⟨rfl, hx⟩ hF
    obtain ⟨pc, e1, tp, rfl, e2⟩ := ha.get hx
    have e3 := s2 _ _ e2
    refine ⟨tp, _, rfl, SqT.of e3, rfl, ?_⟩
    walk_at "go"
    refine ite2 (fun c => ?_) (fun c => ?_)
    · exact hF _ _ (Same.refl _) ⟨pc, e1, by rw [c] <;> rfl⟩
    · walk_at "go"
      exact hF _ _ (Same.refl _) ⟨pc, e1, by show V.bl _ = V.bl _; rw [Bool.eq_false_iff.mpr c] <;> rfl⟩
  · intro H2 ys s2 hy hl2 ho
    have ey : ys = ((z :: l').map fun x => farB x.at_.1 || farB x.at_.2).map V.bl := by
      rw [List.map_map]
      refine eq_map (hl2.trans ha.1) fun i y x h1 h2 => ?_
      obtain ⟨x2, e1, e2⟩ := ho i y h1
      rw [h2] at e1
      cases e1
      exact e2
    rw [ey] at hy
    refine ⟨_, _, rfl, SqL.of hy, ?_⟩
    walk_at "go"
    refine q_of ?_ (q _ s2)
    refine congrArg V.bl ?_
    have e : ∀ m : List Wrvdot.Piece, (m.all fun p => Wrvdot.placeOk p.at_) = !((m.map fun x => farB x.at_.1 || farB x.at_.2).any id) := by
      intro m
      induction m with
      | nil => rfl
      | cons a m ih => 
        rw [List.all_cons, ih, List.map_cons, List.any_cons, place_far]
        simp only [Bool.not_or, id]
    show (z.begins && (z :: l').all fun p => Wrvdot.placeOk p.at_) = _
    rw [zb, e] <;> rfl
/-! ### are_stops -/
theorem eqv_ints : ∀ ns ms : List Int, PyData.eqvAll (ns.map PyData.int) (ms.map PyData.int) = decide (ns = ms)
  | [], [] => by simp [PyData.eqvAll]
  | [], _ :: _ => by simp [PyData.eqvAll]
  | _ :: _, [] => by simp [PyData.eqvAll]
  | n :: ns, m :: ms => by
    simp only [List.map_cons, PyData.eqvAll, PyData.eqv, eqv_ints ns ms, List.cons.injEq]
    rw [Bool.eq_iff_iff]
    simp
theorem dp_ints {K : PySem.W.Frag} {H : Hp} : ∀ ns : List Int, DpAll K H (ns.map V.int) (ns.map PyData.int)
  | [] => .nil
  | n :: r => .cons (.int n) (dp_ints r)
theorem shaped_ints (ns : List Int) : SeqAt.shaped (.list (ns.map PyData.int)) = true := by
  have h1 : ∀ l : List Int, PyData.canLayAll0 (l.map PyData.int) = true := fun l => by
    induction l with
    | nil => simp [PyData.canLayAll0]
    | cons a l ih => simp [PyData.canLayAll0, PyData.canLay0, ih]
  have h2 : ∀ l : List Int, PyData.depthAll (l.map PyData.int) = 0 := fun l => by
    induction l with
    | nil => simp [PyData.depthAll]
    | cons a l ih => simp [PyData.depthAll, PyData.depth, ih]
  unfold SeqAt.shaped
  rw [Bool.and_eq_true]
  refine ⟨?_, ?_⟩
  · simp [PyData.canLay0, h1]
  · simp [PyData.depth, h2]
/-- in order, the last at most 65536: as the specification has it -/
theorem rising_is : ∀ l : List (Nat × Nat), Wrvdot.rising l = true ↔ (l.map fun z => (z.1 : Int)).Pairwise (· ≤ ·)
  | [] => by simp [Wrvdot.rising]
  | [a] => by simp [Wrvdot.rising]
  | a :: b :: r => by
    have ih := rising_is (b :: r)
    simp only [Wrvdot.rising, Bool.and_eq_true, decide_eq_true_eq, ih, List.map_cons, List.pairwise_cons]
    constructor
    · rintro ⟨h1, h2, h3⟩
      refine ⟨fun x hx => ?_, h2, h3⟩
      rcases List.mem_cons.mp hx with e | e
      · rw [e]; exact_mod_cast h1
      · exact Int.le_trans (by exact_mod_cast h1) (h2 x e)
    · rintro ⟨h1, h2, h3⟩
      exact ⟨by exact_mod_cast h1 _ (List.mem_cons_self ..), h2, h3⟩
theorem stops_is {l : List (Nat × Nat)} {z : Nat × Nat} (h1 : 2 ≤ l.length) (h2 : l.length ≤ 16) (hz : l[l.length - 1]? = some z) :
    Wrvdot.stopsOk l = (decide ((l.map fun z => (z.1 : Int)).Pairwise (· ≤ ·)) && decide (z.1 ≤ 65536)) := by
  unfold Wrvdot.stopsOk
  rw [decide_eq_true h1, decide_eq_true h2, Bool.true_and, Bool.true_and, Bool.eq_iff_iff, Bool.and_eq_true, Bool.and_eq_true, rising_is, decide_eq_true_eq, decide_eq_true_eq, List.all_eq_true]
  constructor
  · rintro ⟨a, b⟩
    exact ⟨b, by simpa using a z (List.mem_of_getElem? hz)⟩
  · rintro ⟨a, b⟩
    refine ⟨fun x hx => ?_, a⟩
    obtain ⟨i, hi, e⟩ := List.mem_iff_getElem.mp hx
    have lt : l.length - 1 < l.length := by omega
    rw [List.getElem?_eq_getElem lt] at hz
    cases hz
    rcases Nat.lt_or_ge i (l.length - 1) with c | c
    · have p := List.pairwise_iff_getElem.mp a i (l.length - 1) (by simpa using hi) (by simpa using lt) c
      simp only [List.getElem_map] at p
      rw [← e]
      simp only [decide_eq_true_eq]
      omega
    · have : i = l.length - 1 := by omega
      subst this
      rw [← e]
      simpa using b
theorem sc_are_stops : FnScope ["stops", "places", "place", "colour"] ["stops"] (defScope s_are_stops) := ⟨rfl, rfl, rfl, by decide +kernel, rfl, by decide +kernel, by decide +kernel⟩
theorem bd_are_stops : BindAll "are_stops" "are_stops" s_are_stops ["stops"] := fun _ _ _ _ _ _ us hl => match us, hl with | [_], _ => rfl
theorem ok_are_stops (T : Txt K mg) : Ok P w K mg base CX0 2 (He.fAd K ("are_stops", none)) ["stops"] (fun vs H Q _ => ∃ (p : Addr) (l : List (Nat × Nat)), vs = [.ref p] ∧ ListOf SpAt H p l ∧ l.length ≤ 30000 ∧ ∀ H', Same H H' → Q (.bl (Wrvdot.stopsOk l)) H') := by
  refine mk_ok T.f_are_stops sc_are_stops bd_are_stops (fun _ _ _ _ ⟨_, _, e, _⟩ => by rw [e]; rfl) fun cdv A outer s H vs Q E hr h => ?_
  obtain ⟨p, l, rfl, ⟨us, hp, ha⟩, hz, q⟩ := h
  refine ⟨_, (pss_cons (ps_if (PW.pt (pw_or (pt_cmpR op_lt (pe_callB (kx_len (K := K) rfl) (by rfl) T.z_len PySem.boot_len (pa_cons (pv 0) pa_nil)) pe_int (nomark _)) (pw_or1 (pt_cmpR op_gt (pe_callB (kx_len (K := K) rfl) (by rfl) T.z_len PySem.boot_len (pa_cons (pv 0) pa_nil)) pe_int (nomark _))))) (pss_one (ps_ret pe_bl)) pss_nil)
      (pss_cons (ps_setLc (i := 1) (own := [("place", 2), ("colour", 3)]) (by rfl) sc_are_stops.nd rfl rfl (sw_true rfl rfl rfl (by decide +kernel)) (kx_list (K := K) rfl (pv 0)) (blkOk_by (own := [("place", 2), ("colour", 3)]) (N := ["stops", "places", "place", "colour"]) (sc := defScope s_are_stops) (by decide +kernel)) (fun _ _ _ _ _ => (kx_tup (K := K) (n := 2) rfl rfl (pgs_cons (pg_name (i := 2) sc_are_stops.nd rfl (Or.inl rfl)) (pgs_cons (pg_name (i := 3) sc_are_stops.nd rfl (Or.inl rfl)) pgs_nil)))) (fun _ _ _ _ _ => pts_nil) (fun _ _ _ _ _ => (pv 2)))
      (pss_one (ps_ret (pe_and (pe_cmpR (kx_eqD (K := K) rfl hr.units) (pv 1) (pe_callB (kx_sorted (K := K) rfl) (by rfl) T.z_sorted (by decide +kernel) (pa_cons (pv 1) pa_nil)) (nomark _)) (pe_one (pe_cmpR op_le (pe_ix (kx_ixl (K := K) rfl) (pv 1) (pe_un un_neg pe_int) (fun _ _ => rfl)) pe_int (nomark _)))))))), ?_⟩
  have lu := ha.1
  walk_at "go"
  refine ite2 (fun c => ?_) (fun c => ?_)
  · refine q_of ?_ (q _ (Same.refl _))
    have c1 := ddec c
    unfold Wrvdot.stopsOk
    rw [decide_eq_false (by omega)] <;> rfl
  have c1 := dnot c
  walk_at "go"
  refine ite2 (fun c => ?_) (fun c => ?_)
  · refine q_of ?_ (q _ (Same.refl _))
    have c2 := ddec c
    unfold Wrvdot.stopsOk
    rw [decide_eq_true (by omega), decide_eq_false (show ¬ l.length ≤ 16 by omega)] <;> rfl
  have c2 := dnot c
  walk_at "go"
  refine ⟨⟨_, SqL.of hp⟩, fun D hD => lc_build walk_list (fun k y H' => ∃ x, l[k]? = some x ∧ y = .int (x.1 : Int)) ?_ hD (fun H' s1 => SqL.of (s1 _ _ hp)) (by omega) ?_ ?_⟩
  · rintro k y H2 H3 zs hz bt e
    exact e
  · rintro k x H2 H3 F B hk s2 ⟨rfl, hx⟩ hF
    obtain ⟨z, e1, tp, rfl, e2⟩ := ha.get hx
    have e3 := s2 _ _ e2
    refine ⟨tp, _, rfl, SqT.of e3, rfl, ?_⟩
    walk_at "go"
    exact hF _ _ (Same.refl _) ⟨z, e1, rfl⟩
  · intro H2 ys s2 hy hl2 ho
    have ey : ys = (l.map fun x => (x.1 : Int)).map V.int := by
      rw [List.map_map]
      refine eq_map (hl2.trans ha.1) fun i y x h1 h2 => ?_
      obtain ⟨x2, e1, e2⟩ := ho i y h1
      rw [h2] at e1
      cases e1
      exact e2
    rw [ey] at hy
    have lm : (l.map fun x => (x.1 : Int)).length = l.length := List.length_map _
    have ln : l.length - 1 < l.length := by omega
    walk_at "go"
    refine ⟨_, _, rfl, SqL.of hy, by omega, fun ns pn perm sorted hpn => ?_⟩
    refine ⟨_, _, .lst ((Same.new hpn).seq (SqL.of hy)) (dp_ints _), .lst (SqL.of upd_same) (dp_ints _), shaped_ints _, shaped_ints _, _, rfl, ?_⟩
    have fin : Wrvdot.stopsOk l = (decide ((l.map fun x => (x.1 : Int)).Pairwise (· ≤ ·)) && decide (l[l.length - 1].1 ≤ 65536)) := stops_is (by omega) (by omega) (List.getElem?_eq_getElem ln)
    have same : decide ((l.map fun x => (x.1 : Int)) = ns) = decide ((l.map fun x => (x.1 : Int)).Pairwise (· ≤ ·)) := by
      refine decide_eq_decide.mpr ⟨fun e => by rw [e]; exact sorted, fun e => List.Perm.eq_of_pairwise (fun a b _ _ h1 h2 => Int.le_antisymm h1 h2) e sorted perm.symm⟩
    have ev : PyData.eqv (.list ((l.map fun x => (x.1 : Int)).map PyData.int)) (.list (ns.map PyData.int)) = decide ((l.map fun x => (x.1 : Int)).Pairwise (· ≤ ·)) := by
      rw [← same, ← eqv_ints]
      simp [PyData.eqv]
    rw [ev]
    cases hb : decide ((l.map fun x => (x.1 : Int)).Pairwise (· ≤ ·)) with
    | false =>
      rw [hb] at fin
      exact iteF (q_of (congrArg V.bl fin) (q _ (s2.trans (Same.new hpn))))
    | true =>
      rw [hb] at fin
      walk_at "go"
      refine ⟨_, _, _, _, rfl, rfl, (Same.new hpn).seq (SqL.of hy), at_last1 (v := .int (l[l.length - 1].1 : Int)) (by rw [List.length_map, lm, List.getElem?_map, List.getElem?_map, List.getElem?_eq_getElem ln] <;> rfl), ?_⟩
      walk_at "go"
      refine q_of ?_ (q _ (s2.trans (Same.new hpn)))
      rw [fin, Bool.true_and]
      exact congrArg V.bl (decide_eq_decide.mpr (by omega))
/-! ### are_six -/
def sixB (l : List Int) : Bool := decide (l.length = 6) && l.all fun z => decide (-1073741824 ≤ z) && decide (z ≤ 1073741824)
theorem sc_are_six : FnScope ["numbers", "number"] ["numbers"] (defScope s_are_six) := ⟨rfl, rfl, rfl, by decide +kernel, rfl, by decide +kernel, by decide +kernel⟩
theorem bd_are_six : BindAll "are_six" "are_six" s_are_six ["numbers"] := fun _ _ _ _ _ _ us hl => match us, hl with | [_], _ => rfl
theorem ok_are_six (T : Txt K mg) : Ok P w K mg base CX0 1 (He.fAd K ("are_six", none)) ["numbers"] (fun vs H Q _ => ∃ (p : Addr) (l : List Int), vs = [.ref p] ∧ H p = some (.lst (l.map V.int)) ∧ l.length ≤ 30000 ∧ ∀ H', Same H H' → Q (.bl (sixB l)) H') := by
  refine mk_ok T.f_are_six sc_are_six bd_are_six (fun _ _ _ _ ⟨_, _, e, _⟩ => by rw [e]; rfl) fun cdv A outer s H vs Q E hr h => ?_
  obtain ⟨p, l, rfl, hp, hz, q⟩ := h
  refine ⟨_, (pss_cons (ps_if (pt_cmpR op_ne (pe_callB (kx_len (K := K) rfl) (by rfl) T.z_len PySem.boot_len (pa_cons (pv 0) pa_nil)) pe_int (nomark _)) (pss_one (ps_ret pe_bl)) pss_nil)
      (pss_one (ps_ret (pe_callB (kx_all (K := K) rfl rfl) (by rfl) T.z_all (by decide +kernel) (pa_cons (pe_lc (own := [("number", 1)]) (by rfl) sc_are_six.nd (kx_list (K := K) rfl (pv 0)) (blkOk_by (own := [("number", 1)]) (N := ["numbers", "number"]) (sc := defScope s_are_six) (by decide +kernel)) (fun _ _ _ _ _ => (pg_name (i := 1) sc_are_six.nd rfl (Or.inl rfl))) (fun _ _ _ _ _ => pts_nil) (fun _ _ _ _ _ => (pe_chain op_le op_le (pe_un un_neg (c_int rfl T.i_GREATEST_FACTOR)) (pv 1) (c_int rfl T.i_GREATEST_FACTOR)))) pa_nil))))), ?_⟩
  have lm : (l.map V.int).length = l.length := List.length_map _
  walk_at "go"
  refine ite2 (fun c => ?_) (fun c => ?_)
  · refine q_of ?_ (q _ (Same.refl _))
    unfold sixB
    rw [decide_eq_false (p := l.length = 6) (fun e => by rw [lm, e] at c; exact absurd c (by decide))] <;> rfl
  have l6 : l.length = 6 := by
    rcases Nat.lt_trichotomy l.length 6 with z | z | z
    · refine absurd ?_ c
      rw [decide_eq_false (fun e => by have := V.int.inj e; omega)] <;> rfl
    · exact z
    · refine absurd ?_ c
      rw [decide_eq_false (fun e => by have := V.int.inj e; omega)] <;> rfl
  walk_at "go"
  refine ⟨⟨_, SqL.of hp⟩, fun D hD => lc_build walk_list (fun k y H' => ∃ x, l[k]? = some x ∧ y = .bl (decide (-1073741824 ≤ x) && decide (x ≤ 1073741824))) ?_ hD (fun H' s1 => SqL.of (s1 _ _ hp)) (by omega) ?_ ?_⟩
  · rintro k y H2 H3 zs hz bt e
    exact e
  · rintro k x H2 H3 F B hk s2 ⟨rfl, hx⟩ hF
    obtain ⟨z, e1, rfl⟩ : ∃ z, l[k]? = some z ∧ x = .int z := by
      rw [List.getElem?_map] at hx
      obtain ⟨z, e1, e2⟩ := Option.map_eq_some_iff.mp hx
      exact ⟨z, e1, e2.symm⟩
    walk_at "go"
    refine ite2 (fun c1 => ?_) (fun c1 => ?_)
    · walk_at "go"
      exact hF _ _ (Same.refl _) ⟨z, e1, by show V.bl _ = V.bl _; rw [c1, Bool.true_and]⟩
    · exact hF _ _ (Same.refl _) ⟨z, e1, by rw [Bool.eq_false_iff.mpr c1] <;> rfl⟩
  · intro H2 ys s2 hy hl2 ho
    have ey : ys = (l.map fun x => decide (-1073741824 ≤ x) && decide (x ≤ 1073741824)).map V.bl := by
      rw [List.map_map]
      refine eq_map (hl2.trans lm) fun i y x h1 h2 => ?_
      obtain ⟨x2, e1, e2⟩ := ho i y h1
      rw [h2] at e1
      cases e1
      exact e2
    rw [ey] at hy
    refine ⟨_, _, rfl, SqL.of hy, ?_⟩
    refine q_of (congrArg V.bl ?_) (q _ s2)
    unfold sixB
    rw [decide_eq_true l6, Bool.true_and, List.all_map]
    all_goals rfl
end
end Pd
end
section
set_option linter.all false
set_option maxHeartbeats 1000000
/-! Plain mathematics: sides, as the program keeps them, against the specification -/
namespace Pd
open Vd
/-- a slanted side: its upper end, how far to the right, how far down, 1 down and -1 up | a level one: its ends, its height -/
structure Sl where
  tx : Int
  ty : Int
  ac : Int
  fa : Int
  tn : Int
structure Lv where
  l : Int
  r : Int
  h : Int
def slantOf (s : Side) : Option Sl := if 0 < s.2.2 - s.1.2 then some ⟨s.1.1, s.1.2, s.2.1 - s.1.1, s.2.2 - s.1.2, 1⟩ else if s.2.2 - s.1.2 < 0 then some ⟨s.2.1, s.2.2, -(s.2.1 - s.1.1), -(s.2.2 - s.1.2), -1⟩ else none
def levelOf (s : Side) : Option Lv := if 0 < s.2.2 - s.1.2 then none else if s.2.2 - s.1.2 < 0 then none else some ⟨min s.1.1 s.2.1, max s.1.1 s.2.1, s.1.2⟩
def reach (s : Sl) (x y : Int) : Int := (s.tx - x) * s.fa + s.ac * (y - s.ty)
def onSl (p : Pt) (s : Sl) : Bool := decide (0 ≤ p.2 - s.ty) && (decide (p.2 - s.ty ≤ s.fa) && decide (reach s p.1 p.2 = 0))
def cntSl (p : Pt) (s : Sl) : Int := if 0 ≤ p.2 - s.ty ∧ p.2 - s.ty < s.fa ∧ 0 < reach s p.1 p.2 then s.tn else 0
def onLv (p : Pt) (s : Lv) : Bool := decide (s.h = p.2) && (decide (s.l ≤ p.1) && decide (p.1 ≤ s.r))
def slants (l : List Side) : List Sl := l.filterMap slantOf
def levels (l : List Side) : List Lv := l.filterMap levelOf
theorem turn_down (s : Side) (p : Pt) : turn s p = (s.1.1 - p.1) * (s.2.2 - s.1.2) + (s.2.1 - s.1.1) * (p.2 - s.1.2) := by
  unfold turn
  grind
theorem turn_up (s : Side) (p : Pt) : turn s p = -((s.2.1 - p.1) * (-(s.2.2 - s.1.2)) + (-(s.2.1 - s.1.1)) * (p.2 - s.2.2)) := by
  unfold turn
  grind
theorem sq_between {u f a b : Int} (hf : 0 < f) (h0 : 0 ≤ b) (hb : b ≤ f) (e : u * f = a * b) : min 0 a ≤ u ∧ u ≤ max 0 a := by
  rcases Int.le_total 0 a with ha | ha
  · have h1 : 0 ≤ a * b := Int.mul_nonneg ha h0
    have h2 : a * b ≤ a * f := Int.mul_le_mul_of_nonneg_left hb ha
    have h3 : 0 ≤ u := by
      rcases Int.lt_or_le u 0 with z | z
      · have := Int.mul_neg_of_neg_of_pos z hf
        omega
      · exact z
    have h4 : u ≤ a := Int.le_of_mul_le_mul_right (by omega) hf
    omega
  · have h1 : a * b ≤ 0 := Int.mul_nonpos_of_nonpos_of_nonneg ha h0
    have h2 : a * f ≤ a * b := Int.mul_le_mul_of_nonpos_left ha hb
    have h3 : u ≤ 0 := by
      rcases Int.lt_or_le 0 u with z | z
      · have := Int.mul_pos z hf
        omega
      · exact z
    have h4 : a ≤ u := Int.le_of_mul_le_mul_right (by omega) hf
    omega
def optAny {α : Type} (o : Option α) (f : α → Bool) : Bool := match o with
  | some x => f x
  | none => false
def optSum {α : Type} (o : Option α) (f : α → Int) : Int := match o with
  | some x => f x
  | none => 0
theorem onSide_iff {p : Pt} {s : Side} : onSide p s = true ↔ turn s p = 0 ∧ (min s.1.1 s.2.1 ≤ p.1 ∧ p.1 ≤ max s.1.1 s.2.1) ∧ min s.1.2 s.2.2 ≤ p.2 ∧ p.2 ≤ max s.1.2 s.2.2 := by
  unfold onSide between
  rw [Bool.and_eq_true, Bool.and_eq_true, Bool.and_eq_true, Bool.and_eq_true, beq_iff_eq, decide_eq_true_iff, decide_eq_true_iff, decide_eq_true_iff, decide_eq_true_iff]
theorem onSl_iff {p : Pt} {s : Sl} : onSl p s = true ↔ 0 ≤ p.2 - s.ty ∧ p.2 - s.ty ≤ s.fa ∧ reach s p.1 p.2 = 0 := by
  unfold onSl
  rw [Bool.and_eq_true, Bool.and_eq_true, decide_eq_true_iff, decide_eq_true_iff, decide_eq_true_iff]
theorem onLv_iff {p : Pt} {s : Lv} : onLv p s = true ↔ s.h = p.2 ∧ s.l ≤ p.1 ∧ p.1 ≤ s.r := by
  unfold onLv
  rw [Bool.and_eq_true, Bool.and_eq_true, decide_eq_true_iff, decide_eq_true_iff, decide_eq_true_iff]
theorem on_is (p : Pt) (s : Side) : onSide p s = (optAny (slantOf s) (onSl p) || optAny (levelOf s) (onLv p)) := by
  obtain ⟨⟨bx, by_⟩, ⟨ex, ey⟩⟩ := s
  obtain ⟨px, py⟩ := p
  by_cases h1 : 0 < ey - by_
  · have td : turn ((bx, by_), (ex, ey)) (px, py) = (bx - px) * (ey - by_) + (ex - bx) * (py - by_) := turn_down ((bx, by_), (ex, ey)) (px, py)
    have e1 : slantOf ((bx, by_), (ex, ey)) = some ⟨bx, by_, ex - bx, ey - by_, 1⟩ := if_pos h1
    have e2 : levelOf ((bx, by_), (ex, ey)) = none := if_pos h1
    rw [e1, e2, Bool.eq_iff_iff]
    show onSide (px, py) ((bx, by_), (ex, ey)) = true ↔ (onSl (px, py) ⟨bx, by_, ex - bx, ey - by_, 1⟩ || false) = true
    rw [Bool.or_false, onSide_iff, onSl_iff, td]
    show ((bx - px) * (ey - by_) + (ex - bx) * (py - by_) = 0 ∧ (min bx ex ≤ px ∧ px ≤ max bx ex) ∧ min by_ ey ≤ py ∧ py ≤ max by_ ey) ↔ (0 ≤ py - by_ ∧ py - by_ ≤ ey - by_ ∧ (bx - px) * (ey - by_) + (ex - bx) * (py - by_) = 0)
    constructor
    · rintro ⟨h2, ⟨h3, h4⟩, h5, h6⟩
      exact ⟨by omega, by omega, h2⟩
    · rintro ⟨h2, h3, h4⟩
      have e : (px - bx) * (ey - by_) = (ex - bx) * (py - by_) := by grind
      have := sq_between h1 h2 h3 e
      exact ⟨h4, ⟨by omega, by omega⟩, by omega, by omega⟩
  · by_cases h2 : ey - by_ < 0
    · have td : turn ((bx, by_), (ex, ey)) (px, py) = -((ex - px) * (-(ey - by_)) + (-(ex - bx)) * (py - ey)) := turn_up ((bx, by_), (ex, ey)) (px, py)
      have e1 : slantOf ((bx, by_), (ex, ey)) = some ⟨ex, ey, -(ex - bx), -(ey - by_), -1⟩ := (if_neg h1).trans (if_pos h2)
      have e2 : levelOf ((bx, by_), (ex, ey)) = none := (if_neg h1).trans (if_pos h2)
      rw [e1, e2, Bool.eq_iff_iff]
      show onSide (px, py) ((bx, by_), (ex, ey)) = true ↔ (onSl (px, py) ⟨ex, ey, -(ex - bx), -(ey - by_), -1⟩ || false) = true
      rw [Bool.or_false, onSide_iff, onSl_iff, td]
      show (-((ex - px) * (-(ey - by_)) + (-(ex - bx)) * (py - ey)) = 0 ∧ (min bx ex ≤ px ∧ px ≤ max bx ex) ∧ min by_ ey ≤ py ∧ py ≤ max by_ ey) ↔ (0 ≤ py - ey ∧ py - ey ≤ -(ey - by_) ∧ (ex - px) * (-(ey - by_)) + (-(ex - bx)) * (py - ey) = 0)
      constructor
      · rintro ⟨h2, ⟨h3, h4⟩, h5, h6⟩
        exact ⟨by omega, by omega, Int.neg_eq_zero.mp h2⟩
      · rintro ⟨h3, h4, h5⟩
        have e : (px - ex) * (-(ey - by_)) = (-(ex - bx)) * (py - ey) := by grind
        have := sq_between (show 0 < -(ey - by_) by omega) h3 h4 e
        exact ⟨Int.neg_eq_zero.mpr h5, ⟨by omega, by omega⟩, by omega, by omega⟩
    · have e : ey = by_ := by omega
      subst e
      have e1 : slantOf ((bx, ey), (ex, ey)) = none := (if_neg h1).trans (if_neg h2)
      have e2 : levelOf ((bx, ey), (ex, ey)) = some ⟨min bx ex, max bx ex, ey⟩ := (if_neg h1).trans (if_neg h2)
      rw [e1, e2, Bool.eq_iff_iff]
      show onSide (px, py) ((bx, ey), (ex, ey)) = true ↔ (false || onLv (px, py) ⟨min bx ex, max bx ex, ey⟩) = true
      rw [Bool.false_or, onSide_iff, onLv_iff]
      show ((ex - bx) * (py - ey) - (ey - ey) * (px - bx) = 0 ∧ (min bx ex ≤ px ∧ px ≤ max bx ex) ∧ min ey ey ≤ py ∧ py ≤ max ey ey) ↔ (ey = py ∧ min bx ex ≤ px ∧ px ≤ max bx ex)
      constructor
      · rintro ⟨h3, ⟨h4, h5⟩, h6, h7⟩
        exact ⟨by omega, by omega, by omega⟩
      · rintro ⟨h3, h4, h5⟩
        subst h3
        refine ⟨?_, ⟨by omega, by omega⟩, by omega, by omega⟩
        rw [Int.sub_self, Int.mul_zero, Int.zero_mul]
        rfl
theorem cnt_is {p : Pt} {s : Side} (h : onSide p s = false) : counts p s = optSum (slantOf s) (cntSl p) := by
  rw [on_is] at h
  have h := (Bool.or_eq_false_iff.mp h).1
  obtain ⟨⟨bx, by_⟩, ⟨ex, ey⟩⟩ := s
  obtain ⟨px, py⟩ := p
  by_cases h1 : 0 < ey - by_
  · have td : turn ((bx, by_), (ex, ey)) (px, py) = (bx - px) * (ey - by_) + (ex - bx) * (py - by_) := turn_down ((bx, by_), (ex, ey)) (px, py)
    have e1 : slantOf ((bx, by_), (ex, ey)) = some ⟨bx, by_, ex - bx, ey - by_, 1⟩ := if_pos h1
    rw [e1] at h ⊢
    have h' : ¬ (0 ≤ py - by_ ∧ py - by_ ≤ ey - by_ ∧ (bx - px) * (ey - by_) + (ex - bx) * (py - by_) = 0) := fun z => by
      have : onSl (px, py) ⟨bx, by_, ex - bx, ey - by_, 1⟩ = true := onSl_iff.mpr z
      exact absurd (h.symm.trans this) (by decide)
    show (if by_ ≤ py ∧ py < ey then (if turn ((bx, by_), (ex, ey)) (px, py) < 0 then 0 else 1) else if ey ≤ py ∧ py < by_ then (if 0 < turn ((bx, by_), (ex, ey)) (px, py) then 0 else -1) else 0) = (if 0 ≤ py - by_ ∧ py - by_ < ey - by_ ∧ 0 < (bx - px) * (ey - by_) + (ex - bx) * (py - by_) then (1 : Int) else 0)
    rw [td]
    generalize (bx - px) * (ey - by_) + (ex - bx) * (py - by_) = R at h'
    split <;> split <;> split <;> omega
  · by_cases h2 : ey - by_ < 0
    · have td : turn ((bx, by_), (ex, ey)) (px, py) = -((ex - px) * (-(ey - by_)) + (-(ex - bx)) * (py - ey)) := turn_up ((bx, by_), (ex, ey)) (px, py)
      have e1 : slantOf ((bx, by_), (ex, ey)) = some ⟨ex, ey, -(ex - bx), -(ey - by_), -1⟩ := (if_neg h1).trans (if_pos h2)
      rw [e1] at h ⊢
      have h' : ¬ (0 ≤ py - ey ∧ py - ey ≤ -(ey - by_) ∧ (ex - px) * (-(ey - by_)) + (-(ex - bx)) * (py - ey) = 0) := fun z => by
        have : onSl (px, py) ⟨ex, ey, -(ex - bx), -(ey - by_), -1⟩ = true := onSl_iff.mpr z
        exact absurd (h.symm.trans this) (by decide)
      show (if by_ ≤ py ∧ py < ey then (if turn ((bx, by_), (ex, ey)) (px, py) < 0 then 0 else 1) else if ey ≤ py ∧ py < by_ then (if 0 < turn ((bx, by_), (ex, ey)) (px, py) then 0 else -1) else 0) = (if 0 ≤ py - ey ∧ py - ey < -(ey - by_) ∧ 0 < (ex - px) * (-(ey - by_)) + (-(ex - bx)) * (py - ey) then (-1 : Int) else 0)
      rw [td]
      generalize (ex - px) * (-(ey - by_)) + (-(ex - bx)) * (py - ey) = R at h'
      split <;> split <;> split <;> omega
    · have e1 : slantOf ((bx, by_), (ex, ey)) = none := (if_neg h1).trans (if_neg h2)
      rw [e1]
      show (if by_ ≤ py ∧ py < ey then (if turn ((bx, by_), (ex, ey)) (px, py) < 0 then 0 else 1) else if ey ≤ py ∧ py < by_ then (if 0 < turn ((bx, by_), (ex, ey)) (px, py) then 0 else -1) else 0) = (0 : Int)
      rw [if_neg (by omega), if_neg (by omega)]
/-- the sum of what the slanted sides count -/
def wind (p : Pt) (S : List Sl) : Int := (S.map (cntSl p)).sum
theorem any_on (p : Pt) : ∀ l : List Side, l.any (onSide p) = ((slants l).any (onSl p) || (levels l).any (onLv p))
  | [] => rfl
  | s :: l => by
    rw [List.any_cons, any_on p l, on_is]
    have e1 : (slants (s :: l)).any (onSl p) = (optAny (slantOf s) (onSl p) || (slants l).any (onSl p)) := by
      unfold slants
      rw [List.filterMap_cons]
      cases slantOf s <;> rfl
    have e2 : (levels (s :: l)).any (onLv p) = (optAny (levelOf s) (onLv p) || (levels l).any (onLv p)) := by
      unfold levels
      rw [List.filterMap_cons]
      cases levelOf s <;> rfl
    rw [e1, e2]
    cases optAny (slantOf s) (onSl p) <;> cases optAny (levelOf s) (onLv p) <;> simp
theorem round_is (p : Pt) : ∀ (l : List Side) (a : Int), l.any (onSide p) = false → l.foldl (fun (n : Int) (s : Side) => n + counts p s) a = a + wind p (slants l)
  | [], a, _ => by show a = a + 0; omega
  | s :: l, a, h => by
    rw [List.any_cons] at h
    obtain ⟨h1, h2⟩ := Bool.or_eq_false_iff.mp h
    rw [List.foldl_cons, round_is p l _ h2, cnt_is h1]
    have e : wind p (slants (s :: l)) = optSum (slantOf s) (cntSl p) + wind p (slants l) := by
      unfold wind slants
      rw [List.filterMap_cons]
      cases slantOf s with
      | none => simp [optSum]
      | some x => simp [optSum]
    rw [e]
    omega
/-- within, by the sides as the program keeps them -/
def within (eo : Bool) (S : List Sl) (L : List Lv) (p : Pt) : Bool := (L.any (onLv p) || S.any (onSl p)) || (if eo = true then wind p S % 2 == 1 else wind p S != 0)
theorem has_is (s : Shape) (p : Pt) : s.has p = within s.evenOdd (slants s.sides) (levels s.sides) p := by
  unfold Shape.has within
  have a := any_on p s.sides
  cases h : s.sides.any (onSide p) with
  | true =>
    rw [h] at a
    rw [Bool.or_comm ((levels s.sides).any _), ← a, Bool.true_or, Bool.true_or]
  | false =>
    have r := round_is p s.sides 0 h
    rw [h] at a
    rw [Bool.or_comm ((levels s.sides).any _), ← a, Bool.false_or, Bool.false_or]
    unfold round
    rw [r, Int.zero_add]
    split
    · rw [Bool.eq_iff_iff]
      simp
      omega
    · rfl
/-! ### contours -/
open Wrvdot (Piece sidesFrom)
/-- the contours so far, a piece more -/
def stepC (acc : List (List Pt)) (p : Piece) : List (List Pt) := if p.begins = true then acc ++ [[p.at_]] else acc.dropLast ++ [acc.getLastD [] ++ [p.at_]]
def contsOf (l : List Piece) : List (List Pt) := l.foldl stepC []
/-- the sides of a contour, closed -/
def closed (c : List Pt) : List Side := c.zip (c.drop 1 ++ c.take 1)
theorem closed_cons (a : Pt) (r : List Pt) : closed (a :: r) = (a :: r).zip (r ++ [a]) := rfl
theorem zip_more {b : Pt} : ∀ {xs ys : List Pt}, ys.length ≤ xs.length → (xs ++ [b]).zip ys = xs.zip ys
  | xs, [], _ => by simp
  | [], y :: ys, h => by simp at h
  | x :: xs, y :: ys, h => by
    show (x, y) :: (xs ++ [b]).zip ys = (x, y) :: xs.zip ys
    rw [zip_more (by simpa using h)]
theorem zip_snoc : ∀ (a : Pt) (r : List Pt) (c : Pt), (a :: r).zip (r ++ [c]) = (a :: r).zip r ++ [(r.getLastD a, c)]
  | a, [], c => rfl
  | a, x :: r, c => by
    show (a, x) :: (x :: r).zip (r ++ [c]) = (a, x) :: ((x :: r).zip r ++ [((x :: r).getLastD a, c)])
    rw [zip_snoc x r c]
    cases r <;> rfl
/-- an open row of places first .. now -/
def opens (first : Pt) (mid : List Pt) : List Side := (first :: mid).zip mid
theorem closed_open (first : Pt) (mid : List Pt) : closed (first :: mid) = opens first mid ++ [(mid.getLastD first, first)] := zip_snoc first mid first
theorem opens_more (first : Pt) (mid : List Pt) (c : Pt) : opens first (mid ++ [c]) = opens first mid ++ [(mid.getLastD first, c)] := by
  unfold opens
  have h : first :: (mid ++ [c]) = (first :: mid) ++ [c] := rfl
  rw [h, zip_more (by simp), zip_snoc]
theorem last_snoc (a c : Pt) (mid : List Pt) : (mid ++ [c]).getLastD a = c := by simp
theorem sides_from : ∀ (l : List Piece) (acc : List (List Pt)) (first : Pt) (mid : List Pt),
    (l.foldl stepC (acc ++ [first :: mid])).flatMap closed = acc.flatMap closed ++ opens first mid ++ sidesFrom first (mid.getLastD first) l
  | [], acc, first, mid => by
    show (acc ++ [first :: mid]).flatMap closed = acc.flatMap closed ++ opens first mid ++ [(mid.getLastD first, first)]
    rw [List.flatMap_append, List.flatMap_singleton, closed_open, List.append_assoc]
  | p :: r, acc, first, mid => by
    rw [List.foldl_cons]
    cases hb : p.begins with
    | true =>
      have e : stepC (acc ++ [first :: mid]) p = (acc ++ [first :: mid]) ++ [p.at_ :: []] := if_pos hb
      rw [e, sides_from r _ p.at_ []]
      have e2 : sidesFrom first (mid.getLastD first) (p :: r) = (mid.getLastD first, first) :: sidesFrom p.at_ p.at_ r := by
        rw [sidesFrom, if_pos hb]
      rw [e2, List.flatMap_append, List.flatMap_singleton, closed_open]
      simp [opens]
    | false =>
      have e : stepC (acc ++ [first :: mid]) p = acc ++ [first :: (mid ++ [p.at_])] := by
        unfold stepC
        rw [if_neg (by rw [hb]; decide)]
        simp
      rw [e, sides_from r acc first (mid ++ [p.at_]), last_snoc, opens_more]
      have e2 : sidesFrom first (mid.getLastD first) (p :: r) = (mid.getLastD first, p.at_) :: sidesFrom first p.at_ r := by
        rw [sidesFrom, if_neg (by rw [hb]; decide)]
      rw [e2]
      simp
/-- a path's sides are its contours' -/
theorem sides_is {rule : Nat} {p : Piece} {r : List Piece} (hb : p.begins = true) : (Wrvdot.shapeOf rule (p :: r)).sides = (contsOf (p :: r)).flatMap closed := by
  have e : contsOf (p :: r) = r.foldl stepC ([] ++ [p.at_ :: []]) := by
    unfold contsOf
    rw [List.foldl_cons]
    have : stepC [] p = [] ++ [[p.at_]] := if_pos hb
    rw [this]
  rw [e, sides_from]
  rfl
end Pd
end
section
set_option Elab.async false
set_option linter.all false
set_option maxRecDepth 100000
set_option maxHeartbeats 4000000
namespace Pd
open PySem PySem.Spec PyProof.Rows L2
local macro_rules | `(tactic| walk_at "at") => `(tactic| first
  | assumption
  | exact upd_same
  | (refine (show Same _ _ by assumption) _ _ ?_; walk_at "at")
  | (refine (show But _ _ _ by assumption) _ _ (by assumption) ?_; assumption)
  | (refine Same.new (by assumption) _ _ ?_; walk_at "at")
  | (refine (upd_ne (ne_of (by assumption) (by assumption) (by intro z; cases z))).trans ?_; walk_at "at"))
local macro_rules | `(tactic| walk_at "go") => `(tactic| repeat (first
  | refine ⟨_, rfl, ?_⟩
  | refine ⟨_, _, rfl, rfl, ?_⟩
  | refine ⟨_, _, rfl, ?_⟩
  | refine ⟨_, _, _, rfl, ?_⟩
  | refine And.intro rfl ?_
  | refine And.intro (Or.inl ⟨by decide, by decide⟩) ?_
  | refine And.intro (Or.inr ⟨by decide, by decide⟩) ?_
  | refine And.intro ⟨by decide, by decide⟩ ?_
  | refine And.intro (Or.inl ⟨by omega, by omega⟩) ?_
  | refine And.intro (Or.inr ⟨by omega, by omega⟩) ?_
  | refine And.intro ⟨by omega, by omega⟩ ?_
  | refine And.intro trivial ?_
  | refine And.intro (by omega) ?_
  | refine And.intro (sz (Nat.le_of_ble_eq_true rfl)) ?_
  | refine And.intro (Or.inl ⟨rfl, _, SqL.of (by walk_at "at")⟩) ?_
  | refine ⟨_, _, _, _, rfl, rfl, SqT.of (by walk_at "at"), (by rfl), ?_⟩
  | refine ⟨_, _, _, _, rfl, rfl, SqL.of (by walk_at "at"), (by rfl), ?_⟩
  | refine ⟨_, _, _, _, _, rfl, (by walk_at "at"), (by assumption), (by assumption), Lk.h, ?_⟩
  | refine ⟨_, _, _, rfl, rfl, (by walk_at "at"), ?_⟩
  | refine ⟨_, _, _, rfl, (by walk_at "at"), LkN.h, ?_⟩
  | refine ⟨_, _, _, _, rfl, (by walk_at "at"), (by assumption), (by assumption), (by apply few_lt; decide), ?_⟩
  | refine ⟨_, _, (by walk_at "at"), (by apply few_lt; decide), ?_⟩
  | refine ⟨_, _, rfl, Or.inl (SqL.of (by walk_at "at")), ?_⟩))
/-- all but what stands in L -/
def Off (L : List Addr) (H H' : Hp) : Prop := ∀ a o, a ∉ L → H a = some o → H' a = some o
theorem Off.refl (L : List Addr) (H : Hp) : Off L H H := fun _ _ _ h => h
theorem Off.trans {L : List Addr} {H H1 H2 : Hp} (a : Off L H H1) (b : Off L H1 H2) : Off L H H2 := fun x o n h => b x o n (a x o n h)
theorem Off.of {L : List Addr} {H H' : Hp} (a : Same H H') : Off L H H' := fun x o _ h => a x o h
theorem Off.at_ {L : List Addr} {H : Hp} {p : Addr} {o : HO} (h : p ∈ L) : Off L H (upd H p o) := fun x u n k => by
  rw [upd_ne (fun e => n (by rw [e]; exact h))]
  exact k
theorem TupI.off {L : List Addr} {H H' : Hp} {v : V} {xs : List Int} (s : Off L H H') (hp : ∀ p ∈ L, ∀ ys, H p ≠ some (.tup ys)) (h : TupI H v xs) : TupI H' v xs := let ⟨t, a, b⟩ := h; ⟨t, a, s _ _ (fun m => hp _ m _ b) b⟩
theorem TupI.store {H : Hp} {v : V} {xs : List Int} {p : Addr} {ys zs : List V} (hp : H p = some (.lst ys)) (h : TupI H v xs) : TupI (upd H p (.lst zs)) v xs := h.but But.at_ (fun ws e => by rw [hp] at e; cases e)
/-- a point, a slanted side, a level side: as tuples -/
def PtAt (H : Hp) (v : V) (p : Vd.Pt) : Prop := TupI H v [p.1, p.2]
def SlAt (H : Hp) (v : V) (s : Sl) : Prop := TupI H v [s.tx, s.ty, s.ac, s.fa, s.tn]
def LvAt (H : Hp) (v : V) (s : Lv) : Prop := TupI H v [s.l, s.r, s.h]
section
variable {P : Program} {w : World} {K : PySem.W.Frag} {mg : Str → Option Value} {base : Heap}
/-! ### put_side -/
theorem sc_Shape_put_side : FnScope ["self", "begin", "end", "across", "fall"] ["self", "begin", "end"] (defScope s_Shape_put_side) := ⟨rfl, rfl, rfl, by decide +kernel, rfl, by decide +kernel, by decide +kernel⟩
theorem bd_Shape_put_side : BindAll "put_side" "Shape.put_side" s_Shape_put_side ["self", "begin", "end"] := fun _ _ _ _ _ _ us hl => match us, hl with | [_, _, _], _ => rfl
theorem ok_Shape_put_side (T : Txt K mg) : Ok P w K mg base CX0 1 (He.fAd K ("Shape", some "put_side")) ["self", "begin", "end"] (fun vs H Q _ => ∃ (a dx ls ll : Addr) (r u v : V) (S : List Sl) (L : List Lv) (b e : Vd.Pt), vs = [.ref a, u, v] ∧
    H a = some (.ins (He.ga K "Shape") dx (fl_Shape r (.ref ls) (.ref ll))) ∧ ListOf SlAt H ls S ∧ ListOf LvAt H ll L ∧ ls ≠ ll ∧ PtAt H u b ∧ PtAt H v e ∧ S.length < 900000 ∧ L.length < 900000 ∧
    ∀ H', Off [ls, ll] H H' → ListOf SlAt H' ls (S ++ (slantOf (b, e)).toList) → ListOf LvAt H' ll (L ++ (levelOf (b, e)).toList) → Q .non H') := by
  refine mk_ok T.f_Shape_put_side sc_Shape_put_side bd_Shape_put_side (fun _ _ _ _ ⟨_, _, _, _, _, _, _, _, _, _, _, e, _⟩ => by rw [e]; rfl) fun cdv A outer s H vs Q E hr h => ?_
  obtain ⟨a, dx, ls, ll, r, u, v, S, L, b, e, rfl, ha, ⟨us, hs, as⟩, ⟨ul, hl, al⟩, ne, ⟨tb, rfl, hb⟩, ⟨te, rfl, he⟩, zs, zl, q⟩ := h
  have fc_Shape := T.c_Shape
  have fn_Shape_level := T.n_Shape_level
  have fn_Shape_slanted := T.n_Shape_slanted
  refine ⟨_, (pss_cons (ps_set (i := 3) sc_Shape_put_side.nd rfl (Or.inl rfl) (pe_op op_sub (pe_ix (kx_ixt (K := K) rfl) (pv 2) pe_int (fun _ _ => rfl)) (pe_ix (kx_ixt (K := K) rfl) (pv 1) pe_int (fun _ _ => rfl))))
      (pss_cons (ps_set (i := 4) sc_Shape_put_side.nd rfl (Or.inl rfl) (pe_op op_sub (pe_ix (kx_ixt (K := K) rfl) (pv 2) pe_int (fun _ _ => rfl)) (pe_ix (kx_ixt (K := K) rfl) (pv 1) pe_int (fun _ _ => rfl))))
      (pss_one (ps_if (pt_cmpR op_gt (pv 4) pe_int (nomark _)) (pss_one (ps_expr (kx_bm (K := K) rfl PySem.F.plainAttrs_list PySem.F.slot_list_append PySem.F.type_list_append mt_append (kx_fld (K := K) rfl (pv 0) rfl) (pa_cons (pe_tup (pa_cons (pe_ix (kx_ixt (K := K) rfl) (pv 1) pe_int (fun _ _ => rfl)) (pa_cons (pe_ix (kx_ixt (K := K) rfl) (pv 1) pe_int (fun _ _ => rfl)) (pa_cons (pv 3) (pa_cons (pv 4) (pa_cons pe_int pa_nil)))))) pa_nil)))) (pss_one (ps_if (pt_cmpR op_lt (pv 4) pe_int (nomark _)) (pss_one (ps_expr (kx_bm (K := K) rfl PySem.F.plainAttrs_list PySem.F.slot_list_append PySem.F.type_list_append mt_append (kx_fld (K := K) rfl (pv 0) rfl) (pa_cons (pe_tup (pa_cons (pe_ix (kx_ixt (K := K) rfl) (pv 2) pe_int (fun _ _ => rfl)) (pa_cons (pe_ix (kx_ixt (K := K) rfl) (pv 2) pe_int (fun _ _ => rfl)) (pa_cons (pe_un un_neg (pv 3)) (pa_cons (pe_un un_neg (pv 4)) (pa_cons (pe_un un_neg pe_int) pa_nil)))))) pa_nil)))) (pss_one (ps_expr (kx_bm (K := K) rfl PySem.F.plainAttrs_list PySem.F.slot_list_append PySem.F.type_list_append mt_append (kx_fld (K := K) rfl (pv 0) rfl) (pa_cons (pe_tup (pa_cons (pe_callB (call_min2 rfl) (by rfl) T.z_min (by decide +kernel) (pa_cons (pe_ix (kx_ixt (K := K) rfl) (pv 1) pe_int (fun _ _ => rfl)) (pa_cons (pe_ix (kx_ixt (K := K) rfl) (pv 2) pe_int (fun _ _ => rfl)) pa_nil))) (pa_cons (pe_callB (call_max2 rfl) (by rfl) T.z_max (by decide +kernel) (pa_cons (pe_ix (kx_ixt (K := K) rfl) (pv 1) pe_int (fun _ _ => rfl)) (pa_cons (pe_ix (kx_ixt (K := K) rfl) (pv 2) pe_int (fun _ _ => rfl)) pa_nil))) (pa_cons (pe_ix (kx_ixt (K := K) rfl) (pv 1) pe_int (fun _ _ => rfl)) pa_nil)))) pa_nil)))))))))), ?_⟩
  have z1 := as.1
  have z2 := al.1
  have w1 : us.length < sizeLine := szl (by omega)
  have w2 : ul.length < sizeLine := szl (by omega)
  have finS : ∀ (t : Addr) (x : Sl), H t = none → slantOf (b, e) = some x → levelOf (b, e) = none →
      Q .non (upd (upd H t (.tup [.int x.tx, .int x.ty, .int x.ac, .int x.fa, .int x.tn])) ls (.lst (us ++ [.ref t]))) := by
    intro t x ht e1 e2
    have sm := Same.new (o := .tup [.int x.tx, .int x.ty, .int x.ac, .int x.fa, .int x.tn]) ht
    have h1 : ls ≠ t := ne_of_none hs ht
    have h2 := sm _ _ hs
    have h3 : (upd H t (.tup [.int x.tx, .int x.ty, .int x.ac, .int x.fa, .int x.tn])) t = _ := upd_same
    refine q _ ((Off.of sm).trans (Off.at_ (by simp))) ?_ ?_
    · rw [e1]
      refine ⟨_, upd_same, All.snoc (as.imp fun v y hv => (hv.mono sm).store h2) ⟨t, rfl, ?_⟩⟩
      rw [upd_ne (Ne.symm h1), h3]
      rfl
    · rw [e2]
      refine ⟨ul, by rw [upd_ne (Ne.symm ne)]; exact sm _ _ hl, ?_⟩
      rw [show L ++ (none : Option Lv).toList = L by simp]
      exact al.imp fun v y hv => (hv.mono sm).store h2
  have finL : ∀ (t : Addr) (x : Lv), H t = none → slantOf (b, e) = none → levelOf (b, e) = some x →
      Q .non (upd (upd H t (.tup [.int x.l, .int x.r, .int x.h])) ll (.lst (ul ++ [.ref t]))) := by
    intro t x ht e1 e2
    have sm := Same.new (o := .tup [.int x.l, .int x.r, .int x.h]) ht
    have h1 : ll ≠ t := ne_of_none hl ht
    have h2 := sm _ _ hl
    have h3 : (upd H t (.tup [.int x.l, .int x.r, .int x.h])) t = _ := upd_same
    refine q _ ((Off.of sm).trans (Off.at_ (by simp))) ?_ ?_
    · rw [e1]
      refine ⟨us, by rw [upd_ne ne]; exact sm _ _ hs, ?_⟩
      rw [show S ++ (none : Option Sl).toList = S by simp]
      exact as.imp fun v y hv => (hv.mono sm).store h2
    · rw [e2]
      refine ⟨_, upd_same, All.snoc (al.imp fun v y hv => (hv.mono sm).store h2) ⟨t, rfl, ?_⟩⟩
      rw [upd_ne (Ne.symm h1), h3]
      rfl
  have mx : ∀ a b : Int, (if b > a then b else a) = max a b := fun a b => by split <;> omega
  have mn : ∀ a b : Int, (if b < a then b else a) = min a b := fun a b => by split <;> omega
  walk_at "go"
  refine ite2 (fun c => ?_) (fun c1 => ?_)
  · have c1 : 0 < e.2 - b.2 := ddec c
    walk_at "go"
    intro t ht
    walk_at "go"
    exact finS t ⟨b.1, b.2, e.1 - b.1, e.2 - b.2, 1⟩ ht (if_pos c1) (if_pos c1)
  have c1 : ¬ 0 < e.2 - b.2 := dnot c1
  walk_at "go"
  refine ite2 (fun c => ?_) (fun c2 => ?_)
  · have c2 : e.2 - b.2 < 0 := ddec c
    walk_at "go"
    intro t ht
    walk_at "go"
    exact finS t ⟨e.1, e.2, -(e.1 - b.1), -(e.2 - b.2), -1⟩ ht ((if_neg c1).trans (if_pos c2)) ((if_neg c1).trans (if_pos c2))
  · have c2 : ¬ e.2 - b.2 < 0 := dnot c2
    walk_at "go"
    intro t ht
    walk_at "go"
    have f := finL t ⟨min b.1 e.1, max b.1 e.1, b.2⟩ ht ((if_neg c1).trans (if_neg c2)) ((if_neg c1).trans (if_neg c2))
    rw [← mx, ← mn] at f
    exact f
theorem conts_sz : ∀ (l : List Wrvdot.Piece) (acc : List (List Vd.Pt)) (n : Nat), acc.length ≤ n → (∀ c ∈ acc, c.length ≤ n) → (l.foldl stepC acc).length ≤ n + l.length ∧ ∀ c ∈ l.foldl stepC acc, c.length ≤ n + l.length
  | [], acc, n, h1, h2 => ⟨h1, h2⟩
  | p :: r, acc, n, h1, h2 => by
    have k : (stepC acc p).length ≤ n + 1 ∧ ∀ c ∈ stepC acc p, c.length ≤ n + 1 := by
      unfold stepC
      split
      · refine ⟨by simp; omega, fun c hc => ?_⟩
        rcases List.mem_append.mp hc with m | m
        · have := h2 c m
          omega
        · rw [List.mem_singleton.mp m]
          exact Nat.le_add_left 1 n
      · refine ⟨by simp; omega, fun c hc => ?_⟩
        rcases List.mem_append.mp hc with m | m
        · have := h2 c (List.dropLast_subset _ m)
          omega
        · rw [List.mem_singleton.mp m, List.length_append]
          have : (acc.getLastD []).length ≤ n := by
            cases acc with
            | nil => exact Nat.zero_le _
            | cons a as => exact h2 _ (by
              have e : (a :: as).getLastD [] = (a :: as).getLast (by simp) := by rw [List.getLastD_eq_getLast?, List.getLast?_eq_some_getLast (by simp)] <;> rfl
              rw [e]
              exact List.getLast_mem _)
          exact Nat.add_le_add_right this 1
    have := conts_sz r (stepC acc p) (n + 1) k.1 k.2
    rw [List.foldl_cons, List.length_cons]
    exact ⟨by have := this.1; omega, fun c hc => by have := this.2 c hc; omega⟩
/-! ### contours_of -/
/-- the lists of a path's contours, each of its own: cs[k] at as[k] -/
def ContsAt (H : Hp) (as : List Addr) (cs : List (List Vd.Pt)) : Prop := as.Nodup ∧ as.length = cs.length ∧ ∀ (k : Nat) a c, as[k]? = some a → cs[k]? = some c → ListOf PtAt H a c
theorem ContsAt.mono {H H' : Hp} {as : List Addr} {cs : List (List Vd.Pt)} (s : Same H H') (h : ContsAt H as cs) : ContsAt H' as cs :=
  ⟨h.1, h.2.1, fun k a c ha hc => let ⟨vs, e, al⟩ := h.2.2 k a c ha hc; ⟨vs, s _ _ e, al.imp fun v x hv => hv.mono s⟩⟩
theorem ContsAt.ref {H : Hp} {as : List Addr} {cs : List (List Vd.Pt)} {a : Addr} (h : ContsAt H as cs) (m : a ∈ as) : ∃ vs, H a = some (.lst vs) := by
  obtain ⟨k, hk, e⟩ := List.mem_iff_getElem.mp m
  have h2 : k < cs.length := by rw [← h.2.1]; exact hk
  obtain ⟨vs, e1, _⟩ := h.2.2 k a cs[k] (by rw [List.getElem?_eq_getElem hk, e]) (List.getElem?_eq_getElem h2)
  exact ⟨vs, e1⟩
/-- another list changes -/
theorem ContsAt.other {H : Hp} {as : List Addr} {cs : List (List Vd.Pt)} {p : Addr} {xs ys : List V} (hp : H p = some (.lst xs)) (n : p ∉ as) (h : ContsAt H as cs) : ContsAt (upd H p (.lst ys)) as cs :=
  ⟨h.1, h.2.1, fun k a c ha hc => let ⟨vs, e, al⟩ := h.2.2 k a c ha hc
    ⟨vs, by rw [upd_ne (fun z => n (by rw [← z]; exact List.mem_of_getElem? ha))]; exact e, al.imp fun v x hv => hv.store hp⟩⟩
/-- a new contour -/
theorem ContsAt.begin {H : Hp} {as : List Addr} {cs : List (List Vd.Pt)} {N : Addr} (hN : H N = none) (h : ContsAt H as cs) : ContsAt (upd H N (.lst [])) (as ++ [N]) (cs ++ [[]]) := by
  have nm : N ∉ as := fun m => by
    obtain ⟨vs, e⟩ := h.ref m
    rw [hN] at e
    cases e
  have h' := h.mono (Same.new (o := .lst []) hN)
  refine ⟨by rw [List.nodup_append]; exact ⟨h.1, by simp, fun a ha b hb => by simp at hb; rw [hb]; exact fun e => nm (e ▸ ha)⟩, by simp [h.2.1], fun k a c ha hc => ?_⟩
  by_cases z : k < as.length
  · rw [List.getElem?_append_left z] at ha
    rw [List.getElem?_append_left (by rw [← h.2.1]; exact z)] at hc
    exact h'.2.2 k a c ha hc
  · rw [List.getElem?_append_right (by omega)] at ha
    rw [List.getElem?_append_right (by rw [← h.2.1]; omega), ← h.2.1] at hc
    generalize k - as.length = j at ha hc
    cases j with
    | zero =>
      obtain rfl : N = a := by simpa using ha
      obtain rfl : [] = c := by simpa using hc
      exact ⟨[], upd_same, All.nil⟩
    | succ j => simp at ha
/-- the last contour, a place more -/
theorem ContsAt.more {H : Hp} {as : List Addr} {cs : List (List Vd.Pt)} {A : Addr} {vs : List V} {v : V} {x : Vd.Pt} (h : ContsAt H as cs) (hA : as[as.length - 1]? = some A) (hv : H A = some (.lst vs)) (px : PtAt H v x) :
    ContsAt (upd H A (.lst (vs ++ [v]))) as (cs.dropLast ++ [cs.getLastD [] ++ [x]]) := by
  have l0 : as.length - 1 < as.length := (List.getElem?_eq_some_iff.mp hA).1
  have lc := h.2.1
  refine ⟨h.1, by simp; omega, fun k a c ha hc => ?_⟩
  have hk : k < as.length := (List.getElem?_eq_some_iff.mp ha).1
  by_cases z : k < as.length - 1
  · rw [List.getElem?_append_left (by simp; omega), List.getElem?_dropLast, if_pos (by omega)] at hc
    obtain ⟨ws, e, al⟩ := h.2.2 k a c ha hc
    have n : a ≠ A := fun e2 => by
      subst e2
      have := nd_ix h.1 ha hA
      omega
    exact ⟨ws, by rw [upd_ne n]; exact e, al.imp fun v y hy => hy.store hv⟩
  · have e : k = as.length - 1 := by omega
    subst e
    rw [hA] at ha
    cases ha
    have e2 : (cs.dropLast ++ [cs.getLastD [] ++ [x]])[as.length - 1]? = some (cs.getLastD [] ++ [x]) := by
      rw [List.getElem?_append_right (by simp; omega)]
      simp [lc]
    rw [e2] at hc
    cases hc
    have e3 : cs[as.length - 1]? = some (cs.getLastD []) := by
      rw [lc, ← List.getLast?_eq_getElem?]
      cases cs with
      | nil => have : as.length = 0 := lc; omega
      | cons y ys => simp [List.getLast?_cons]
    obtain ⟨ws, e, al⟩ := h.2.2 _ A _ hA e3
    rw [hv] at e
    cases e
    exact ⟨_, upd_same, All.snoc (al.imp fun v y hy => hy.store hv) (px.store hv)⟩
theorem sc_contours_of : FnScope ["path", "contours", "begins", "x", "y"] ["path"] (defScope s_contours_of) := ⟨rfl, rfl, rfl, by decide +kernel, rfl, by decide +kernel, by decide +kernel⟩
theorem bd_contours_of : BindAll "contours_of" "contours_of" s_contours_of ["path"] := fun _ _ _ _ _ _ us hl => match us, hl with | [_], _ => rfl
theorem ok_contours_of (T : Txt K mg) : Ok P w K mg base CX0 1 (He.fAd K ("contours_of", none)) ["path"] (fun vs H Q _ => ∃ (p : Addr) (l : List Wrvdot.Piece), vs = [.ref p] ∧ ListOf PcAt H p l ∧ l.length ≤ 300 ∧ Wrvdot.pathOk l = true ∧
    ∀ H' C as, Same H H' → H C = none → (∀ a ∈ as, H a = none) → H' C = some (.lst (as.map V.ref)) → ContsAt H' as (contsOf l) → Q (.ref C) H') := by
  refine mk_ok T.f_contours_of sc_contours_of bd_contours_of (fun _ _ _ _ ⟨_, _, e, _⟩ => by rw [e]; rfl) fun cdv A outer s H vs Q E hr h => ?_
  obtain ⟨p, l, rfl, ⟨us, hp, au⟩, hz, hok, q⟩ := h
  refine ⟨_, (pss_cons (ps_set (i := 1) sc_contours_of.nd rfl (Or.inl rfl) (pe_lst pa_nil))
      (pss_cons (ps_for PassesOwn.never rfl (kx_list (K := K) rfl (pv 0)) (kx_tup (K := K) (n := 3) rfl rfl (pgs_cons (pg_name (i := 2) sc_contours_of.nd rfl (Or.inl rfl)) (pgs_cons (pg_name (i := 3) sc_contours_of.nd rfl (Or.inl rfl)) (pgs_cons (pg_name (i := 4) sc_contours_of.nd rfl (Or.inl rfl)) pgs_nil)))) (Evl.pss_cut (ps_if (pt_cmpR op_eq (pv 2) pe_int (nomark _)) (pss_one (ps_expr (kx_bm (K := K) rfl PySem.F.plainAttrs_list PySem.F.slot_list_append PySem.F.type_list_append mt_append (pv 1) (pa_cons (pe_lst pa_nil) pa_nil)))) pss_nil)
      (pss_one (ps_expr (kx_bm (K := K) rfl PySem.F.plainAttrs_list PySem.F.slot_list_append PySem.F.type_list_append mt_append (pe_ix (kx_ixl (K := K) rfl) (pv 1) (pe_un un_neg pe_int) (fun _ _ => rfl)) (pa_cons (pe_tup (pa_cons (pv 3) (pa_cons (pv 4) pa_nil))) pa_nil))))))
      (pss_one (ps_ret (pv 1))))), ?_⟩
  walk_at "go"
  intro C hC
  have s1 : Same H (upd H C (.lst [])) := Same.new hC
  have hC1 : (upd H C (.lst [])) C = some (.lst []) := upd_same
  generalize upd H C (.lst []) = H1 at s1 hC1
  walk_at "go"
  refine ⟨⟨_, SqL.of (s1 _ _ hp)⟩, for_list (xs := us) (fun i σ H' => Same H H' ∧ ∃ as b x y, σ = [some (.ref p), some (.ref C), b, x, y] ∧ H' C = some (.lst (as.map V.ref)) ∧ (∀ a ∈ as, H a = none) ∧ C ∉ as ∧
    ContsAt H' as (contsOf (l.take i)) ∧ (i = 0 ∨ contsOf (l.take i) ≠ []))
    ⟨s1, [], none, none, none, rfl, hC1, fun a h => absurd h (by simp), by simp, ⟨List.nodup_nil, rfl, fun k a c h => by simp at h⟩, .inl rfl⟩ (fun i σ H' _ h => SqL.of (h.1 _ _ hp)) ?_ ?_⟩
  · rintro i v σ H' hv ⟨s2, as, b0, x0, y0, rfl, hC2, fr, nC, ca, ne⟩
    obtain ⟨pc, e1, tp, rfl, e2⟩ := au.get hv
    have e3 := s2 _ _ e2
    have step : contsOf (l.take (i + 1)) = stepC (contsOf (l.take i)) pc := by
      unfold contsOf
      rw [List.take_add_one, e1, Option.toList_some, List.foldl_append]
      rfl
    refine ⟨tp, _, rfl, SqT.of e3, rfl, ?_⟩
    walk_at "go"
    have hz2 : us.length ≤ 300 := by rw [au.1]; exact hz
    have li : i < us.length := (List.getElem?_eq_some_iff.mp hv).1
    refine ⟨fun σ2 H2 => Same H H2 ∧ ∃ as1 acc1, σ2 = [some (.ref p), some (.ref C), some (.int (if pc.begins = true then 1 else 0)), some (.int pc.at_.1), some (.int pc.at_.2)] ∧ H2 C = some (.lst (as1.map V.ref)) ∧
      (∀ a ∈ as1, H a = none) ∧ C ∉ as1 ∧ ContsAt H2 as1 acc1 ∧ acc1 ≠ [] ∧ contsOf (l.take (i + 1)) = acc1.dropLast ++ [acc1.getLastD [] ++ [pc.at_]], ?_, ?_⟩
    · walk_at "go"
      have szs := conts_sz (l.take i) [] 0 (Nat.le_refl _) (fun c h => absurd h (by simp))
      have sz1 : (as.map V.ref).length ≤ 300 := by
        rw [List.length_map, ca.2.1]
        have := szs.1
        unfold contsOf
        rw [List.length_take] at this
        omega
      have sz2 : (as.map V.ref).length < sizeLine := szl (by omega)
      cases pb : pc.begins with
      | true =>
        walk_at "go"
        intro N hN
        walk_at "go"
        have s3 : Same H' (upd H' N (.lst [])) := Same.new hN
        have hC4 := s3 _ _ hC2
        have hN4 : (upd H' N (.lst [])) N = some (.lst []) := upd_same
        have ca4 := ca.begin hN
        have CN : C ≠ N := ne_of_none hC2 hN
        generalize upd H' N (.lst []) = H4 at s3 hC4 hN4 ca4
        refine ⟨Same.mut (s2.trans s3) hC, as ++ [N], contsOf (l.take i) ++ [[]], rfl, ?_, ?_, ?_, ?_, by simp, ?_⟩
        · rw [upd_same, List.map_append] <;> rfl
        · intro a ha
          rcases List.mem_append.mp ha with m | m
          · exact fr a m
          · rw [List.mem_singleton.mp m]
            exact s2.free hN
        · exact fun m => (List.mem_append.mp m).elim nC (fun m => CN (List.mem_singleton.mp m))
        · exact ca4.other hC4 (fun m => (List.mem_append.mp m).elim nC (fun m => CN (List.mem_singleton.mp m)))
        · rw [step]
          unfold stepC
          rw [if_pos pb]
          simp
      | false =>
        walk_at "go"
        refine ⟨as, contsOf (l.take i), rfl, hC2, fr, nC, ca, ?_, ?_⟩
        · rcases ne with rfl | ne
          · exfalso
            cases l with
            | nil => simp at e1
            | cons z l' =>
              obtain rfl : z = pc := by simpa using e1
              replace hok : (z.begins && (z :: l').all fun p => Wrvdot.placeOk p.at_) = true := hok
              rw [pb] at hok
              exact absurd hok (by simp)
          · exact ne
        · rw [step]
          unfold stepC
          rw [if_neg (by rw [pb]; decide)]
    · rintro σ2 H2 ⟨s3, as1, acc1, rfl, hC3, fr1, nC1, ca1, ne1, e4⟩
      have szs := conts_sz (l.take (i + 1)) [] 0 (Nat.le_refl _) (fun c h => absurd h (by simp))
      have la : as1.length ≠ 0 := fun z => ne1 (List.eq_nil_of_length_eq_zero (by rw [← ca1.2.1]; exact z))
      have lt : as1.length - 1 < as1.length := by omega
      obtain ⟨A, hA⟩ : ∃ A, as1[as1.length - 1]? = some A := ⟨_, List.getElem?_eq_getElem lt⟩
      obtain ⟨vs, hvs⟩ := ca1.ref (List.mem_of_getElem? hA)
      have lvs : vs.length ≤ 300 := by
        have lt2 : acc1.length - 1 < acc1.length := by rw [← ca1.2.1]; exact lt
        obtain ⟨ws, w1, w2⟩ := ca1.2.2 _ A acc1[acc1.length - 1] hA (by rw [ca1.2.1]; exact List.getElem?_eq_getElem lt2)
        rw [hvs] at w1
        cases w1
        have eL : acc1[acc1.length - 1] = acc1.getLastD [] := by
          rw [List.getLastD_eq_getLast?, List.getLast?_eq_getElem?, List.getElem?_eq_getElem lt2] <;> rfl
        have := szs.2 (acc1.getLastD [] ++ [pc.at_]) (by show _ ∈ contsOf _; rw [e4]; simp)
        rw [w2.1, eL]
        rw [List.length_append, List.length_take] at this
        omega
      have szA : vs.length < sizeLine := szl (by omega)
      walk_at "go"
      refine ⟨_, _, _, _, rfl, rfl, SqL.of hC3, at_last1 (v := .ref A) (by rw [List.length_map, List.getElem?_map, hA] <;> rfl), ?_⟩
      walk_at "go"
      intro t ht
      walk_at "go"
      have s4 := Same.new (o := .tup [.int pc.at_.1, .int pc.at_.2]) ht
      have AC : A ≠ C := fun z => nC1 (z ▸ List.mem_of_getElem? hA)
      refine ⟨Same.mut (s3.trans s4) (fr1 A (List.mem_of_getElem? hA)), as1, _, _, _, rfl, ?_, fr1, nC1, ?_, .inr ?_⟩
      · rw [upd_ne (Ne.symm AC)]
        exact s4 _ _ hC3
      · rw [e4]
        exact (ca1.mono s4).more hA (s4 _ _ hvs) ⟨t, rfl, upd_same⟩
      · rw [e4]
        simp
  · rintro σ H' ⟨s2, as, b0, x0, y0, rfl, hC2, fr, nC, ca, ne⟩
    walk_at "go"
    rw [au.1, List.take_length] at ca
    exact q H' C as s2 hC fr hC2 ca
end
end Pd
end
section
set_option Elab.async false
set_option linter.all false
set_option maxRecDepth 100000
set_option maxHeartbeats 4000000
namespace Pd
open PySem PySem.Spec PyProof.Rows L2
local macro_rules | `(tactic| walk_at "at") => `(tactic| first
  | assumption
  | exact upd_same
  | (refine (show Same _ _ by assumption) _ _ ?_; walk_at "at")
  | (refine (show But _ _ _ by assumption) _ _ (by assumption) ?_; assumption)
  | (refine Same.new (by assumption) _ _ ?_; walk_at "at")
  | (refine (upd_ne (ne_of (by assumption) (by assumption) (by intro z; cases z))).trans ?_; walk_at "at"))
local macro_rules | `(tactic| walk_at "go") => `(tactic| repeat (first
  | refine ⟨_, rfl, ?_⟩
  | refine ⟨_, _, rfl, rfl, ?_⟩
  | refine ⟨_, _, rfl, ?_⟩
  | refine ⟨_, _, _, rfl, ?_⟩
  | refine And.intro rfl ?_
  | refine And.intro (Or.inl ⟨by decide, by decide⟩) ?_
  | refine And.intro (Or.inr ⟨by decide, by decide⟩) ?_
  | refine And.intro ⟨by decide, by decide⟩ ?_
  | refine And.intro (Or.inl ⟨by omega, by omega⟩) ?_
  | refine And.intro (Or.inr ⟨by omega, by omega⟩) ?_
  | refine And.intro ⟨by omega, by omega⟩ ?_
  | refine And.intro trivial ?_
  | refine And.intro (by omega) ?_
  | refine And.intro (sz (Nat.le_of_ble_eq_true rfl)) ?_
  | refine And.intro (Or.inl ⟨rfl, _, SqL.of (by walk_at "at")⟩) ?_
  | refine ⟨_, _, _, _, rfl, rfl, SqT.of (by walk_at "at"), (by rfl), ?_⟩
  | refine ⟨_, _, _, _, rfl, rfl, SqL.of (by walk_at "at"), (by rfl), ?_⟩
  | refine ⟨_, _, _, _, _, rfl, (by walk_at "at"), (by assumption), (by assumption), Lk.h, ?_⟩
  | refine ⟨_, _, _, rfl, rfl, (by walk_at "at"), ?_⟩
  | refine ⟨_, _, _, rfl, (by walk_at "at"), LkN.h, ?_⟩
  | refine ⟨_, _, _, _, rfl, (by walk_at "at"), (by assumption), (by assumption), (by apply few_lt; decide), ?_⟩
  | refine ⟨_, _, (by walk_at "at"), (by apply few_lt; decide), ?_⟩
  | refine ⟨_, _, rfl, Or.inl (SqL.of (by walk_at "at")), ?_⟩))
theorem Off.seq {K : PySem.W.Frag} {H H' : Hp} {L : List Addr} {a : Addr} {xs : List V} (b : Off L H H') (hg : a ∉ L) (h : SqL K H a xs) : SqL K H' a xs := by
  rcases h with (h | ⟨o, h⟩) | h
  · exact .inl (.inl (b _ _ hg h))
  · exact .inl (.inr ⟨o, b _ _ hg h⟩)
  · exact .inr h
theorem Off.free {L : List Addr} {H H' : Hp} {a : Addr} (b : Off L H H') (n : a ∉ L) (h : H' a = none) : H a = none := by
  cases e : H a with
  | none => rfl
  | some o =>
    rw [b _ _ n e] at h
    cases h
theorem Off.but {L : List Addr} {p : Addr} {H H1 H2 : Hp} (b : But p H H1) (f : ∀ a ∈ L, H a = none) (o : Off L H1 H2) : But p H H2 := fun a u n e => o a u (fun m => by rw [f a m] at e; cases e) (b a u n e)
theorem slants_app (a b : List Vd.Side) : slants (a ++ b) = slants a ++ slants b := List.filterMap_append
theorem levels_app (a b : List Vd.Side) : levels (a ++ b) = levels a ++ levels b := List.filterMap_append
theorem slants_one (s : Vd.Side) : slants [s] = (slantOf s).toList := by
  unfold slants
  rw [List.filterMap_cons]
  cases slantOf s <;> rfl
theorem levels_one (s : Vd.Side) : levels [s] = (levelOf s).toList := by
  unfold levels
  rw [List.filterMap_cons]
  cases levelOf s <;> rfl
theorem slants_len (a : List Vd.Side) : (slants a).length ≤ a.length := List.length_filterMap_le _ _
theorem levels_len (a : List Vd.Side) : (levels a).length ≤ a.length := List.length_filterMap_le _ _
def ruleI (s : Vd.Shape) : Int := if s.evenOdd = true then 1 else 0
def NearP (p : Vd.Pt) : Prop := (-1048576 ≤ p.1 ∧ p.1 ≤ 1048576) ∧ (-1048576 ≤ p.2 ∧ p.2 ≤ 1048576)
theorem near_ok {p : Vd.Pt} (h : Wrvdot.placeOk p = true) : NearP p := by
  unfold Wrvdot.placeOk Wrvdot.FAR at h
  rw [Bool.and_eq_true, Bool.and_eq_true, Bool.and_eq_true, decide_eq_true_iff, decide_eq_true_iff, decide_eq_true_iff, decide_eq_true_iff] at h
  exact ⟨⟨h.1, h.2.1⟩, h.2.2.1, h.2.2.2⟩
theorem near_from : ∀ (l : List Wrvdot.Piece) (first now : Vd.Pt), NearP first → NearP now → (∀ p ∈ l, NearP p.at_) → ∀ z ∈ Wrvdot.sidesFrom first now l, NearP z.1 ∧ NearP z.2
  | [], first, now, h1, h2, h3, z, hz => by
    rw [Wrvdot.sidesFrom] at hz
    rw [List.mem_singleton.mp hz]
    exact ⟨h2, h1⟩
  | p :: r, first, now, h1, h2, h3, z, hz => by
    have hp := h3 p (List.mem_cons_self ..)
    have hr := fun q m => h3 q (List.mem_cons_of_mem _ m)
    rw [Wrvdot.sidesFrom] at hz
    split at hz
    · rcases List.mem_cons.mp hz with e | m
      · rw [e]; exact ⟨h2, h1⟩
      · exact near_from r _ _ hp hp hr z m
    · rcases List.mem_cons.mp hz with e | m
      · rw [e]; exact ⟨h2, hp⟩
      · exact near_from r _ _ h1 hp hr z m
theorem near_shape {rule : Nat} {l : List Wrvdot.Piece} (h : Wrvdot.pathOk l = true) : ∀ z ∈ (Wrvdot.shapeOf rule l).sides, NearP z.1 ∧ NearP z.2 := by
  cases l with
  | nil => cases h
  | cons p r =>
    replace h : (p.begins && (p :: r).all fun p => Wrvdot.placeOk p.at_) = true := h
    have h2 := List.all_eq_true.mp (Bool.and_eq_true_iff.mp h).2
    have hp := near_ok (h2 p (List.mem_cons_self ..))
    exact near_from r p.at_ p.at_ hp hp fun q m => near_ok (h2 q (List.mem_cons_of_mem _ m))
/-- a shape's object -/
def ShapeW (K : PySem.W.Frag) (H : Hp) (p ls ll : Addr) (s : Vd.Shape) : Prop := (∃ dx, H p = some (.ins (He.ga K "Shape") dx (fl_Shape (.int (ruleI s)) (.ref ls) (.ref ll)))) ∧ ListOf SlAt H ls (slants s.sides) ∧ ListOf LvAt H ll (levels s.sides) ∧ s.sides.length ≤ 400 ∧ ∀ z ∈ s.sides, NearP z.1 ∧ NearP z.2
def ShapeAt (K : PySem.W.Frag) (H : Hp) (p : Addr) (s : Vd.Shape) : Prop := ∃ dx ls ll, H p = some (.ins (He.ga K "Shape") dx (fl_Shape (.int (ruleI s)) (.ref ls) (.ref ll))) ∧ ListOf SlAt H ls (slants s.sides) ∧ ListOf LvAt H ll (levels s.sides) ∧ s.sides.length ≤ 400 ∧ ∀ z ∈ s.sides, NearP z.1 ∧ NearP z.2
theorem ListOf.mono {α : Type} {R : Hp → V → α → Prop} (m : ∀ H H' v x, Same H H' → R H v x → R H' v x) {H H' : Hp} {p : Addr} {xs : List α} (s : Same H H') (h : ListOf R H p xs) : ListOf R H' p xs :=
  let ⟨vs, e, a⟩ := h
  ⟨vs, s _ _ e, a.imp fun v x r => m H H' v x s r⟩
theorem ShapeAt.mono {K : PySem.W.Frag} {H H' : Hp} {p : Addr} {s : Vd.Shape} (e : Same H H') (h : ShapeAt K H p s) : ShapeAt K H' p s :=
  let ⟨dx, ls, ll, a, b, c, d⟩ := h
  ⟨dx, ls, ll, e _ _ a, b.mono (R := SlAt) (fun _ _ _ _ e h => TupI.mono e h) e, c.mono (R := LvAt) (fun _ _ _ _ e h => TupI.mono e h) e, d⟩
theorem closed_len (c : List Vd.Pt) : (closed c).length = c.length := by
  unfold closed
  rw [List.length_zip, List.length_append, List.length_drop, List.length_take]
  omega
theorem conts_all : ∀ (l : List Wrvdot.Piece) (acc : List (List Vd.Pt)), ((l.foldl stepC acc).map List.length).sum = (acc.map List.length).sum + l.length
  | [], acc => rfl
  | p :: r, acc => by
    rw [List.foldl_cons, conts_all r, List.length_cons]
    have : ((stepC acc p).map List.length).sum = (acc.map List.length).sum + 1 := by
      unfold stepC
      split
      · simp
      · rcases List.eq_nil_or_concat acc with h | ⟨as, a, h⟩
        · subst h
          simp
        · rw [h]
          simp
          omega
    omega
theorem flat_len : ∀ cs : List (List Vd.Pt), (cs.flatMap closed).length = (cs.map List.length).sum
  | [] => rfl
  | c :: cs => by
    rw [List.flatMap_cons, List.length_append, flat_len cs, closed_len]
    rfl
theorem cutV_from (vs : List V) (k : Nat) : cutV vs (some (k : Int)) none = vs.drop k := by
  unfold cutV
  rw [HT.sIx_nat, HT.sIx_none]
  rcases Nat.le_total k vs.length with h | h
  · rw [Nat.min_eq_left h, List.take_of_length_le (by rw [List.length_drop]; exact Nat.le_refl _)]
  · rw [Nat.min_eq_right h, Nat.sub_self, List.take_zero, List.drop_eq_nil_of_le h]
theorem cutV_to (vs : List V) (k : Nat) : cutV vs none (some (k : Int)) = vs.take k := by
  unfold cutV
  rw [HT.sIx_nat, HT.sIx_none, Nat.sub_zero, List.drop_zero]
  rcases Nat.le_total k vs.length with h | h
  · rw [Nat.min_eq_left h]
  · rw [Nat.min_eq_right h, List.take_of_length_le (Nat.le_refl _), List.take_of_length_le h]
theorem All.rot {α : Type} {R : V → α → Prop} {vs : List V} {xs : List α} (h : All R vs xs) : All R (vs.drop 1 ++ vs.take 1) (xs.drop 1 ++ xs.take 1) := by
  cases vs with
  | nil =>
    cases xs with
    | nil => exact h
    | cons x xs => exact absurd h.1 (by simp)
  | cons v vs =>
    cases xs with
    | nil => exact absurd h.1 (by simp)
    | cons x xs =>
      obtain ⟨a, b⟩ := All.uncons h
      exact b.snoc a
section
variable {P : Program} {w : World} {K : PySem.W.Frag} {mg : Str → Option Value} {base : Heap}
theorem sc_Shape_init : FnScope ["self", "rule", "path", "contour", "begin", "end"] ["self", "rule", "path"] (defScope s_Shape_init) := ⟨rfl, rfl, rfl, by decide +kernel, rfl, by decide +kernel, by decide +kernel⟩
theorem bd_Shape_init : BindAll "__init__" "Shape.__init__" s_Shape_init ["self", "rule", "path"] := fun _ _ _ _ _ _ us hl => match us, hl with | [_, _, _], _ => rfl
theorem ok_Shape_init (T : Txt K mg) : Ok P w K mg base CX0 2 (He.fAd K ("Shape", some "__init__")) ["self", "rule", "path"] (fun vs H Q _ => ∃ (p dx pa : Addr) (rule : Nat) (l : List Wrvdot.Piece), vs = [.ref p, .int (rule : Int), .ref pa] ∧
    H p = some (.ins (He.ga K "Shape") dx []) ∧ ListOf PcAt H pa l ∧ l.length ≤ 300 ∧ Wrvdot.pathOk l = true ∧ rule ≤ 1 ∧ ∀ H' ls ll, But p H H' → H ls = none → H ll = none → ShapeW K H' p ls ll (Wrvdot.shapeOf rule l) → Q .non H') := by
  refine mk_ok T.f_Shape_init sc_Shape_init bd_Shape_init (fun _ _ _ _ ⟨_, _, _, _, _, e, _⟩ => by rw [e]; rfl) fun cdv A outer s H vs Q E hr h => ?_
  obtain ⟨p, dx, pa, rule, l, rfl, hp, ⟨us, hpa, au⟩, hz, hok, hru, q⟩ := h
  have fc_Shape := T.c_Shape
  have fn_Shape_level := T.n_Shape_level
  have fn_Shape_rule := T.n_Shape_rule
  have fn_Shape_slanted := T.n_Shape_slanted
  refine ⟨_, (pss_cons (kx_sfld (K := K) rfl (pv 0) (pv 1) rfl)
      (pss_cons (kx_sfld (K := K) rfl (pv 0) (pe_lst pa_nil) rfl)
      (pss_cons (kx_sfld (K := K) rfl (pv 0) (pe_lst pa_nil) rfl)
      (pss_one (ps_for PassesOwn.never rfl (kx_list (K := K) rfl (c_call (ok_contours_of (K := K) T) hr (by decide) rfl T.g_contours_of pass0 (pa_cons (pv 2) pa_nil))) (pg_name (i := 3) sc_Shape_init.nd rfl (Or.inl rfl)) (pss_one (ps_for PassesOwn.never rfl (kx_zip (K := K) rfl (by rfl) T.z_zip (pa_cons (pv 3) (pa_cons (pe_op op_cat (pe_slice (kx_sll (K := K) rfl) (pv 3) (po_some pe_int) po_none) (pe_slice (kx_sll (K := K) rfl) (pv 3) po_none (po_some pe_int))) pa_nil))) (kx_tup (K := K) (n := 2) rfl rfl (pgs_cons (pg_name (i := 4) sc_Shape_init.nd rfl (Or.inl rfl)) (pgs_cons (pg_name (i := 5) sc_Shape_init.nd rfl (Or.inl rfl)) pgs_nil))) (pss_one (ps_expr (c_meth (ok_Shape_put_side (K := K) T) hr (by decide) T.c_Shape T.m_Shape_put_side pass0 (pv 0) (pa_cons (pv 4) (pa_cons (pv 5) pa_nil)))))))))))), ?_⟩
  have b1 : But p H (upd H p (.ins (He.ga K "Shape") dx (putF "rule" (.int rule) []))) := But.at_
  have p1 : (upd H p (.ins (He.ga K "Shape") dx (putF "rule" (.int rule) []))) p = some (.ins (He.ga K "Shape") dx (putF "rule" (.int rule) [])) := upd_same
  walk_at "go"
  generalize upd H p (.ins (He.ga K "Shape") dx (putF "rule" (.int rule) [])) = H1 at b1 p1
  intro ls hls
  walk_at "go"
  have e1 : p ≠ ls := ne_of_none p1 hls
  have b2 := (b1.trans (But.of (Same.new (o := .lst []) hls))).trans (But.at_ (o := .ins (He.ga K "Shape") dx (putF "slanted" (.ref ls) (putF "rule" (.int rule) []))))
  have l2 : (upd (upd H1 ls (.lst [])) p (.ins (He.ga K "Shape") dx (putF "slanted" (.ref ls) (putF "rule" (.int rule) [])))) ls = some (.lst []) := by rw [upd_ne (Ne.symm e1), upd_same]
  have p2 : (upd (upd H1 ls (.lst [])) p (.ins (He.ga K "Shape") dx (putF "slanted" (.ref ls) (putF "rule" (.int rule) [])))) p = some (.ins (He.ga K "Shape") dx (putF "slanted" (.ref ls) (putF "rule" (.int rule) []))) := upd_same
  have n1 : H ls = none := by
    cases z : H ls with
    | none => rfl
    | some o =>
      have := b1 _ _ (Ne.symm e1) z
      rw [hls] at this
      cases this
  generalize upd (upd H1 ls (.lst [])) p (.ins (He.ga K "Shape") dx (putF "slanted" (.ref ls) (putF "rule" (.int rule) []))) = H2 at b2 l2 p2
  intro ll hll
  walk_at "go"
  have e2 : p ≠ ll := ne_of_none p2 hll
  have e3 : ls ≠ ll := ne_of_none l2 hll
  have n2 : H ll = none := by
    cases z : H ll with
    | none => rfl
    | some o =>
      have := b2 _ _ (Ne.symm e2) z
      rw [hll] at this
      cases this
  rw [new_Shape]
  have b3 := (b2.trans (But.of (Same.new (o := .lst []) hll))).trans (But.at_ (p := p) (o := .ins (He.ga K "Shape") dx (fl_Shape (.int rule) (.ref ls) (.ref ll))))
  have l3 : (upd (upd H2 ll (.lst [])) p (.ins (He.ga K "Shape") dx (fl_Shape (.int rule) (.ref ls) (.ref ll)))) ls = some (.lst []) := by rw [upd_ne (Ne.symm e1), upd_ne e3, l2]
  have m3 : (upd (upd H2 ll (.lst [])) p (.ins (He.ga K "Shape") dx (fl_Shape (.int rule) (.ref ls) (.ref ll)))) ll = some (.lst []) := by rw [upd_ne (Ne.symm e2), upd_same]
  have p3 : (upd (upd H2 ll (.lst [])) p (.ins (He.ga K "Shape") dx (fl_Shape (.int rule) (.ref ls) (.ref ll)))) p = some (.ins (He.ga K "Shape") dx (fl_Shape (.int rule) (.ref ls) (.ref ll))) := upd_same
  generalize upd (upd H2 ll (.lst [])) p (.ins (He.ga K "Shape") dx (fl_Shape (.int rule) (.ref ls) (.ref ll))) = H3 at b3 l3 m3 p3
  have hpa3 : H3 pa = some (.lst us) := b3 _ _ (ne_of hpa hp (by intro z; cases z)) hpa
  have au3 : All (PcAt H3) us l := au.imp fun v x h => h.but b3 (fun ys e => by rw [hp] at e; cases e)
  refine ⟨pa, l, rfl, ⟨us, hpa3, au3⟩, hz, hok, fun H4 C as s4 hC hA hC4 ca => ?_⟩
  have nC : C ∉ [ls, ll] := by
    intro m
    rcases List.mem_cons.mp m with e | m
    · rw [e, l3] at hC; cases hC
    · rw [List.mem_singleton.mp m, m3] at hC; cases hC
  have nA : ∀ a ∈ as, a ∉ [ls, ll] := by
    intro a ha m
    rcases List.mem_cons.mp m with e | m
    · rw [← e, hA a ha] at l3; cases l3
    · rw [← List.mem_singleton.mp m, hA a ha] at m3; cases m3
  have l4 := s4 _ _ l3
  have m4 := s4 _ _ m3
  have p4 := s4 _ _ p3
  have np : p ∉ [ls, ll] := by
    intro m
    rcases List.mem_cons.mp m with e | m
    · exact e1 e
    · exact e2 (List.mem_singleton.mp m)
  have notT : ∀ q ∈ [ls, ll], ∀ ys, H4 q ≠ some (.tup ys) := by
    intro q m ys e
    rcases List.mem_cons.mp m with z | m
    · rw [z, l4] at e; cases e
    · rw [List.mem_singleton.mp m, m4] at e; cases e
  have tot := flat_len (contsOf l)
  have all_ := conts_all l []
  have tot2 : ((contsOf l).flatMap closed).length = l.length := by
    rw [tot]
    show ((l.foldl stepC []).map List.length).sum = _
    rw [all_]
    simp
  walk_at "go"
  refine ⟨⟨_, SqL.of hC4⟩, for_list (xs := as.map V.ref) (fun i σ H' => (∃ x y z, σ = [some (.ref p), some (.int rule), some (.ref pa), x, y, z]) ∧ Off [ls, ll] H4 H' ∧ ListOf SlAt H' ls (slants (((contsOf l).take i).flatMap closed)) ∧ ListOf LvAt H' ll (levels (((contsOf l).take i).flatMap closed)))
    ⟨⟨none, none, none, rfl⟩, Off.refl _ _, ⟨[], l4, All.nil⟩, ⟨[], m4, All.nil⟩⟩ (fun i σ H' _ h => SqL.of (h.2.1 _ _ nC hC4)) ?_ ?_⟩
  · rintro i v σ H' hv ⟨⟨x0, y0, z0, rfl⟩, o5, ss, sl⟩
    obtain ⟨a, ha, rfl⟩ : ∃ a, as[i]? = some a ∧ v = .ref a := by
      rw [List.getElem?_map] at hv
      obtain ⟨a, h1, h2⟩ := Option.map_eq_some_iff.mp hv
      exact ⟨a, h1, h2.symm⟩
    have li : i < as.length := (List.getElem?_eq_some_iff.mp ha).1
    have lc := ca.2.1
    have hc : (contsOf l)[i]? = some (contsOf l)[i] := List.getElem?_eq_getElem (by omega)
    generalize (contsOf l)[i] = c at hc
    obtain ⟨vs, hvs, av⟩ := ca.2.2 i a c ha hc
    have hvs5 := o5 _ _ (nA a (List.mem_of_getElem? ha)) hvs
    have av5 : All (PtAt H') vs c := av.imp fun v x h => TupI.off o5 notT h
    have tk : ((contsOf l).take (i + 1)).flatMap closed = ((contsOf l).take i).flatMap closed ++ closed c := by
      rw [List.take_add_one, hc, Option.toList_some, List.flatMap_append, List.flatMap_singleton]
    have szs := conts_sz l [] 0 (Nat.le_refl _) (fun c h => absurd h (by simp))
    have lcl : c.length ≤ 300 := by
      have := szs.2 c (List.mem_of_getElem? hc)
      omega
    have lvs := av.1
    walk_at "go"
    refine ⟨_, _, rfl, SqL.of hvs5, fun d hd => ?_⟩
    have s6 := Same.new (o := .lst (cutV vs (some 1) none)) hd
    have d6 : (upd H' d (.lst (cutV vs (some 1) none))) d = _ := upd_same
    walk_at "go"
    generalize upd H' d (.lst (cutV vs (some 1) none)) = H6 at s6 d6
    refine ⟨_, _, rfl, SqL.of (s6 _ _ hvs5), fun d2 hd2 => ?_⟩
    have s7 := Same.new (o := .lst (cutV vs none (some 1))) hd2
    have d7 : (upd H6 d2 (.lst (cutV vs none (some 1)))) d2 = _ := upd_same
    walk_at "go"
    generalize upd H6 d2 (.lst (cutV vs none (some 1))) = H7 at s7 d7
    have c1 : cutV vs (some 1) none = vs.drop 1 := cutV_from vs 1
    have c2 : cutV vs none (some 1) = vs.take 1 := cutV_to vs 1
    rw [c1] at d6
    rw [c2] at d7
    have d67 := s7 _ _ d6
    have lz : (vs.drop 1).length + (vs.take 1).length ≤ sizeLine := by
      refine sz ?_
      rw [List.length_drop, List.length_take]
      omega
    refine ⟨d, d2, _, _, rfl, rfl, d67, d7, lz, fun Z hZ => ?_⟩
    have s8 := Same.new (o := .lst (vs.drop 1 ++ vs.take 1)) hZ
    have Z8 : (upd H7 Z (.lst (vs.drop 1 ++ vs.take 1))) Z = _ := upd_same
    generalize upd H7 Z (.lst (vs.drop 1 ++ vs.take 1)) = H8 at s8 Z8
    have s58 := (s6.trans s7).trans s8
    have o8 : Off [ls, ll] H4 H8 := o5.trans (Off.of s58)
    have vs8 := s58 _ _ hvs5
    have av8 : All (PtAt H8) vs c := av5.imp fun v x h => TupI.mono s58 h
    have ss8 := ListOf.mono (R := SlAt) (fun _ _ _ _ e h => TupI.mono e h) s58 ss
    have sl8 := ListOf.mono (R := LvAt) (fun _ _ _ _ e h => TupI.mono e h) s58 sl
    have nZ : Z ∉ [ls, ll] := by
      intro m
      obtain ⟨x1, x2, _⟩ := ss8
      obtain ⟨y1, y2, _⟩ := sl8
      obtain ⟨x3, x4, _⟩ := ss
      obtain ⟨y3, y4, _⟩ := sl
      rcases List.mem_cons.mp m with e | m
      · have := (s6.trans s7) _ _ x4
        rw [← e, hZ] at this; cases this
      · have := (s6.trans s7) _ _ y4
        rw [← List.mem_singleton.mp m, hZ] at this; cases this
    have na := nA a (List.mem_of_getElem? ha)
    have notT8 : ∀ q ∈ [ls, ll], ∀ ys, H8 q ≠ some (.tup ys) := by
      obtain ⟨x1, x2, _⟩ := ss8
      obtain ⟨y1, y2, _⟩ := sl8
      intro q m ys e
      rcases List.mem_cons.mp m with z | m
      · rw [z, x2] at e; cases e
      · rw [List.mem_singleton.mp m, y2] at e; cases e
    have avZ : All (PtAt H8) (vs.drop 1 ++ vs.take 1) (c.drop 1 ++ c.take 1) := All.rot av8
    have ez : (vs.drop 1 ++ vs.take 1).length = vs.length := by
      rw [List.length_append, List.length_drop, List.length_take]
      omega
    have p8 := o8 _ _ np p4
    walk_at "go"
    refine ⟨a, Z, vs, _, rfl, SqL.of vs8, SqL.of Z8, ?_⟩
    refine RZ.for_zipL (xs := vs) ez.symm (fun k σ H' => (∃ y z, σ = [some (.ref p), some (.int rule), some (.ref pa), some (.ref a), y, z]) ∧ Off [ls, ll] H8 H' ∧ ListOf SlAt H' ls (slants (((contsOf l).take i).flatMap closed ++ (closed c).take k)) ∧ ListOf LvAt H' ll (levels (((contsOf l).take i).flatMap closed ++ (closed c).take k)))
      ⟨⟨_, _, rfl⟩, Off.refl _ _, by rw [List.take_zero, List.append_nil]; exact ss8, by rw [List.take_zero, List.append_nil]; exact sl8⟩ (fun k σ H' h => ⟨SqL.of (h.2.1 _ _ na vs8), SqL.of (h.2.1 _ _ nZ Z8)⟩) ?_ ?_
    · rintro k u v t σ H9 hu hv ⟨⟨y1, z1, rfl⟩, o9, ss9, sl9⟩ ht
      obtain ⟨x, hx, px⟩ := av8.get hu
      obtain ⟨y, hy, py⟩ := avZ.get hv
      have s10 := Same.new (o := .tup [u, v]) ht
      have t10 : (upd H9 t (.tup [u, v])) t = _ := upd_same
      generalize upd H9 t (.tup [u, v]) = H10 at s10 t10
      have px10 := (TupI.off o9 notT8 px).mono s10
      have py10 := (TupI.off o9 notT8 py).mono s10
      have hs : (closed c)[k]? = some (x, y) := by
        unfold closed
        rw [List.getElem?_zip_eq_some]
        exact ⟨hx, hy⟩
      have szc := closed_len c
      have tot3 : (((contsOf l).take i).flatMap closed ++ (closed c).take k).length ≤ 300 := by
        have h1 : ((contsOf l).take (i + 1)).flatMap closed = ((contsOf l).take i).flatMap closed ++ closed c := tk
        have h2 : (((contsOf l).take (i + 1)).flatMap closed).length ≤ ((contsOf l).flatMap closed).length := by
          conv => rhs; rw [← List.take_append_drop (i + 1) (contsOf l), List.flatMap_append, List.length_append]
          omega
        rw [h1, List.length_append] at h2
        rw [List.length_append, List.length_take]
        omega
      have p10 := s10 _ _ (o9 _ _ np p8)
      refine ⟨t, _, rfl, SqT.of t10, rfl, ?_⟩
      walk_at "go"
      have sz1 := slants_len (((contsOf l).take i).flatMap closed ++ (closed c).take k)
      have sz2 := levels_len (((contsOf l).take i).flatMap closed ++ (closed c).take k)
      refine ⟨p, dx, ls, ll, _, u, v, _, _, x, y, rfl, p10, ListOf.mono (R := SlAt) (fun _ _ _ _ e h => TupI.mono e h) s10 ss9, ListOf.mono (R := LvAt) (fun _ _ _ _ e h => TupI.mono e h) s10 sl9, e3, px10, py10, by omega, by omega, fun H11 o11 ss11 sl11 => ?_⟩
      refine ⟨⟨_, _, rfl⟩, (o9.trans (Off.of s10)).trans o11, ?_, ?_⟩
      · rw [List.take_add_one, hs, Option.toList_some, ← List.append_assoc, slants_app _ [(x, y)], slants_one]
        exact ss11
      · rw [List.take_add_one, hs, Option.toList_some, ← List.append_assoc, levels_app _ [(x, y)], levels_one]
        exact sl11
    · rintro σ H9 ⟨⟨y1, z1, rfl⟩, o9, ss9, sl9⟩
      have : (closed c).take vs.length = closed c := List.take_of_length_le (by rw [closed_len, lvs]; exact Nat.le_refl _)
      rw [this, ← tk] at ss9 sl9
      exact ⟨⟨_, _, _, rfl⟩, o8.trans o9, ss9, sl9⟩
  · rintro σ H' ⟨⟨x0, y0, z0, rfl⟩, o5, ss, sl⟩
    rw [List.length_map, ca.2.1, List.take_length] at ss sl
    have fr : ∀ a ∈ [ls, ll], H a = none := by
      intro a m
      rcases List.mem_cons.mp m with e | m
      · rw [e]; exact n1
      · rw [List.mem_singleton.mp m]; exact n2
    have eS : (Wrvdot.shapeOf rule l).sides = (contsOf l).flatMap closed := by
      cases l with
      | nil => cases hok
      | cons z l' =>
        refine sides_is ?_
        replace hok : (z.begins && (z :: l').all fun p => Wrvdot.placeOk p.at_) = true := hok
        exact (Bool.and_eq_true_iff.mp hok).1
    have eR : ruleI (Wrvdot.shapeOf rule l) = rule := by
      show (if (rule == 1) = true then (1 : Int) else 0) = rule
      rcases Nat.eq_zero_or_pos rule with z | z
      · subst z; rfl
      · have : rule = 1 := by omega
        subst this; rfl
    refine q H' ls ll (Off.but (b3.trans (But.of s4)) fr o5) n1 n2 ⟨⟨dx, ?_⟩, ?_, ?_, ?_, ?_⟩
    · rw [eR]
      exact o5 _ _ np p4
    · rw [eS]; exact ss
    · rw [eS]; exact sl
    · rw [eS, tot2]; omega
    · exact near_shape hok
end
end Pd
end
section
set_option Elab.async false
set_option linter.all false
set_option maxRecDepth 100000
set_option maxHeartbeats 4000000
namespace Pd
open PySem PySem.Spec PyProof.Rows L2
local macro_rules | `(tactic| walk_at "at") => `(tactic| first
  | assumption
  | exact upd_same
  | (refine (show Same _ _ by assumption) _ _ ?_; walk_at "at")
  | (refine (show But _ _ _ by assumption) _ _ (by assumption) ?_; assumption)
  | (refine Same.new (by assumption) _ _ ?_; walk_at "at")
  | (refine (upd_ne (ne_of (by assumption) (by assumption) (by intro z; cases z))).trans ?_; walk_at "at"))
local macro_rules | `(tactic| walk_at "go") => `(tactic| repeat (first
  | refine ⟨_, rfl, ?_⟩
  | refine ⟨_, _, rfl, rfl, ?_⟩
  | refine ⟨_, _, rfl, ?_⟩
  | refine ⟨_, _, _, rfl, ?_⟩
  | refine And.intro rfl ?_
  | refine And.intro (Or.inl ⟨by decide, by decide⟩) ?_
  | refine And.intro (Or.inr ⟨by decide, by decide⟩) ?_
  | refine And.intro ⟨by decide, by decide⟩ ?_
  | refine And.intro (Or.inl ⟨by omega, by omega⟩) ?_
  | refine And.intro (Or.inr ⟨by omega, by omega⟩) ?_
  | refine And.intro ⟨by omega, by omega⟩ ?_
  | refine And.intro trivial ?_
  | refine And.intro (by omega) ?_
  | refine And.intro (sz (Nat.le_of_ble_eq_true rfl)) ?_
  | refine And.intro (Or.inl ⟨rfl, _, SqL.of (by walk_at "at")⟩) ?_
  | refine ⟨_, _, _, _, rfl, rfl, SqT.of (by walk_at "at"), (by rfl), ?_⟩
  | refine ⟨_, _, _, _, rfl, rfl, SqL.of (by walk_at "at"), (by rfl), ?_⟩
  | refine ⟨_, _, _, _, _, rfl, (by walk_at "at"), (by assumption), (by assumption), Lk.h, ?_⟩
  | refine ⟨_, _, _, rfl, rfl, (by walk_at "at"), ?_⟩
  | refine ⟨_, _, _, rfl, (by walk_at "at"), LkN.h, ?_⟩
  | refine ⟨_, _, _, _, rfl, (by walk_at "at"), (by assumption), (by assumption), (by apply few_lt; decide), ?_⟩
  | refine ⟨_, _, (by walk_at "at"), (by apply few_lt; decide), ?_⟩
  | refine ⟨_, _, rfl, Or.inl (SqL.of (by walk_at "at")), ?_⟩))
theorem ite_iff {α : Type} {p q : Prop} {dp : Decidable p} {dq : Decidable q} {a b c d : α} (h : p ↔ q) (e1 : a = c) (e2 : b = d) : (if p then a else b) = (if q then c else d) := by
  subst e1 e2
  by_cases z : q
  · rw [if_pos z, if_pos (h.mpr z)]
  · rw [if_neg z, if_neg (fun y => z (h.mp y))]
/-- n whole numbers in a row -/
def lineV (n : Nat) (f : Nat → Int) : List V := (List.range n).map fun k => V.int (f k)
theorem lineV_len (n : Nat) (f : Nat → Int) : (lineV n f).length = n := by
  unfold lineV
  rw [List.length_map, List.length_range]
theorem lineV_at {n k : Nat} {f : Nat → Int} (h : k < n) : (lineV n f)[k]? = some (.int (f k)) := by
  unfold lineV
  rw [List.getElem?_map, List.getElem?_range h] <;> rfl
theorem lineV_ext {n : Nat} {f g : Nat → Int} (h : ∀ k, k < n → f k = g k) : lineV n f = lineV n g := by
  unfold lineV
  refine List.map_congr_left fun k hk => ?_
  rw [h k (List.mem_range.mp hk)]
theorem lineV_set {n j : Nat} {f : Nat → Int} {x : Int} (h : j < n) : (lineV n f).set j (.int x) = lineV n (fun k => if k = j then x else f k) := by
  refine List.ext_getElem? fun i => ?_
  rw [List.getElem?_set]
  rcases Nat.lt_or_ge i n with c | c
  · rw [lineV_at (f := fun k => if k = j then x else f k) c]
    by_cases e : j = i
    · subst e
      rw [if_pos rfl, if_pos (by rw [lineV_len]; exact h), if_pos rfl]
    · rw [if_neg e, lineV_at c, if_neg (Ne.symm e)]
  · have e1 : (lineV n fun k => if k = j then x else f k)[i]? = none := List.getElem?_eq_none (by rw [lineV_len]; exact c)
    have e2 : (lineV n f)[i]? = none := List.getElem?_eq_none (by rw [lineV_len]; exact c)
    rw [e1, if_neg (by omega), e2]
theorem lineV_snoc (n : Nat) (f : Nat → Int) : lineV n f ++ [.int (f n)] = lineV (n + 1) f := by
  unfold lineV
  rw [List.range_succ, List.map_append] <;> rfl
theorem lineV_ints (n : Nat) (f : Nat → Int) : lineV n f = ((List.range n).map f).map V.int := by
  unfold lineV
  rw [List.map_map] <;> rfl
theorem rep_line (n : Nat) (x : Int) : (List.replicate n [V.int x]).flatten = lineV n fun _ => x := by
  induction n with
  | zero => rfl
  | succ n ih =>
    rw [← lineV_snoc, ← ih, List.replicate_succ', List.flatten_append] <;> rfl
/-! bounds -/
def SlB (s : Sl) : Prop := (-1048576 ≤ s.tx ∧ s.tx ≤ 1048576) ∧ (-1048576 ≤ s.ty ∧ s.ty ≤ 1048576) ∧ (-2097152 ≤ s.ac ∧ s.ac ≤ 2097152) ∧ (0 < s.fa ∧ s.fa ≤ 2097152)
def LvB (s : Lv) : Prop := (-1048576 ≤ s.l ∧ s.l ≤ 1048576) ∧ (-1048576 ≤ s.r ∧ s.r ≤ 1048576)
theorem slants_b {l : List Vd.Side} (h : ∀ z ∈ l, NearP z.1 ∧ NearP z.2) : ∀ s ∈ slants l, SlB s := by
  intro s hs
  obtain ⟨z, hz, e⟩ := List.mem_filterMap.mp hs
  obtain ⟨⟨⟨a1, a2⟩, a3, a4⟩, ⟨b1, b2⟩, b3, b4⟩ := h z hz
  unfold slantOf at e
  split at e
  · obtain rfl := Option.some.inj e
    exact ⟨⟨a1, a2⟩, ⟨a3, a4⟩, ⟨by show _ ≤ z.2.1 - z.1.1; omega, by show z.2.1 - z.1.1 ≤ _; omega⟩, by show 0 < z.2.2 - z.1.2; omega, by show z.2.2 - z.1.2 ≤ _; omega⟩
  · split at e
    · obtain rfl := Option.some.inj e
      exact ⟨⟨b1, b2⟩, ⟨b3, b4⟩, ⟨by show _ ≤ -(z.2.1 - z.1.1); omega, by show -(z.2.1 - z.1.1) ≤ _; omega⟩, by show 0 < -(z.2.2 - z.1.2); omega, by show -(z.2.2 - z.1.2) ≤ _; omega⟩
    · cases e
theorem levels_b {l : List Vd.Side} (h : ∀ z ∈ l, NearP z.1 ∧ NearP z.2) : ∀ s ∈ levels l, LvB s := by
  intro s hs
  obtain ⟨z, hz, e⟩ := List.mem_filterMap.mp hs
  obtain ⟨⟨⟨a1, a2⟩, a3, a4⟩, ⟨b1, b2⟩, b3, b4⟩ := h z hz
  unfold levelOf at e
  split at e
  · cases e
  · split at e
    · cases e
    · obtain rfl := Option.some.inj e
      exact ⟨⟨by show _ ≤ min _ _; omega, by show min _ _ ≤ _; omega⟩, by show _ ≤ max _ _; omega, by show max _ _ ≤ _; omega⟩
abbrev NearR (x : Int) : Prop := -100000000 ≤ x ∧ x ≤ 100000000
def gridP (first y : Int) (n : Nat) : Vd.Pt := (first + 4 * (n : Int), y)
section
variable {P : Program} {w : World} {K : PySem.W.Frag} {mg : Str → Option Value} {base : Heap}
theorem sc_Shape_meet_level : FnScope ["self", "on_side", "first", "y", "left", "right", "height", "least", "greatest", "number"] ["self", "on_side", "first", "y"] (defScope s_Shape_meet_level) := ⟨rfl, rfl, rfl, by decide +kernel, rfl, by decide +kernel, by decide +kernel⟩
theorem bd_Shape_meet_level : BindAll "meet_level" "Shape.meet_level" s_Shape_meet_level ["self", "on_side", "first", "y"] := fun _ _ _ _ _ _ us hl => match us, hl with | [_, _, _, _], _ => rfl
theorem ok_Shape_meet_level (T : Txt K mg) : Ok P w K mg base CX0 1 (He.fAd K ("Shape", some "meet_level")) ["self", "on_side", "first", "y"] (fun vs H Q _ => ∃ (a dx b ll : Addr) (r u : V) (first y : Int) (L : List Lv) (f : Nat → Int), vs = [.ref a, .ref b, .int first, .int y] ∧
    H a = some (.ins (He.ga K "Shape") dx (fl_Shape r u (.ref ll))) ∧ ListOf LvAt H ll L ∧ (∀ s ∈ L, LvB s) ∧ NearR first ∧ b ≠ ll ∧ H b = some (.lst (lineV 16 f)) ∧
    ∀ H', But b H H' → H' b = some (.lst (lineV 16 fun n => if L.any (onLv (gridP first y n)) = true then 1 else f n)) → Q .non H') := by
  refine mk_ok T.f_Shape_meet_level sc_Shape_meet_level bd_Shape_meet_level (fun _ _ _ _ ⟨_, _, _, _, _, _, _, _, _, _, e, _⟩ => by rw [e]; rfl) fun cdv A outer s H vs Q E hr h => ?_
  obtain ⟨a, dx, b, ll, r, u, first, y, L, f, rfl, ha, ⟨us, hl, al⟩, bd, ⟨f1, f2⟩, ne, hb, q⟩ := h
  have fc_Shape := T.c_Shape
  have fn_Shape_level := T.n_Shape_level
  refine ⟨_, (pss_one (ps_for PassesOwn.never rfl (kx_list (K := K) rfl (kx_fld (K := K) rfl (pv 0) rfl)) (kx_tup (K := K) (n := 3) rfl rfl (pgs_cons (pg_name (i := 4) sc_Shape_meet_level.nd rfl (Or.inl rfl)) (pgs_cons (pg_name (i := 5) sc_Shape_meet_level.nd rfl (Or.inl rfl)) (pgs_cons (pg_name (i := 6) sc_Shape_meet_level.nd rfl (Or.inl rfl)) pgs_nil)))) (pss_one (ps_if (pt_cmpR op_eq (pv 6) (pv 3) (nomark _)) (pss_cons (ps_set (i := 7) sc_Shape_meet_level.nd rfl (Or.inl rfl) (pe_callB (call_max2 rfl) (by rfl) T.z_max (by decide +kernel) (pa_cons (pe_un un_neg (pe_op op_fdiv (pe_op op_sub (pv 2) (pv 4)) (c_int rfl T.i_APART))) (pa_cons pe_int pa_nil))))
      (pss_cons (ps_set (i := 8) sc_Shape_meet_level.nd rfl (Or.inl rfl) (pe_callB (call_min2 rfl) (by rfl) T.z_min (by decide +kernel) (pa_cons (pe_op op_fdiv (pe_op op_sub (pv 5) (pv 2)) (c_int rfl T.i_APART)) (pa_cons (pe_op op_sub (c_int rfl T.i_PLACES) pe_int) pa_nil))))
      (pss_one (ps_for PassesOwn.never rfl (pi_range2 rfl T.z_range (pa_cons (pv 7) (pa_cons (pe_op op_add (pv 8) pe_int) pa_nil))) (pg_name (i := 9) sc_Shape_meet_level.nd rfl (Or.inl rfl)) (pss_one (ps_asg pe_int (pg_sub (pv 1) (pv 9) set_list))))))) pss_nil)))), ?_⟩
  walk_at "go"
  refine ⟨⟨_, SqL.of hl⟩, for_list (xs := us) (fun i σ H' => (∃ c d e g, σ = [some (.ref a), some (.ref b), some (.int first), some (.int y), c, d, e, g.1, g.2.1, g.2.2]) ∧ But b H H' ∧ H' b = some (.lst (lineV 16 fun n => if (L.take i).any (onLv (gridP first y n)) = true then 1 else f n)))
    ⟨⟨none, none, none, (none, none, none), rfl⟩, But.refl _ _, hb⟩ (fun i σ H' _ h => SqL.of (h.2.1 _ _ (Ne.symm ne) hl)) ?_ ?_⟩
  · rintro i v σ H' hv ⟨⟨c, d, e, g, rfl⟩, b1, hb1⟩
    obtain ⟨x, hx, tv, rfl, htv⟩ := al.get hv
    have htv1 := b1 tv _ (ne_of htv hb (by intro z; cases z)) htv
    have bx := bd x (List.mem_of_getElem? hx)
    obtain ⟨⟨bx1, bx2⟩, bx3, bx4⟩ := bx
    have tk : ∀ n, (L.take (i + 1)).any (onLv (gridP first y n)) = ((L.take i).any (onLv (gridP first y n)) || onLv (gridP first y n) x) := fun n => by
      rw [List.take_add_one, hx, Option.toList_some, List.any_append, List.any_cons, List.any_nil, Bool.or_false]
    refine ⟨tv, _, rfl, SqT.of htv1, rfl, ?_⟩
    walk_at "go"
    refine ite2 (fun c => ?_) (fun c => ?_)
    · have ey : x.h = y := dint c
      walk_at "go"
      have hM : ∀ n : Int, 0 ≤ n → ((if (0 : Int) > -((first - x.l) / 4) then 0 else -((first - x.l) / 4)) ≤ n ↔ x.l ≤ first + 4 * n) := fun n hn => by split <;> omega
      have hM0 : 0 ≤ (if (0 : Int) > -((first - x.l) / 4) then 0 else -((first - x.l) / 4)) := by split <;> omega
      have hM1 : (if (0 : Int) > -((first - x.l) / 4) then 0 else -((first - x.l) / 4)) ≤ 100000000 := by split <;> omega
      have hG : ∀ n : Int, n ≤ 15 → (n ≤ (if (16 : Int) - 1 < (x.r - first) / 4 then 16 - 1 else (x.r - first) / 4) ↔ first + 4 * n ≤ x.r) := fun n hn => by split <;> omega
      have hG0 : (if (16 : Int) - 1 < (x.r - first) / 4 then 16 - 1 else (x.r - first) / 4) ≤ 15 := by split <;> omega
      have hG1 : -100000000 ≤ (if (16 : Int) - 1 < (x.r - first) / 4 then 16 - 1 else (x.r - first) / 4) := by split <;> omega
      generalize (if (0 : Int) > -((first - x.l) / 4) then 0 else -((first - x.l) / 4)) = M at hM hM0 hM1 ⊢
      generalize (if (16 : Int) - 1 < (x.r - first) / 4 then 16 - 1 else (x.r - first) / 4) = G at hG hG0 hG1 ⊢
      walk_at "go"
      refine for_range (fun k σ H' => (∃ e, σ = [some (.ref a), some (.ref b), some (.int first), some (.int y), some (.int x.l), some (.int x.r), some (.int x.h), some (.int M), some (.int G), e]) ∧ But b H H' ∧
        H' b = some (.lst (lineV 16 fun n => if (L.take i).any (onLv (gridP first y n)) = true ∨ (M ≤ n ∧ (n : Int) < M + k) then 1 else f n)))
        ⟨⟨_, rfl⟩, b1, ?_⟩ ?_ ?_
      · rw [hb1]
        refine congrArg (fun z => some (HO.lst z)) (lineV_ext fun n hn => ?_)
        refine ite_iff ⟨fun z => .inl z, fun z => z.elim id fun z => ?_⟩ rfl rfl
        omega
      · rintro k σ H' hk ⟨⟨e, rfl⟩, b2, hb2⟩
        walk_at "go"
        have ik : ixN (lineV 16 fun n => if (L.take i).any (onLv (gridP first y n)) = true ∨ (M ≤ n ∧ (n : Int) < M + k) then 1 else f n).length (M + k) = some (M + k).toNat := by
          rw [lineV_len]
          unfold ixN
          rw [if_pos (by omega), if_pos (by omega)]
        refine ⟨b, _, _, _, rfl, rfl, hb2, ik, ⟨_, rfl⟩, b2.trans But.at_, ?_⟩
        rw [upd_same, lineV_set (by omega)]
        refine congrArg (fun z => some (HO.lst z)) (lineV_ext fun n hn => ?_)
        by_cases e : n = (M + k).toNat
        · rw [if_pos e, if_pos (.inr (by omega))]
        · rw [if_neg e]
          refine ite_iff (or_congr_right ?_) rfl rfl
          omega
      · rintro σ H' ⟨⟨e, rfl⟩, b2, hb2⟩
        refine ⟨⟨_, _, _, (_, _, _), rfl⟩, b2, ?_⟩
        rw [hb2]
        refine congrArg (fun z => some (HO.lst z)) (lineV_ext fun n hn => ?_)
        refine ite_iff ?_ rfl rfl
        rw [tk, Bool.or_eq_true]
        refine or_congr_right ?_
        rw [onLv_iff]
        show _ ↔ x.h = y ∧ x.l ≤ first + 4 * (n : Int) ∧ first + 4 * (n : Int) ≤ x.r
        have h1 := hM n (by omega)
        have h2 := hG n (by omega)
        constructor
        · rintro ⟨h3, h4⟩
          exact ⟨ey, h1.mp h3, h2.mp (by omega)⟩
        · rintro ⟨_, h3, h4⟩
          have := h1.mpr h3
          have := h2.mpr h4
          omega
    · walk_at "go"
      refine ⟨⟨_, _, _, (_, _, _), rfl⟩, b1, ?_⟩
      rw [hb1]
      refine congrArg (fun z => some (HO.lst z)) (lineV_ext fun n hn => ?_)
      have : onLv (gridP first y n) x = false := by
        cases e : onLv (gridP first y n) x with
        | false => rfl
        | true => exact absurd (onLv_iff.mp e).1 (dint_not c)
      rw [tk, this, Bool.or_false]
  · rintro σ H' ⟨⟨c, d, e, g, rfl⟩, b1, hb1⟩
    rw [al.1, List.take_length] at hb1
    exact q H' b1 hb1
theorem abs_mul_le {a b m n : Int} (h1 : -m ≤ a) (h2 : a ≤ m) (h3 : -n ≤ b) (h4 : b ≤ n) : -(m * n) ≤ a * b ∧ a * b ≤ m * n := by
  have e : (a * b).natAbs = a.natAbs * b.natAbs := Int.natAbs_mul a b
  have h5 : a.natAbs * b.natAbs ≤ m.natAbs * n.natAbs := Nat.mul_le_mul (by omega) (by omega)
  have h6 : (m * n).natAbs = m.natAbs * n.natAbs := Int.natAbs_mul m n
  have h7 : 0 ≤ m * n := Int.mul_nonneg (by omega) (by omega)
  omega
/-- the sum of the last so many of 17 -/
def tlF (g : Nat → Int) : Nat → Int
  | 0 => 0
  | d + 1 => g (16 - d) + tlF g d
theorem tlF_set {g : Nat → Int} {j : Nat} {x : Int} (hj : j ≤ 16) : ∀ d, d ≤ 17 → tlF (fun k => if k = j then g j + x else g k) d = tlF g d + (if 17 ≤ j + d then x else 0)
  | 0, _ => by rw [if_neg (by omega)] <;> rfl
  | d + 1, h => by
    show (if 16 - d = j then g j + x else g (16 - d)) + tlF _ d = g (16 - d) + tlF g d + _
    rw [tlF_set hj d (by omega)]
    by_cases e : 16 - d = j
    · rw [if_pos e, if_neg (by omega), if_pos (by omega), e]
      omega
    · rw [if_neg e]
      by_cases c : 17 ≤ j + d
      · rw [if_pos c, if_pos (by omega)]
        omega
      · rw [if_neg c, if_neg (by omega)]
        omega
theorem tlF_all (g : Nat → Int) : ((List.range 17).map g).sum = tlF g 17 := rfl
theorem wind_snoc (p : Vd.Pt) (S : List Sl) (s : Sl) : wind p (S ++ [s]) = wind p S + cntSl p s := by
  unfold wind
  rw [List.map_append, List.sum_append]
  simp
/-- how many of the row's places lie to the left of the side -/
theorem ceil_lt {R s n : Int} (hs : 0 < s) : n < -(-R / s) ↔ n * s < R := by
  have h : -R / s < -n ↔ -R < -n * s := Int.ediv_lt_iff_lt_mul hs
  rw [Int.neg_mul] at h
  omega
theorem ceil_on {R s n : Int} (hs : 0 < s) : (n = -(-R / s) ∧ -(-R / s) * s = R) ↔ n * s = R := by
  constructor
  · rintro ⟨h1, h2⟩
    rw [h1, h2]
  · intro h
    have : -R / s = -n := by rw [← h, ← Int.neg_mul, Int.mul_ediv_cancel _ (by omega)]
    rw [this, Int.neg_neg]
    exact ⟨rfl, h⟩
theorem reach_at (s : Sl) (first y : Int) (n : Nat) : reach s (gridP first y n).1 (gridP first y n).2 = ((s.tx - first) * s.fa + s.ac * (y - s.ty)) - (n : Int) * (4 * s.fa) := by
  unfold reach gridP
  show (s.tx - (first + 4 * (n : Int))) * s.fa + s.ac * (y - s.ty) = _
  have e : s.tx - (first + 4 * (n : Int)) = (s.tx - first) - n * 4 := by omega
  rw [e, Int.sub_mul, Int.mul_assoc (n : Int)]
  omega
theorem sc_Shape_meet_slanted : FnScope ["self", "on_side", "turns", "first", "y", "top_x", "top_y", "across", "fall", "turn", "below", "step", "reach", "before"] ["self", "on_side", "turns", "first", "y"] (defScope s_Shape_meet_slanted) := ⟨rfl, rfl, rfl, by decide +kernel, rfl, by decide +kernel, by decide +kernel⟩
theorem bd_Shape_meet_slanted : BindAll "meet_slanted" "Shape.meet_slanted" s_Shape_meet_slanted ["self", "on_side", "turns", "first", "y"] := fun _ _ _ _ _ _ us hl => match us, hl with | [_, _, _, _, _], _ => rfl
theorem ok_Shape_meet_slanted (T : Txt K mg) : Ok P w K mg base CX0 1 (He.fAd K ("Shape", some "meet_slanted")) ["self", "on_side", "turns", "first", "y"] (fun vs H Q _ => ∃ (a dx b t ls : Addr) (r u : V) (first y : Int) (S : List Sl) (f g : Nat → Int), vs = [.ref a, .ref b, .ref t, .int first, .int y] ∧
    H a = some (.ins (He.ga K "Shape") dx (fl_Shape r (.ref ls) u)) ∧ ListOf SlAt H ls S ∧ (∀ s ∈ S, SlB s) ∧ NearR first ∧ NearR y ∧ b ≠ ls ∧ t ≠ ls ∧ b ≠ t ∧ H b = some (.lst (lineV 16 f)) ∧ H t = some (.lst (lineV 17 g)) ∧
    ∀ H' g', Off [b, t] H H' → H' b = some (.lst (lineV 16 fun n => if S.any (onSl (gridP first y n)) = true then 1 else f n)) → H' t = some (.lst (lineV 17 g')) → (∀ n, n < 16 → tlF g' (16 - n) = tlF g (16 - n) + wind (gridP first y n) S) → Q .non H') := by
  refine mk_ok T.f_Shape_meet_slanted sc_Shape_meet_slanted bd_Shape_meet_slanted (fun _ _ _ _ ⟨_, _, _, _, _, _, _, _, _, _, _, _, e, _⟩ => by rw [e]; rfl) fun cdv A outer s H vs Q E hr h => ?_
  obtain ⟨a, dx, b, t, ls, r, u, first, y, S, f, g, rfl, ha, ⟨us, hl, al⟩, bd, ⟨f1, f2⟩, ⟨y1, y2⟩, ne1, ne2, ne3, hb, ht, q⟩ := h
  have fc_Shape := T.c_Shape
  have fn_Shape_slanted := T.n_Shape_slanted
  refine ⟨_, (pss_one (ps_for PassesOwn.never rfl (kx_list (K := K) rfl (kx_fld (K := K) rfl (pv 0) rfl)) (kx_tup (K := K) (n := 5) rfl rfl (pgs_cons (pg_name (i := 5) sc_Shape_meet_slanted.nd rfl (Or.inl rfl)) (pgs_cons (pg_name (i := 6) sc_Shape_meet_slanted.nd rfl (Or.inl rfl)) (pgs_cons (pg_name (i := 7) sc_Shape_meet_slanted.nd rfl (Or.inl rfl)) (pgs_cons (pg_name (i := 8) sc_Shape_meet_slanted.nd rfl (Or.inl rfl)) (pgs_cons (pg_name (i := 9) sc_Shape_meet_slanted.nd rfl (Or.inl rfl)) pgs_nil)))))) (pss_cons (ps_set (i := 10) sc_Shape_meet_slanted.nd rfl (Or.inl rfl) (pe_op op_sub (pv 4) (pv 6)))
      (pss_cons (ps_if (PW.pt (pw_or (pt_cmpR op_lt (pv 10) pe_int (nomark _)) (pw_or1 (pt_cmpR op_gt (pv 10) (pv 8) (nomark _))))) (pss_one ps_continue) pss_nil)
      (pss_cons (ps_set (i := 11) sc_Shape_meet_slanted.nd rfl (Or.inl rfl) (pe_op op_mul (c_int rfl T.i_APART) (pv 8)))
      (pss_cons (ps_set (i := 12) sc_Shape_meet_slanted.nd rfl (Or.inl rfl) (pe_op op_add (pe_op op_mul (pe_op op_sub (pv 5) (pv 3)) (pv 8)) (pe_op op_mul (pv 7) (pv 10))))
      (pss_cons (ps_set (i := 13) sc_Shape_meet_slanted.nd rfl (Or.inl rfl) (pe_un un_neg (pe_op op_fdiv (pe_un un_neg (pv 12)) (pv 11))))
      (Evl.pss_cut (ps_if (PW.pt (pw_and (pt_cmpR op_eq (pe_op op_mul (pv 13) (pv 11)) (pv 12) (nomark _)) (pw_and1 (pt_chain op_le op_lt pe_int (pv 13) (c_int rfl T.i_PLACES))))) (pss_one (ps_asg pe_int (pg_sub (pv 1) (pv 13) set_list))) pss_nil)
      (pss_one (ps_if (pt_cmpR op_lt (pv 10) (pv 8) (nomark _)) (pss_one (ps_augS (pv 2) (pe_callB (call_min2 rfl) (by rfl) T.z_min (by decide +kernel) (pa_cons (pe_callB (call_max2 rfl) (by rfl) T.z_max (by decide +kernel) (pa_cons (pv 13) (pa_cons pe_int pa_nil))) (pa_cons (c_int rfl T.i_PLACES) pa_nil))) (kx_get (K := K) rfl) (pv 9) ip_add set_list)) pss_nil)))))))))), ?_⟩
  walk_at "go"
  have nl : ls ∉ [b, t] := fun m => by
    rcases List.mem_cons.mp m with e | m
    · exact ne1 e.symm
    · exact ne2 (List.mem_singleton.mp m).symm
  have notT : ∀ q ∈ [b, t], ∀ ys, H q ≠ some (.tup ys) := by
    intro q m ys e
    rcases List.mem_cons.mp m with z | m
    · rw [z, hb] at e; cases e
    · rw [List.mem_singleton.mp m, ht] at e; cases e
  refine ⟨⟨_, SqL.of hl⟩, for_list (xs := us) (fun i σ H' => (∃ l : Option V × Option V × Option V × Option V × Option V × Option V × Option V × Option V × Option V, σ = [some (.ref a), some (.ref b), some (.ref t), some (.int first), some (.int y), l.1, l.2.1, l.2.2.1, l.2.2.2.1, l.2.2.2.2.1, l.2.2.2.2.2.1, l.2.2.2.2.2.2.1, l.2.2.2.2.2.2.2.1, l.2.2.2.2.2.2.2.2]) ∧ Off [b, t] H H' ∧
      H' b = some (.lst (lineV 16 fun n => if (S.take i).any (onSl (gridP first y n)) = true then 1 else f n)) ∧ ∃ g', H' t = some (.lst (lineV 17 g')) ∧ ∀ n, n < 16 → tlF g' (16 - n) = tlF g (16 - n) + wind (gridP first y n) (S.take i))
    ⟨⟨(none, none, none, none, none, none, none, none, none), rfl⟩, Off.refl _ _, hb, g, ht, fun n hn => by rw [List.take_zero]; show _ = _ + 0; omega⟩ (fun i σ H' _ h => SqL.of (h.2.1 _ _ nl hl)) ?_ ?_⟩
  · rintro i v σ H' hv ⟨⟨l, rfl⟩, b1, hb1, g', ht1, tg⟩
    obtain ⟨x, hx, tv, rfl, htv⟩ := al.get hv
    have htv1 := b1 tv _ (fun m => notT _ m _ htv) htv
    obtain ⟨⟨bx1, bx2⟩, ⟨bx3, bx4⟩, ⟨bx5, bx6⟩, bx7, bx8⟩ := bd x (List.mem_of_getElem? hx)
    have tk : ∀ n, (S.take (i + 1)).any (onSl (gridP first y n)) = ((S.take i).any (onSl (gridP first y n)) || onSl (gridP first y n) x) := fun n => by
      rw [List.take_add_one, hx, Option.toList_some, List.any_append, List.any_cons, List.any_nil, Bool.or_false]
    have tw : ∀ n, wind (gridP first y n) (S.take (i + 1)) = wind (gridP first y n) (S.take i) + cntSl (gridP first y n) x := fun n => by
      rw [List.take_add_one, hx, Option.toList_some, wind_snoc]
    refine ⟨tv, _, rfl, SqT.of htv1, rfl, ?_⟩
    walk_at "go"
    have skip : ¬ (0 ≤ y - x.ty ∧ y - x.ty ≤ x.fa) → (∀ n, onSl (gridP first y n) x = false) ∧ ∀ n, cntSl (gridP first y n) x = 0 := by
      intro z
      refine ⟨fun n => ?_, fun n => ?_⟩
      · cases e : onSl (gridP first y n) x with
        | false => rfl
        | true =>
          have := onSl_iff.mp e
          exact absurd ⟨this.1, this.2.1⟩ z
      · unfold cntSl
        rw [if_neg]
        rintro ⟨h1, h2, _⟩
        exact z ⟨h1, Int.le_of_lt h2⟩
    have skip2 : ∀ H2 : Hp, H2 = H' → ¬ (0 ≤ y - x.ty ∧ y - x.ty ≤ x.fa) → Off [b, t] H H2 ∧ H2 b = some (.lst (lineV 16 fun n => if (S.take (i + 1)).any (onSl (gridP first y n)) = true then 1 else f n)) ∧ ∃ g', H2 t = some (.lst (lineV 17 g')) ∧ ∀ n, n < 16 → tlF g' (16 - n) = tlF g (16 - n) + wind (gridP first y n) (S.take (i + 1)) := by
      rintro H2 rfl z
      obtain ⟨z1, z2⟩ := skip z
      refine ⟨b1, ?_, g', ht1, fun n hn => ?_⟩
      · rw [hb1]
        refine congrArg (fun z => some (HO.lst z)) (lineV_ext fun n hn => ?_)
        rw [tk, z1, Bool.or_false]
      · rw [tg n hn, tw, z2]
        omega
    refine ite2 (fun c => ?_) (fun c => ?_)
    · have c1 : y - x.ty < 0 := ddec c
      exact ⟨⟨(_, _, _, _, _, _, _, _, _), rfl⟩, skip2 _ rfl (by omega)⟩
    have c1 : ¬ y - x.ty < 0 := dnot c
    walk_at "go"
    refine ite2 (fun c => ?_) (fun c => ?_)
    · have c2 : x.fa < y - x.ty := ddec c
      exact ⟨⟨(_, _, _, _, _, _, _, _, _), rfl⟩, skip2 _ rfl (by omega)⟩
    have c2 : ¬ x.fa < y - x.ty := dnot c
    walk_at "go"
    have R1 : -300000000000000 ≤ (x.tx - first) * x.fa + x.ac * (y - x.ty) ∧ (x.tx - first) * x.fa + x.ac * (y - x.ty) ≤ 300000000000000 := by
      have h1 := abs_mul_le (a := x.tx - first) (b := x.fa) (m := 110000000) (n := 2097152) (by omega) (by omega) (by omega) (by omega)
      have h2 := abs_mul_le (a := x.ac) (b := y - x.ty) (m := 2097152) (n := 2097152) (by omega) (by omega) (by omega) (by omega)
      omega
    have st0 : 0 < 4 * x.fa := by omega
    have hR : ∀ n : Nat, reach x (gridP first y n).1 (gridP first y n).2 = ((x.tx - first) * x.fa + x.ac * (y - x.ty)) - (n : Int) * (4 * x.fa) := reach_at x first y
    let R := (x.tx - first) * x.fa + x.ac * (y - x.ty)
    let B := -(-R / (4 * x.fa))
    have hB1 : ∀ n : Int, n < B ↔ n * (4 * x.fa) < R := fun n => ceil_lt st0
    have hB2 : ∀ n : Int, (n = B ∧ B * (4 * x.fa) = R) ↔ n * (4 * x.fa) = R := fun n => ceil_on st0
    have hbt : b ∈ [b, t] := List.mem_cons_self ..
    have htt : t ∈ [b, t] := List.mem_cons_of_mem _ (List.mem_cons_self ..)
    have onS : ∀ n : Nat, onSl (gridP first y n) x = true ↔ (n : Int) * (4 * x.fa) = R := fun n => by
      rw [onSl_iff, hR]
      show 0 ≤ y - x.ty ∧ y - x.ty ≤ x.fa ∧ R - (n : Int) * (4 * x.fa) = 0 ↔ _
      constructor
      · rintro ⟨_, _, h⟩
        omega
      · intro h
        exact ⟨by omega, by omega, by omega⟩
    walk_at "go"
    refine ⟨fun σ2 H2 => σ2 = [some (.ref a), some (.ref b), some (.ref t), some (.int first), some (.int y), some (.int x.tx), some (.int x.ty), some (.int x.ac), some (.int x.fa), some (.int x.tn), some (.int (y - x.ty)), some (.int (4 * x.fa)), some (.int R), some (.int B)] ∧ Off [b, t] H H2 ∧
      H2 b = some (.lst (lineV 16 fun n => if (S.take (i + 1)).any (onSl (gridP first y n)) = true then 1 else f n)) ∧ H2 t = some (.lst (lineV 17 g')), ?_, ?_⟩
    · walk_at "go"
      have miss : ¬ (B * (4 * x.fa) = R ∧ 0 ≤ B ∧ B < 16) → H' b = some (.lst (lineV 16 fun n => if (S.take (i + 1)).any (onSl (gridP first y n)) = true then 1 else f n)) := by
        intro z
        rw [hb1]
        refine congrArg (fun z => some (HO.lst z)) (lineV_ext fun n hn => ?_)
        have : onSl (gridP first y n) x = false := by
          cases e : onSl (gridP first y n) x with
          | false => rfl
          | true =>
            obtain ⟨h1, h2⟩ := (hB2 n).mpr ((onS n).mp e)
            exact absurd ⟨h2, by omega, by omega⟩ z
        rw [tk, this, Bool.or_false]
      refine ite2 (fun c => ?_) (fun c => ?_)
      · have d1 : B * (4 * x.fa) = R := dint c
        walk_at "go"
        refine ite2 (fun c => ?_) (fun c => ?_)
        · have d2 : 0 ≤ B := ddec c
          walk_at "go"
          refine ite2 (fun c => ?_) (fun c => ?_)
          · have d3 : B < 16 := ddec c
            walk_at "go"
            have ik : ixN (lineV 16 fun n => if (S.take i).any (onSl (gridP first y n)) = true then 1 else f n).length B = some B.toNat := by
              rw [lineV_len]
              unfold ixN
              rw [if_pos d2, if_pos (by omega)]
            refine ⟨b, _, _, _, rfl, rfl, hb1, ik, rfl, b1.trans (Off.at_ hbt), ?_, ?_⟩
            · rw [upd_same, lineV_set (by omega)]
              refine congrArg (fun z => some (HO.lst z)) (lineV_ext fun n hn => ?_)
              rw [tk]
              by_cases e : n = B.toNat
              · have : onSl (gridP first y n) x = true := (onS n).mpr ((hB2 n).mp ⟨by omega, d1⟩)
                rw [if_pos e, this, Bool.or_true] <;> rfl
              · have : onSl (gridP first y n) x = false := by
                  cases e2 : onSl (gridP first y n) x with
                  | false => rfl
                  | true =>
                    obtain ⟨h1, h2⟩ := (hB2 n).mpr ((onS n).mp e2)
                    exact absurd (by omega) e
                rw [if_neg e, this, Bool.or_false]
            · rw [upd_ne (Ne.symm ne3)]
              exact ht1
          · have d3 : ¬ B < 16 := dnot c
            exact ⟨rfl, b1, miss fun z => d3 z.2.2, ht1⟩
        · have d3 : ¬ 0 ≤ B := dnot c
          walk_at "go"
          exact ⟨miss fun z => d3 z.2.1, ht1⟩
      · have d3 : ¬ B * (4 * x.fa) = R := dint_not c
        exact ⟨rfl, b1, miss fun z => d3 z.1, ht1⟩
    · rintro σ2 H2 ⟨rfl, b2, hb2, ht2⟩
      walk_at "go"
      have cw : ∀ n : Nat, n < 16 → cntSl (gridP first y n) x = if y - x.ty < x.fa ∧ (n : Int) < B then x.tn else 0 := by
        intro n hn
        unfold cntSl
        refine ite_iff ?_ rfl rfl
        rw [hR, hB1]
        show 0 ≤ y - x.ty ∧ y - x.ty < x.fa ∧ 0 < R - (n : Int) * (4 * x.fa) ↔ _
        constructor
        · rintro ⟨_, h1, h2⟩
          exact ⟨h1, by omega⟩
        · rintro ⟨h1, h2⟩
          exact ⟨by omega, h1, by omega⟩
      refine ite2 (fun c => ?_) (fun c => ?_)
      · have d1 : y - x.ty < x.fa := ddec c
        walk_at "go"
        have hJ : ∃ j : Nat, (if (16 : Int) < (if (0 : Int) > B then 0 else B) then 16 else (if (0 : Int) > B then 0 else B)) = (j : Int) ∧ j ≤ 16 ∧ ∀ n : Nat, n < 16 → (n < j ↔ (n : Int) < B) := by
          refine ⟨(min (max B 0) 16).toNat, ?_, ?_, fun n hn => ?_⟩
          · split <;> split <;> omega
          · omega
          · omega
        obtain ⟨j, ej, j16, jn⟩ := hJ
        refine ⟨t, _, j, _, rfl, congrArg V.int ej, SqL.of ht2, lineV_at (by omega), ?_⟩
        walk_at "go"
        have ik : ixN (lineV 17 g').length ((if (16 : Int) < (if (0 : Int) > B then 0 else B) then 16 else (if (0 : Int) > B then 0 else B))) = some j := by
          rw [lineV_len, ej]
          unfold ixN
          rw [if_pos (by omega), if_pos (by omega)]
          rfl
        refine ⟨t, _, _, _, rfl, rfl, ht2, ik, ⟨(_, _, _, _, _, _, _, _, _), rfl⟩, b2.trans (Off.at_ htt), ?_, fun k => if k = j then g' j + x.tn else g' k, ?_, fun n hn => ?_⟩
        · rw [upd_ne ne3]
          exact hb2
        · rw [upd_same, lineV_set (by omega)]
        · show tlF (fun k => if k = j then g' j + x.tn else g' k) (16 - n) = _
          rw [tlF_set j16 _ (by omega), tg n hn, tw, cw n hn]
          have := jn n hn
          by_cases z : n < j
          · rw [if_pos (by omega), if_pos ⟨d1, this.mp z⟩]
            omega
          · rw [if_neg (by omega), if_neg (fun h => z (this.mpr h.2))]
            omega
      · have d1 : ¬ y - x.ty < x.fa := dnot c
        refine ⟨⟨(_, _, _, _, _, _, _, _, _), rfl⟩, b2, hb2, g', ht2, fun n hn => ?_⟩
        rw [tg n hn, tw, cw n hn, if_neg (fun h => d1 h.1)]
        omega
  · rintro σ H' ⟨⟨l, rfl⟩, b1, hb1, g', ht1, tg⟩
    rw [al.1, List.take_length] at hb1 tg
    exact q H' g' b1 hb1 ht1 tg
end
end Pd
end
section
set_option Elab.async false
set_option linter.all false
set_option maxRecDepth 100000
set_option maxHeartbeats 4000000
namespace Pd
open PySem PySem.Spec PyProof.Rows L2
local macro_rules | `(tactic| walk_at "at") => `(tactic| first
  | assumption
  | exact upd_same
  | (refine (show Same _ _ by assumption) _ _ ?_; walk_at "at")
  | (refine (show But _ _ _ by assumption) _ _ (by assumption) ?_; assumption)
  | (refine Same.new (by assumption) _ _ ?_; walk_at "at")
  | (refine (upd_ne (ne_of (by assumption) (by assumption) (by intro z; cases z))).trans ?_; walk_at "at"))
local macro_rules | `(tactic| walk_at "go") => `(tactic| repeat (first
  | refine ⟨_, rfl, ?_⟩
  | refine ⟨_, _, rfl, rfl, ?_⟩
  | refine ⟨_, _, rfl, ?_⟩
  | refine ⟨_, _, _, rfl, ?_⟩
  | refine And.intro rfl ?_
  | refine And.intro (Or.inl ⟨by decide, by decide⟩) ?_
  | refine And.intro (Or.inr ⟨by decide, by decide⟩) ?_
  | refine And.intro ⟨by decide, by decide⟩ ?_
  | refine And.intro (Or.inl ⟨by omega, by omega⟩) ?_
  | refine And.intro (Or.inr ⟨by omega, by omega⟩) ?_
  | refine And.intro ⟨by omega, by omega⟩ ?_
  | refine And.intro trivial ?_
  | refine And.intro (by omega) ?_
  | refine And.intro (sz (Nat.le_of_ble_eq_true rfl)) ?_
  | refine And.intro (Or.inl ⟨rfl, _, SqL.of (by walk_at "at")⟩) ?_
  | refine ⟨_, _, _, _, rfl, rfl, SqT.of (by walk_at "at"), (by rfl), ?_⟩
  | refine ⟨_, _, _, _, rfl, rfl, SqL.of (by walk_at "at"), (by rfl), ?_⟩
  | refine ⟨_, _, _, _, _, rfl, (by walk_at "at"), (by assumption), (by assumption), Lk.h, ?_⟩
  | refine ⟨_, _, _, rfl, rfl, (by walk_at "at"), ?_⟩
  | refine ⟨_, _, _, rfl, (by walk_at "at"), LkN.h, ?_⟩
  | refine ⟨_, _, _, _, rfl, (by walk_at "at"), (by assumption), (by assumption), (by apply few_lt; decide), ?_⟩
  | refine ⟨_, _, (by walk_at "at"), (by apply few_lt; decide), ?_⟩
  | refine ⟨_, _, rfl, Or.inl (SqL.of (by walk_at "at")), ?_⟩))
theorem Off.same {L : List Addr} {H H1 H2 : Hp} (e : Same H H1) (o : Off L H1 H2) (f : ∀ a ∈ L, H a = none) : Same H H2 := fun a u h => o a u (fun m => by rw [f a m] at h; cases h) (e a u h)
theorem But.fresh {p : Addr} {H H1 H2 : Hp} (e : Same H H1) (b : But p H1 H2) (f : H p = none) : Same H H2 := fun a u h => b a u (ne_of_none h f) (e a u h)
theorem tlF_zero : ∀ d, tlF (fun _ => 0) d = 0
  | 0 => rfl
  | d + 1 => by
    show 0 + tlF _ d = 0
    rw [tlF_zero d] <;> rfl
theorem dne {x y : Int} (h : (!decide (V.int x = V.int y)) = true) : x ≠ y := fun e => by
  rw [e, decide_eq_true rfl] at h
  cases h
theorem dne_not {x y : Int} (h : ¬ (!decide (V.int x = V.int y)) = true) : x = y := by
  rcases Int.decEq x y with e | e
  · exact absurd (by rw [decide_eq_false (fun z => e (V.int.inj z))] <;> rfl) h
  · exact e
/-- which of the row's 16 places are within, as numbers -/
def hasI (s : Vd.Shape) (first y : Int) (n : Nat) : Int := if s.has (gridP first y n) = true then 1 else 0
section
variable {P : Program} {w : World} {K : PySem.W.Frag} {mg : Str → Option Value} {base : Heap}
theorem sc_Shape_row_within : FnScope ["self", "first", "y", "on_side", "turns", "row", "winding", "number", "inside"] ["self", "first", "y"] (defScope s_Shape_row_within) := ⟨rfl, rfl, rfl, by decide +kernel, rfl, by decide +kernel, by decide +kernel⟩
theorem bd_Shape_row_within : BindAll "row_within" "Shape.row_within" s_Shape_row_within ["self", "first", "y"] := fun _ _ _ _ _ _ us hl => match us, hl with | [_, _, _], _ => rfl
theorem ok_Shape_row_within (T : Txt K mg) : Ok P w K mg base CX0 2 (He.fAd K ("Shape", some "row_within")) ["self", "first", "y"] (fun vs H Q _ => ∃ (a : Addr) (z : Vd.Shape) (first y : Int), vs = [.ref a, .int first, .int y] ∧
    ShapeAt K H a z ∧ NearR first ∧ NearR y ∧ ∀ H' p, Same H H' → H p = none → H' p = some (.lst (lineV 16 (hasI z first y))) → Q (.ref p) H') := by
  refine mk_ok T.f_Shape_row_within sc_Shape_row_within bd_Shape_row_within (fun _ _ _ _ ⟨_, _, _, _, e, _⟩ => by rw [e]; rfl) fun cdv A outer s H vs Q E hr h => ?_
  obtain ⟨a, z, first, y, rfl, ⟨dx, ls, ll, ha, hS, hL, zs, nr⟩, n1, n2, q⟩ := h
  have bS := slants_b nr
  have bL := levels_b nr
  have fc_Shape := T.c_Shape
  have fn_Shape_rule := T.n_Shape_rule
  refine ⟨_, (pss_cons (ps_set (i := 3) sc_Shape_row_within.nd rfl (Or.inl rfl) (pe_op op_rep (pe_lst (pa_cons pe_int pa_nil)) (c_int rfl T.i_PLACES)))
      (pss_cons (ps_expr (c_meth (ok_Shape_meet_level (K := K) T) hr (by decide) T.c_Shape T.m_Shape_meet_level pass0 (pv 0) (pa_cons (pv 3) (pa_cons (pv 1) (pa_cons (pv 2) pa_nil)))))
      (pss_cons (ps_set (i := 4) sc_Shape_row_within.nd rfl (Or.inl rfl) (pe_op op_rep (pe_lst (pa_cons pe_int pa_nil)) (pe_op op_add (c_int rfl T.i_PLACES) pe_int)))
      (pss_cons (ps_expr (c_meth (ok_Shape_meet_slanted (K := K) T) hr (by decide) T.c_Shape T.m_Shape_meet_slanted pass0 (pv 0) (pa_cons (pv 3) (pa_cons (pv 4) (pa_cons (pv 1) (pa_cons (pv 2) pa_nil))))))
      (pss_cons (ps_set (i := 5) sc_Shape_row_within.nd rfl (Or.inl rfl) (pe_lst pa_nil))
      (pss_cons (ps_set (i := 6) sc_Shape_row_within.nd rfl (Or.inl rfl) (pe_callB (kx_sum (K := K) rfl rfl) (by rfl) T.z_sum (by decide +kernel) (pa_cons (pv 4) pa_nil)))
      (pss_cons (ps_for PassesOwn.never rfl (pi_range1 rfl T.z_range (pa_cons (c_int rfl T.i_PLACES) pa_nil)) (pg_name (i := 7) sc_Shape_row_within.nd rfl (Or.inl rfl)) (pss_cons (ps_aug (i := 6) sc_Shape_row_within.nd rfl (Or.inl rfl) (pe_ix (kx_ixl (K := K) rfl) (pv 4) (pv 7) (fun _ _ => rfl)) ip_sub)
      (pss_cons (ps_set (i := 8) sc_Shape_row_within.nd rfl (Or.inl rfl) (pe_ifExp (pt_cmpR op_eq (kx_fld (K := K) rfl (pv 0) rfl) pe_int (nomark _)) (pe_cmpR op_ne (pv 6) pe_int (nomark _)) (pe_cmpR op_eq (pe_op op_mod (pv 6) pe_int) pe_int (nomark _))))
      (pss_one (ps_expr (kx_bm (K := K) rfl PySem.F.plainAttrs_list PySem.F.slot_list_append PySem.F.type_list_append mt_append (pv 5) (pa_cons (pe_ifExp (PW.pt (pw_or (pt_val (pv 8)) (pw_or1 (pt_cmpR op_eq (pe_ix (kx_ixl (K := K) rfl) (pv 3) (pv 7) (fun _ _ => rfl)) pe_int (nomark _))))) pe_int pe_int) pa_nil)))))))
      (pss_one (ps_ret (pv 5)))))))))), ?_⟩
  walk_at "go"
  intro l0 hl0
  walk_at "go"
  intro b hb
  have s1 := (Same.new (o := .lst [V.int 0]) hl0).trans (Same.new (o := .lst (List.replicate (16 : Int).toNat [V.int 0]).flatten) hb)
  have b1 : (upd (upd H l0 (.lst [V.int 0])) b (.lst (List.replicate (16 : Int).toNat [V.int 0]).flatten)) b = some (.lst (lineV 16 fun _ => 0)) := by
    rw [upd_same]
    exact congrArg (fun z => some (HO.lst z)) (rep_line 16 0)
  have fb : H b = none := (Same.new (o := .lst [V.int 0]) hl0).free hb
  generalize upd (upd H l0 (.lst [V.int 0])) b (.lst (List.replicate (16 : Int).toNat [V.int 0]).flatten) = H1 at s1 b1
  have a1 := s1 _ _ ha
  have hS1 := ListOf.mono (R := SlAt) (fun _ _ _ _ e h => TupI.mono e h) s1 hS
  have hL1 := ListOf.mono (R := LvAt) (fun _ _ _ _ e h => TupI.mono e h) s1 hL
  have nell : ∀ {b : Addr} {xs : List Lv}, ListOf LvAt H ll xs → H b = none → b ≠ ll := fun h f e => by
    obtain ⟨vs, h, _⟩ := h
    rw [← e, f] at h
    cases h
  have nels : ∀ {b : Addr} {xs : List Sl}, ListOf SlAt H ls xs → H b = none → b ≠ ls := fun h f e => by
    obtain ⟨vs, h, _⟩ := h
    rw [← e, f] at h
    cases h
  walk_at "go"
  refine ⟨a, dx, b, ll, _, _, first, y, _, _, rfl, a1, hL1, bL, n1, nell hL fb, b1, fun H2 o2 b2 => ?_⟩
  have s2 : Same H H2 := Off.same (L := [b]) s1 (fun x u n h => o2 x u (fun e => n (by rw [e]; exact List.mem_singleton.mpr rfl)) h) (fun x m => by rw [List.mem_singleton.mp m]; exact fb)
  walk_at "go"
  intro l1 hl1
  walk_at "go"
  intro t ht
  have s3 := (Same.new (o := .lst [V.int 0]) hl1).trans (Same.new (o := .lst (List.replicate ((16 : Int) + 1).toNat [V.int 0]).flatten) ht)
  have t3 : (upd (upd H2 l1 (.lst [V.int 0])) t (.lst (List.replicate ((16 : Int) + 1).toNat [V.int 0]).flatten)) t = some (.lst (lineV 17 fun _ => 0)) := by
    rw [upd_same]
    exact congrArg (fun z => some (HO.lst z)) (rep_line 17 0)
  have ft2 : H2 t = none := (Same.new (o := .lst [V.int 0]) hl1).free ht
  have ft : H t = none := s2.free ft2
  have b3 := s3 _ _ b2
  generalize upd (upd H2 l1 (.lst [V.int 0])) t (.lst (List.replicate ((16 : Int) + 1).toNat [V.int 0]).flatten) = H3 at s3 t3 b3
  have s03 := s2.trans s3
  have a3 := s03 _ _ ha
  walk_at "go"
  have ebt : b ≠ t := ne_of_none b2 ft2
  refine ⟨a, dx, b, t, ls, _, _, first, y, _, _, _, rfl, a3, ListOf.mono (R := SlAt) (fun _ _ _ _ e h => TupI.mono e h) s03 hS, bS, n1, n2, nels hS fb, nels hS ft, ebt, b3, t3, fun H4 g4 o4 b4 t4 tl => ?_⟩
  have s4 : Same H H4 := Off.same s03 o4 (fun x m => by
    rcases List.mem_cons.mp m with e | m
    · rw [e]; exact fb
    · rw [List.mem_singleton.mp m]; exact ft)
  have a4 := s4 _ _ ha
  walk_at "go"
  intro R hR
  have s5 := Same.new (o := .lst []) hR
  have R5 : (upd H4 R (.lst [])) R = _ := upd_same
  have fR : H R = none := s4.free hR
  generalize upd H4 R (.lst []) = H5 at s5 R5
  have b5 := s5 _ _ b4
  have t5 := s5 _ _ t4
  have a5 := s5 _ _ a4
  have eRb : b ≠ R := ne_of_none b4 hR
  have eRt : t ≠ R := ne_of_none t4 hR
  have eRa : a ≠ R := ne_of_none a4 hR
  walk_at "go"
  refine ⟨t, (List.range 17).map g4, rfl, SqL.of (by rw [t5, lineV_ints]), ?_⟩
  walk_at "go"
  refine for_range (fun k σ H' => (∃ d e : Option V, σ = [some (.ref a), some (.int first), some (.int y), some (.ref b), some (.ref t), some (.ref R), some (.int (tlF g4 (17 - k))), d, e]) ∧ But R H5 H' ∧ H' R = some (.lst (lineV k (hasI z first y))))
    ⟨⟨none, none, by rw [tlF_all] <;> rfl⟩, But.refl _ _, R5⟩ ?_ ?_
  · rintro k σ H' hk ⟨⟨d, e, rfl⟩, b6, R6⟩
    have a6 := b6 _ _ eRa a5
    have k16 : k < 16 := hk
    have lt : (lineV 17 g4)[k]? = some (.int (g4 k)) := lineV_at (by omega)
    walk_at "go"
    have ebR : b ≠ R := eRb
    have t6 := b6 _ _ eRt t5
    have bb6 := b6 _ _ eRb b5
    have hw : tlF g4 (17 - k) - g4 k = tlF g4 (17 - (k + 1)) := by
      have : 17 - k = (16 - k) + 1 := by omega
      rw [this]
      show g4 (16 - (16 - k)) + tlF g4 (16 - k) - g4 k = _
      rw [show 16 - (16 - k) = k by omega, show 17 - (k + 1) = 16 - k by omega]
      omega
    have hwin : tlF g4 (17 - (k + 1)) = wind (gridP first y k) (slants z.sides) := by
      rw [show 17 - (k + 1) = 16 - k by omega, tl k k16, tlF_zero]
      omega
    refine ⟨t, _, _, _, rfl, rfl, SqL.of t6, at_of (j := k) (by omega) lt, ?_⟩
    walk_at "go"
    have fin : ∀ (v : Int) (σ' : L2.St), v = hasI z first y k → (∃ e : Option V, σ' = [some (.ref a), some (.int first), some (.int y), some (.ref b), some (.ref t), some (.ref R), some (.int (tlF g4 (17 - k) - g4 k)), some (.int (0 + k)), e]) → (∃ d e : Option V, σ' = [some (.ref a), some (.int first), some (.int y), some (.ref b), some (.ref t), some (.ref R), some (.int (tlF g4 (17 - (k + 1)))), d, e]) ∧ But R H5 (upd H' R (.lst (lineV k (hasI z first y) ++ [.int v]))) ∧
        (upd H' R (.lst (lineV k (hasI z first y) ++ [.int v]))) R = some (.lst (lineV (k + 1) (hasI z first y))) := by
      rintro v σ' rfl ⟨e, rfl⟩
      exact ⟨⟨_, _, by rw [hw]⟩, b6.trans But.at_, by rw [upd_same, lineV_snoc]⟩
    have ovat : (lineV 16 fun n => if (slants z.sides).any (onSl (gridP first y n)) = true then 1 else if (levels z.sides).any (onLv (gridP first y n)) = true then 1 else 0)[k]? = some (.int (if (slants z.sides).any (onSl (gridP first y k)) = true then 1 else if (levels z.sides).any (onLv (gridP first y k)) = true then 1 else 0)) := lineV_at k16
    have hon : (if (slants z.sides).any (onSl (gridP first y k)) = true then 1 else if (levels z.sides).any (onLv (gridP first y k)) = true then (1 : Int) else 0) = 1 ↔ ((levels z.sides).any (onLv (gridP first y k)) || (slants z.sides).any (onSl (gridP first y k))) = true := by
      cases (slants z.sides).any (onSl (gridP first y k)) <;> cases (levels z.sides).any (onLv (gridP first y k)) <;> decide
    generalize hov : (if (slants z.sides).any (onSl (gridP first y k)) = true then 1 else if (levels z.sides).any (onLv (gridP first y k)) = true then (1 : Int) else 0) = ov at ovat hon
    rw [← hw] at hwin
    have hI : hasI z first y k = if ov = 1 ∨ (if z.evenOdd = true then (tlF g4 (17 - k) - g4 k) % 2 = 1 else tlF g4 (17 - k) - g4 k ≠ 0) then 1 else 0 := by
      unfold hasI
      refine ite_iff ?_ rfl rfl
      rw [has_is]
      unfold within
      rw [Bool.or_eq_true, ← hon, ← hwin]
      refine or_congr_right ?_
      cases z.evenOdd with
      | true => rw [if_pos rfl, if_pos rfl, beq_iff_eq]
      | false => rw [if_neg (by decide), if_neg (by decide), bne_iff_ne]
    have lk : (lineV k (hasI z first y)).length = k := lineV_len _ _
    have lk2 : (lineV k (hasI z first y)).length < sizeLine := szl (by omega)
    have hr0 : ruleI z = if z.evenOdd = true then 1 else 0 := rfl
    refine ite2 (fun c => ?_) (fun c => ?_)
    · have c0 : z.evenOdd = false := by
        cases e : z.evenOdd with
        | false => rfl
        | true =>
          rw [e] at hr0
          have := dint c
          rw [hr0] at this
          cases this
      walk_at "go"
      refine ite2 (fun c => ?_) (fun c => ?_)
      · have c1 : tlF g4 (17 - k) - g4 k ≠ 0 := dne c
        walk_at "go"
        exact fin _ _ (by rw [hI, if_pos (.inr (by rw [c0]; exact c1))]) ⟨_, rfl⟩
      · have c1 : ¬ (tlF g4 (17 - k) - g4 k ≠ 0) := fun z => z (dne_not c)
        walk_at "go"
        refine ⟨b, _, _, _, rfl, rfl, SqL.of bb6, at_of (j := k) (by omega) ovat, ?_⟩
        walk_at "go"
        refine ite2 (fun c => ?_) (fun c => ?_)
        · have c2 := dint c
          walk_at "go"
          exact fin _ _ (by rw [hI, if_pos (.inl c2)]) ⟨_, rfl⟩
        · have c2 := dint_not c
          walk_at "go"
          exact fin _ _ (by rw [hI, if_neg (fun h => h.elim c2 (by rw [c0]; exact c1))]) ⟨_, rfl⟩
    · have c0 : z.evenOdd = true := by
        cases e : z.evenOdd with
        | true => rfl
        | false =>
          rw [e] at hr0
          exact absurd hr0 (dint_not c)
      walk_at "go"
      refine ite2 (fun c => ?_) (fun c => ?_)
      · have c1 : (tlF g4 (17 - k) - g4 k) % 2 = 1 := dint c
        walk_at "go"
        exact fin _ _ (by rw [hI, if_pos (.inr (by rw [c0]; exact c1))]) ⟨_, rfl⟩
      · have c1 : ¬ ((tlF g4 (17 - k) - g4 k) % 2 = 1) := dint_not c
        walk_at "go"
        refine ⟨b, _, _, _, rfl, rfl, SqL.of bb6, at_of (j := k) (by omega) ovat, ?_⟩
        walk_at "go"
        refine ite2 (fun c => ?_) (fun c => ?_)
        · have c2 := dint c
          walk_at "go"
          exact fin _ _ (by rw [hI, if_pos (.inl c2)]) ⟨_, rfl⟩
        · have c2 := dint_not c
          walk_at "go"
          exact fin _ _ (by rw [hI, if_neg (fun h => h.elim c2 (by rw [c0]; exact c1))]) ⟨_, rfl⟩
  · rintro σ H' ⟨⟨d, e, rfl⟩, b6, R6⟩
    walk_at "go"
    exact q H' R (But.fresh (s4.trans s5) b6 fR) fR R6
end
end Pd
end
section
set_option Elab.async false
set_option linter.all false
set_option maxRecDepth 100000
set_option maxHeartbeats 4000000
namespace Pd
open PySem PySem.Spec PyProof.Rows L2
local macro_rules | `(tactic| walk_at "at") => `(tactic| first
  | assumption
  | exact upd_same
  | (refine (show Same _ _ by assumption) _ _ ?_; walk_at "at")
  | (refine (show But _ _ _ by assumption) _ _ (by assumption) ?_; assumption)
  | (refine Same.new (by assumption) _ _ ?_; walk_at "at")
  | (refine (upd_ne (ne_of (by assumption) (by assumption) (by intro z; cases z))).trans ?_; walk_at "at"))
local macro_rules | `(tactic| walk_at "go") => `(tactic| repeat (first
  | refine ⟨_, rfl, ?_⟩
  | refine ⟨_, _, rfl, rfl, ?_⟩
  | refine ⟨_, _, rfl, ?_⟩
  | refine ⟨_, _, _, rfl, ?_⟩
  | refine And.intro rfl ?_
  | refine And.intro (Or.inl ⟨by decide, by decide⟩) ?_
  | refine And.intro (Or.inr ⟨by decide, by decide⟩) ?_
  | refine And.intro ⟨by decide, by decide⟩ ?_
  | refine And.intro (Or.inl ⟨by omega, by omega⟩) ?_
  | refine And.intro (Or.inr ⟨by omega, by omega⟩) ?_
  | refine And.intro ⟨by omega, by omega⟩ ?_
  | refine And.intro trivial ?_
  | refine And.intro (by omega) ?_
  | refine And.intro (sz (Nat.le_of_ble_eq_true rfl)) ?_
  | refine And.intro (Or.inl ⟨rfl, _, SqL.of (by walk_at "at")⟩) ?_
  | refine ⟨_, _, _, _, rfl, rfl, SqT.of (by walk_at "at"), (by rfl), ?_⟩
  | refine ⟨_, _, _, _, rfl, rfl, SqL.of (by walk_at "at"), (by rfl), ?_⟩
  | refine ⟨_, _, _, _, _, rfl, (by walk_at "at"), (by assumption), (by assumption), Lk.h, ?_⟩
  | refine ⟨_, _, _, rfl, rfl, (by walk_at "at"), ?_⟩
  | refine ⟨_, _, _, rfl, (by walk_at "at"), LkN.h, ?_⟩
  | refine ⟨_, _, _, _, rfl, (by walk_at "at"), (by assumption), (by assumption), (by apply few_lt; decide), ?_⟩
  | refine ⟨_, _, (by walk_at "at"), (by apply few_lt; decide), ?_⟩
  | refine ⟨_, _, rfl, Or.inl (SqL.of (by walk_at "at")), ?_⟩))
/-- a shape, by reference; a row of 16 numbers, by reference -/
def ShRef (K : PySem.W.Frag) (H : Hp) (v : V) (z : Vd.Shape) : Prop := ∃ p, v = .ref p ∧ ShapeAt K H p z
theorem ShRef.mono {K : PySem.W.Frag} {H H' : Hp} {v : V} {z : Vd.Shape} (s : Same H H') (h : ShRef K H v z) : ShRef K H' v z := let ⟨p, a, b⟩ := h; ⟨p, a, b.mono s⟩
def RowAt (H : Hp) (v : V) (f : Nat → Int) : Prop := ∃ p, v = .ref p ∧ H p = some (.lst (lineV 16 f))
theorem RowAt.mono {H H' : Hp} {v : V} {f : Nat → Int} (s : Same H H') (h : RowAt H v f) : RowAt H' v f := let ⟨p, a, b⟩ := h; ⟨p, a, s _ _ b⟩
/-- whether a place is within all -/
def inI (zs : List Vd.Shape) (i j : Int) (r n : Nat) : Int := if Vd.inAll zs (gridP (placeI i 0) (placeI j r) n) = true then 1 else 0
theorem inI_snoc (zs : List Vd.Shape) (z : Vd.Shape) (i j : Int) (r n : Nat) : inI (zs ++ [z]) i j r n = inI zs i j r n * hasI z (placeI i 0) (placeI j r) n := by
  unfold inI hasI Vd.inAll
  rw [List.all_append, List.all_cons, List.all_nil, Bool.and_true]
  cases zs.all fun (s : Vd.Shape) => s.has (gridP (placeI i 0) (placeI j r) n) <;> cases z.has (gridP (placeI i 0) (placeI j r) n) <;> rfl
theorem inI_bit (zs : List Vd.Shape) (i j : Int) (r n : Nat) : 0 ≤ inI zs i j r n ∧ inI zs i j r n ≤ 1 := by
  unfold inI
  split <;> decide
section
variable {P : Program} {w : World} {K : PySem.W.Frag} {mg : Str → Option Value} {base : Heap}
theorem sc_covered_rows : FnScope ["shapes", "i", "j", "rows", "number", "row", "shape", "found", "one", "other"] ["shapes", "i", "j"] (defScope s_covered_rows) := ⟨rfl, rfl, rfl, by decide +kernel, rfl, by decide +kernel, by decide +kernel⟩
theorem bd_covered_rows : BindAll "covered_rows" "covered_rows" s_covered_rows ["shapes", "i", "j"] := fun _ _ _ _ _ _ us hl => match us, hl with | [_, _, _], _ => rfl
theorem ok_covered_rows (T : Txt K mg) : Ok P w K mg base CX0 3 (He.fAd K ("covered_rows", none)) ["shapes", "i", "j"] (fun vs H Q _ => ∃ (a : Addr) (zs : List Vd.Shape) (i j : Int), vs = [.ref a, .int i, .int j] ∧
    ListOf (ShRef K) H a zs ∧ zs.length ≤ 40 ∧ (-1100000 ≤ i ∧ i ≤ 1100000) ∧ (-1100000 ≤ j ∧ j ≤ 1100000) ∧ ∀ H' p, Same H H' → H p = none → ListOf RowAt H' p ((List.range 16).map fun r => inI zs i j r) → Q (.ref p) H') := by
  refine mk_ok T.f_covered_rows sc_covered_rows bd_covered_rows (fun _ _ _ _ ⟨_, _, _, _, e, _⟩ => by rw [e]; rfl) fun cdv A outer s H vs Q E hr h => ?_
  obtain ⟨a, zs, i, j, rfl, ⟨us, ha, au⟩, zl, ⟨i1, i2⟩, ⟨j1, j2⟩, q⟩ := h
  refine ⟨_, (pss_cons (ps_set (i := 3) sc_covered_rows.nd rfl (Or.inl rfl) (pe_lst pa_nil))
      (pss_cons (ps_for PassesOwn.never rfl (pi_range1 rfl T.z_range (pa_cons (c_int rfl T.i_PLACES) pa_nil)) (pg_name (i := 4) sc_covered_rows.nd rfl (Or.inl rfl)) (pss_cons (ps_set (i := 5) sc_covered_rows.nd rfl (Or.inl rfl) (pe_op op_rep (pe_lst (pa_cons pe_int pa_nil)) (c_int rfl T.i_PLACES)))
      (pss_cons (ps_for PassesOwn.never rfl (kx_list (K := K) rfl (pv 0)) (pg_name (i := 6) sc_covered_rows.nd rfl (Or.inl rfl)) (pss_one (ps_if (pt_val (pe_callB (kx_anyI (K := K) rfl rfl) (by rfl) T.z_any (by decide +kernel) (pa_cons (pv 5) pa_nil))) (pss_cons (ps_set (i := 7) sc_covered_rows.nd rfl (Or.inl rfl) (c_meth (ok_Shape_row_within (K := K) T) hr (by decide) T.c_Shape T.m_Shape_row_within pass0 (pv 6) (pa_cons (c_call (ok_place_at (K := K) T) hr (by decide) rfl T.g_place_at pass0 (pa_cons (pv 1) (pa_cons pe_int pa_nil))) (pa_cons (c_call (ok_place_at (K := K) T) hr (by decide) rfl T.g_place_at pass0 (pa_cons (pv 2) (pa_cons (pv 4) pa_nil))) pa_nil))))
      (pss_one (ps_setLc (i := 5) (own := [("one", 8), ("other", 9)]) (by rfl) sc_covered_rows.nd rfl rfl (sw_true rfl rfl rfl (by decide +kernel)) (kx_zip (K := K) rfl (by rfl) T.z_zip (pa_cons (pv 5) (pa_cons (pv 7) pa_nil))) (blkOk_by (own := [("one", 8), ("other", 9)]) (N := ["shapes", "i", "j", "rows", "number", "row", "shape", "found", "one", "other"]) (sc := defScope s_covered_rows) (by decide +kernel)) (fun _ _ _ _ _ => (kx_tup (K := K) (n := 2) rfl rfl (pgs_cons (pg_name (i := 8) sc_covered_rows.nd rfl (Or.inl rfl)) (pgs_cons (pg_name (i := 9) sc_covered_rows.nd rfl (Or.inl rfl)) pgs_nil)))) (fun _ _ _ _ _ => pts_nil) (fun _ _ _ _ _ => (pe_op op_mul (pv 8) (pv 9)))))) pss_nil)))
      (pss_one (ps_expr (kx_bm (K := K) rfl PySem.F.plainAttrs_list PySem.F.slot_list_append PySem.F.type_list_append mt_append (pv 3) (pa_cons (pv 5) pa_nil)))))))
      (pss_one (ps_ret (pv 3))))), ?_⟩
  walk_at "go"
  intro R hR
  have s1 := Same.new (o := .lst []) hR
  have R1 : (upd H R (.lst [])) R = _ := upd_same
  generalize upd H R (.lst []) = H1 at s1 R1
  walk_at "go"
  refine for_range (fun k σ H' => (∃ c d e f g g2 : Option V, σ = [some (.ref a), some (.int i), some (.int j), some (.ref R), c, d, e, f, g, g2]) ∧ Same H H' ∧ ListOf RowAt H' R ((List.range k).map fun r => inI zs i j r))
    ⟨⟨none, none, none, none, none, none, rfl⟩, s1, ⟨[], R1, All.nil⟩⟩ ?_ ?_
  · rintro k σ H' hk ⟨⟨c, d, e, f, g, g2, rfl⟩, s2, ⟨rs, hrs, ar⟩⟩
    walk_at "go"
    intro l0 hl0
    walk_at "go"
    intro b hb
    have s3 := (Same.new (o := .lst [V.int 1]) hl0).trans (Same.new (o := .lst (List.replicate (16 : Int).toNat [V.int 1]).flatten) hb)
    have b3 : (upd (upd H' l0 (.lst [V.int 1])) b (.lst (List.replicate (16 : Int).toNat [V.int 1]).flatten)) b = some (.lst (lineV 16 fun _ => 1)) := by
      rw [upd_same]
      exact congrArg (fun z => some (HO.lst z)) (rep_line 16 1)
    generalize upd (upd H' l0 (.lst [V.int 1])) b (.lst (List.replicate (16 : Int).toNat [V.int 1]).flatten) = H3 at s3 b3
    have s03 := s2.trans s3
    have pj : NearR (placeI j k) ∧ NearR (placeI i 0) := by
      unfold placeI NearR
      omega
    walk_at "go"
    refine ⟨⟨_, SqL.of (s03 _ _ ha)⟩, for_list (xs := us) (fun m σ H' => (∃ (r : Addr) (d e f g : Option V), σ = [some (.ref a), some (.int i), some (.int j), some (.ref R), some (.int (0 + k)), some (.ref r), d, e, f, g] ∧ H' r = some (.lst (lineV 16 (inI (zs.take m) i j k)))) ∧ Same H3 H')
      ⟨⟨b, _, _, _, _, rfl, b3⟩, Same.refl _⟩ (fun m σ H' _ h => SqL.of (h.2 _ _ (s03 _ _ ha))) ?_ ?_⟩
    · rintro m v σ H4 hv ⟨⟨r, d4, e4, f4, g4, rfl, r4⟩, s4⟩
      obtain ⟨z, hz, pz, rfl, hsh⟩ := au.get hv
      have tk : zs.take (m + 1) = zs.take m ++ [z] := by rw [List.take_add_one, hz] <;> rfl
      have sh4 := hsh.mono (s03.trans s4)
      obtain ⟨dxz, lsz, llz, haz, _⟩ := id sh4
      walk_at "go"
      refine ⟨r, (List.range 16).map (inI (zs.take m) i j k), rfl, SqL.of (by rw [r4, lineV_ints]), ?_⟩
      walk_at "go"
      refine ite2 (fun c => ?_) (fun c => ?_)
      · walk_at "go"
        refine ⟨pz, z, _, _, rfl, sh4, pj.2, ?_, fun H5 p5 s5 hp5 hr5 => ?_⟩
        · have := pj.1
          rw [Int.zero_add]
          exact this
        walk_at "go"
        have r5 := s5 _ _ r4
        refine ⟨r, p5, _, _, rfl, SqL.of r5, SqL.of hr5, fun D hD => ?_⟩
        refine lc_build (walk_zip (n := 16) (by rw [lineV_len, lineV_len] <;> rfl)) (fun n y _ => y = .int (inI (zs.take (m + 1)) i j k n)) (fun _ _ _ _ _ _ _ e => e) hD (fun H' e => ⟨SqL.of (e _ _ r5), SqL.of (e _ _ hr5)⟩) (by decide) ?_ ?_
        · rintro n x H6 H7 F B hn s6 ⟨t, x1, x2, rfl, ht, rfl, hx1, hx2⟩ hF
          replace hx1 : some (V.int _) = some x1 := (lineV_at hn).symm.trans hx1
          replace hx2 : some (V.int _) = some x2 := (lineV_at hn).symm.trans hx2
          cases hx1
          cases hx2
          have bt := inI_bit (zs.take m) i j k n
          refine ⟨t, _, rfl, SqT.of upd_same, rfl, ?_⟩
          walk_at "go"
          refine hF _ _ (Same.new ht) ?_
          rw [tk, inI_snoc, Int.zero_add]
        · intro H6 ys s6 hy hl ho
          have ey : ys = lineV 16 (inI (zs.take (m + 1)) i j k) := by
            refine List.ext_getElem? fun n => ?_
            rcases Nat.lt_or_ge n 16 with c | c
            · rw [lineV_at c, List.getElem?_eq_getElem (by omega), ho n ys[n] (List.getElem?_eq_getElem (by omega))]
            · rw [List.getElem?_eq_none (by omega), List.getElem?_eq_none (by rw [lineV_len]; exact c)]
          rw [ey] at hy
          walk_at "go"
          exact ⟨⟨D, _, _, _, _, rfl, hy⟩, (s4.trans s5).trans s6⟩
      · walk_at "go"
        refine ⟨⟨r, _, _, _, _, rfl, ?_⟩, s4⟩
        rw [r4]
        refine congrArg (fun z => some (HO.lst z)) (lineV_ext fun n hn => ?_)
        have : inI (zs.take m) i j k n = 0 := by
          rcases Int.decEq (inI (zs.take m) i j k n) 0 with h | h
          · refine absurd ?_ c
            exact List.any_eq_true.mpr ⟨_, List.mem_map.mpr ⟨n, List.mem_range.mpr hn, rfl⟩, bne_iff_ne.mpr h⟩
          · exact h
        rw [tk, inI_snoc, this, Int.zero_mul]
    · rintro σ H4 ⟨⟨r, d4, e4, f4, g4, rfl, r4⟩, s4⟩
      rw [au.1, List.take_length] at r4
      have hrs4 := (s3.trans s4) _ _ hrs
      have lrs := ar.1
      rw [List.length_map, List.length_range] at lrs
      have k16 : k < 16 := hk
      have lrs2 : rs.length < sizeLine := szl (by omega)
      walk_at "go"
      have nRr : r ≠ R := fun e => by
        rw [e, hrs4] at r4
        have := congrArg List.length (HO.lst.inj (Option.some.inj r4))
        rw [lineV_len] at this
        omega
      refine ⟨⟨_, _, _, _, _, _, rfl⟩, (Off.same (L := [R]) (s03.trans s4) (Off.at_ (List.mem_singleton.mpr rfl)) (fun x m => by rw [List.mem_singleton.mp m]; exact hR)), _, upd_same, ?_⟩
      rw [List.range_succ, List.map_append]
      refine All.snoc (ar.imp fun v f hv => ?_) ⟨r, rfl, ?_⟩
      · obtain ⟨p, rfl, hp⟩ := hv.mono (s3.trans s4)
        refine ⟨p, rfl, ?_⟩
        rw [upd_ne (fun e => ?_)]
        · exact hp
        · rw [e, hrs4] at hp
          have := congrArg List.length (HO.lst.inj (Option.some.inj hp))
          rw [lineV_len] at this
          omega
      · rw [upd_ne nRr]
        exact r4
  · rintro σ H' ⟨⟨c, d, e, f, g, g2, rfl⟩, s2, lr⟩
    walk_at "go"
    exact q H' R s2 hR lr
end
end Pd
end
section
set_option linter.all false
set_option maxHeartbeats 1000000
/-! Plain mathematics: shades -/
namespace Pd
open Vd
theorem spread_is {how : Nat} {t : Int} (h : how ≤ 2) : ∃ n : Nat, n ≤ 65536 ∧ spreadI how t = (n : Int) ∧ folded how t = (n : Int) := by
  refine ⟨(spreadI how t).toNat, ?_, ?_, ?_⟩
  all_goals
    unfold spreadI
    try unfold folded Vd.WHOLE
    rcases Nat.lt_or_ge how 1 with c | c
    · have e : how = 0 := by omega
      subst e
      simp
      omega
    · rcases Nat.lt_or_ge how 2 with c2 | c2
      · have e : how = 1 := by omega
        subst e
        simp
        omega
      · have e : how = 2 := by omega
        subst e
        simp
        split <;> (try split) <;> omega
theorem mixed1_ok {u v : Nat} {x n : Int} (h0 : 0 ≤ x) (h1 : x ≤ n) (hn : 0 < n) : ((mixed1 u v x n : Nat) : Int) = (u : Int) + (((v : Int) - (u : Int)) * x) / n ∧ mixed1 u v x n ≤ max u v := by
  have l1 : -(u : Int) * n ≤ ((v : Int) - u) * x := by
    rcases Int.le_total 0 ((v : Int) - u) with c | c
    · have a := Int.mul_nonneg c h0
      have b := Int.mul_nonneg (Int.natCast_nonneg u) (Int.le_of_lt hn)
      rw [Int.neg_mul]
      omega
    · have a := Int.mul_le_mul_of_nonpos_left c h1
      have b := Int.mul_le_mul_of_nonneg_right (show -(u : Int) ≤ (v : Int) - u by omega) (Int.le_of_lt hn)
      omega
  have l2 : ((v : Int) - u) * x ≤ ((max u v : Nat) - (u : Int)) * n := by
    rcases Int.le_total 0 ((v : Int) - u) with c | c
    · have a := Int.mul_le_mul_of_nonneg_left h1 c
      have b := Int.mul_le_mul_of_nonneg_right (show (v : Int) - u ≤ (max u v : Nat) - (u : Int) by omega) (Int.le_of_lt hn)
      omega
    · have a := Int.mul_nonpos_of_nonpos_of_nonneg c h0
      have b := Int.mul_nonneg (show (0 : Int) ≤ (max u v : Nat) - (u : Int) by omega) (Int.le_of_lt hn)
      omega
  have l3 : -(u : Int) ≤ (((v : Int) - (u : Int)) * x) / n := (Int.le_ediv_iff_mul_le hn).mpr l1
  have l4 : (((v : Int) - (u : Int)) * x) / n ≤ (max u v : Nat) - (u : Int) := Int.ediv_le_of_le_mul hn l2
  unfold mixed1
  omega
/-- so many of the first stops are not behind t -/
def passM (t : Int) (l : List Stop) : Nat := (l.takeWhile fun s => decide ((s.at_ : Int) ≤ t)).length
theorem passM_le (t : Int) (l : List Stop) : passM t l ≤ l.length := (List.takeWhile_sublist _).length_le
theorem passM_cons (t : Int) (p : Stop) (l : List Stop) : passM t (p :: l) = if (p.at_ : Int) ≤ t then passM t l + 1 else 0 := by
  unfold passM
  rw [List.takeWhile_cons]
  by_cases c : (p.at_ : Int) ≤ t
  · rw [decide_eq_true c, if_pos c] <;> rfl
  · rw [decide_eq_false c, if_neg c] <;> rfl
def Rise (l : List Stop) : Prop := l.Pairwise fun a b => a.at_ ≤ b.at_
theorem pass_iff (t : Int) : ∀ (l : List Stop) (i : Nat) (s : Stop), Rise l → l[i]? = some s → ((s.at_ : Int) ≤ t ↔ i < passM t l)
  | [], i, s, _, h => by simp at h
  | p :: l, 0, s, hr, h => by
    obtain rfl : p = s := by simpa using h
    rw [passM_cons]
    split <;> omega
  | p :: l, i + 1, s, hr, h => by
    have h' : l[i]? = some s := by simpa using h
    have hr' := List.pairwise_cons.mp hr
    have ih := pass_iff t l i s hr'.2 h'
    have : p.at_ ≤ s.at_ := hr'.1 s (List.mem_of_getElem? h')
    rw [passM_cons]
    split <;> omega
theorem stopsAt_is (t : Int) : ∀ (p : Stop) (r : List Stop), stopsAt t p r = match (p :: r)[passM t r]?, (p :: r)[passM t r + 1]? with
    | some a, some b => mixAt a b t
    | some a, none => a.col
    | _, _ => nothing
  | p, [] => rfl
  | p, q :: r => by
    rw [stopsAt, passM_cons]
    by_cases c : (q.at_ : Int) ≤ t
    · rw [if_pos c, if_pos c, stopsAt_is t q r]
      simp
    · rw [if_neg c, if_neg c]
      rfl
theorem shadeAt_is (t : Int) (p : Stop) (r : List Stop) : shadeAt (p :: r) t = if passM t (p :: r) = 0 then p.col else match (p :: r)[passM t (p :: r) - 1]?, (p :: r)[passM t (p :: r)]? with
    | some a, some b => mixAt a b t
    | some a, none => a.col
    | _, _ => nothing := by
  show (if t < (p.at_ : Int) then p.col else stopsAt t p r) = _
  rw [passM_cons]
  by_cases c : (p.at_ : Int) ≤ t
  · rw [if_neg (by omega), if_pos c, if_neg (by omega), stopsAt_is, Nat.add_sub_cancel]
  · rw [if_pos (by omega), if_neg c, if_pos rfl]
/-- stops that a shade may have -/
def StopsG (l : List Stop) : Prop := 2 ≤ l.length ∧ l.length ≤ 16 ∧ Rise l ∧ ∀ s ∈ l, s.at_ ≤ 65536 ∧ Sml s.col
theorem mixAt_sml {p q : Stop} {t : Int} (hp : Sml p.col) (hq : Sml q.col) (h1 : (p.at_ : Int) ≤ t) (h2 : t < (q.at_ : Int)) : Sml (mixAt p q t) := by
  obtain ⟨a1, a2, a3, a4⟩ := hp
  obtain ⟨b1, b2, b3, b4⟩ := hq
  have f : ∀ u v : Nat, u ≤ 255 → v ≤ 255 → mixed1 u v (t - (p.at_ : Int)) ((q.at_ : Int) - (p.at_ : Int)) ≤ 255 := fun u v hu hv => by
    have := (mixed1_ok (u := u) (v := v) (x := t - (p.at_ : Int)) (n := (q.at_ : Int) - (p.at_ : Int)) (by omega) (by omega) (by omega)).2
    omega
  exact ⟨f _ _ a1 b1, f _ _ a2 b2, f _ _ a3 b3, f _ _ a4 b4⟩
theorem shade_sml {l : List Stop} {t : Int} (h : StopsG l) : Sml (shadeAt l t) := by
  obtain ⟨h1, h2, h3, h4⟩ := h
  cases l with
  | nil => exact absurd h1 (by simp)
  | cons p r =>
    rw [shadeAt_is]
    split
    · exact (h4 p (List.mem_cons_self ..)).2
    · rename_i c
      have hm := passM_le t (p :: r)
      have l1 : passM t (p :: r) - 1 < (p :: r).length := by omega
      have e1 := List.getElem?_eq_getElem l1
      generalize (p :: r)[passM t (p :: r) - 1] = a at e1
      rw [e1]
      have ha := (pass_iff t (p :: r) _ a h3 e1).mpr (by omega)
      rcases Nat.lt_or_ge (passM t (p :: r)) (p :: r).length with c2 | c2
      · have e2 := List.getElem?_eq_getElem c2
        generalize (p :: r)[passM t (p :: r)] = b at e2
        rw [e2]
        have hb : ¬ (b.at_ : Int) ≤ t := fun z => Nat.lt_irrefl _ ((pass_iff t (p :: r) _ b h3 e2).mp z)
        exact mixAt_sml (h4 a (List.mem_of_getElem? e1)).2 (h4 b (List.mem_of_getElem? e2)).2 ha (by omega)
      · rw [List.getElem?_eq_none c2]
        exact (h4 a (List.mem_of_getElem? e1)).2
end Pd
end
section
set_option Elab.async false
set_option linter.all false
set_option maxRecDepth 100000
set_option maxHeartbeats 4000000
namespace Pd
open PySem PySem.Spec PyProof.Rows L2
local macro_rules | `(tactic| walk_at "at") => `(tactic| first
  | assumption
  | exact upd_same
  | (refine (show Same _ _ by assumption) _ _ ?_; walk_at "at")
  | (refine (show But _ _ _ by assumption) _ _ (by assumption) ?_; assumption)
  | (refine Same.new (by assumption) _ _ ?_; walk_at "at")
  | (refine (upd_ne (ne_of (by assumption) (by assumption) (by intro z; cases z))).trans ?_; walk_at "at"))
local macro_rules | `(tactic| walk_at "go") => `(tactic| repeat (first
  | refine ⟨_, rfl, ?_⟩
  | refine ⟨_, _, rfl, rfl, ?_⟩
  | refine ⟨_, _, rfl, ?_⟩
  | refine ⟨_, _, _, rfl, ?_⟩
  | refine And.intro rfl ?_
  | refine And.intro (Or.inl ⟨by decide, by decide⟩) ?_
  | refine And.intro (Or.inr ⟨by decide, by decide⟩) ?_
  | refine And.intro ⟨by decide, by decide⟩ ?_
  | refine And.intro (Or.inl ⟨by omega, by omega⟩) ?_
  | refine And.intro (Or.inr ⟨by omega, by omega⟩) ?_
  | refine And.intro ⟨by omega, by omega⟩ ?_
  | refine And.intro trivial ?_
  | refine And.intro (by omega) ?_
  | refine And.intro (sz (Nat.le_of_ble_eq_true rfl)) ?_
  | refine And.intro (Or.inl ⟨rfl, _, SqL.of (by walk_at "at")⟩) ?_
  | refine ⟨_, _, _, _, rfl, rfl, SqT.of (by walk_at "at"), (by rfl), ?_⟩
  | refine ⟨_, _, _, _, rfl, rfl, SqL.of (by walk_at "at"), (by rfl), ?_⟩
  | refine ⟨_, _, _, _, _, rfl, (by walk_at "at"), (by assumption), (by assumption), Lk.h, ?_⟩
  | refine ⟨_, _, _, rfl, rfl, (by walk_at "at"), ?_⟩
  | refine ⟨_, _, _, rfl, (by walk_at "at"), LkN.h, ?_⟩
  | refine ⟨_, _, _, _, rfl, (by walk_at "at"), (by assumption), (by assumption), (by apply few_lt; decide), ?_⟩
  | refine ⟨_, _, (by walk_at "at"), (by apply few_lt; decide), ?_⟩
  | refine ⟨_, _, rfl, Or.inl (SqL.of (by walk_at "at")), ?_⟩))
/-- pairs of two tuples' items -/
theorem walk_pairT {K : PySem.W.Frag} {a b : Addr} {xs ys : List V} {n : Nat} (h1 : xs.length = n) (h2 : ys.length = n) : Walk (RZ.ItzT K a b) n (fun H => SqT K H a xs ∧ SqT K H b ys) (YPair (fun i => xs[i]?) (fun i => ys[i]?)) where
  goes := fun i _ hi q => ⟨xs, ys, xs[i]'(by omega), ys[i]'(by omega), q.1, q.2, List.getElem?_eq_getElem _, List.getElem?_eq_getElem _⟩
  stops := fun _ q => ⟨xs, ys, q.1, q.2, .inl (Nat.le_of_eq h1)⟩
  yields := fun i H v H' _ q y => by
    obtain ⟨T, x, z, e1, e2, e3, e4, e5⟩ := y
    exact ⟨T, x, z, e1, e2, e3, e4 _ q.1, e5 _ q.2⟩
/-! ### heaps whose dicts alone may grow -/
def isD : HO → Bool
  | .dK _ => true
  | _ => false
/-- all but the dicts stand -/
def Keep (H H' : Hp) : Prop := ∀ a o, H a = some o → isD o = false → H' a = some o
theorem Keep.of {H H' : Hp} (s : Same H H') : Keep H H' := fun a o e _ => s a o e
theorem Keep.refl (H : Hp) : Keep H H := fun _ _ h _ => h
theorem Keep.trans {H H1 H2 : Hp} (a : Keep H H1) (b : Keep H1 H2) : Keep H H2 := fun x o h d => b x o (a x o h d) d
theorem ColAt.keep {H H' : Hp} {v : V} {c : Vd.Col} (s : Keep H H') (h : ColAt H v c) : ColAt H' v c := let ⟨t, a, b⟩ := h; ⟨t, a, s _ _ b rfl⟩
theorem TupI.keep {H H' : Hp} {v : V} {xs : List Int} (s : Keep H H') (h : TupI H v xs) : TupI H' v xs := let ⟨t, a, b⟩ := h; ⟨t, a, s _ _ b rfl⟩
theorem ListOf.keep {α : Type} {R : Hp → V → α → Prop} (m : ∀ H H' v x, Keep H H' → R H v x → R H' v x) {H H' : Hp} {p : Addr} {xs : List α} (s : Keep H H') (h : ListOf R H p xs) : ListOf R H' p xs :=
  let ⟨vs, e, a⟩ := h
  ⟨vs, s _ _ e rfl, a.imp fun v x r => m H H' v x s r⟩
theorem ShapeAt.keep {K : PySem.W.Frag} {H H' : Hp} {p : Addr} {s : Vd.Shape} (e : Keep H H') (h : ShapeAt K H p s) : ShapeAt K H' p s :=
  let ⟨dx, ls, ll, a, b, c, d⟩ := h
  ⟨dx, ls, ll, e _ _ a rfl, b.keep (R := SlAt) (fun _ _ _ _ e h => TupI.keep e h) e, c.keep (R := LvAt) (fun _ _ _ _ e h => TupI.keep e h) e, d⟩
theorem ShRef.keep {K : PySem.W.Frag} {H H' : Hp} {v : V} {z : Vd.Shape} (s : Keep H H') (h : ShRef K H v z) : ShRef K H' v z := let ⟨p, a, b⟩ := h; ⟨p, a, b.keep s⟩
/-- what a shade knows already is right -/
def DOk (H : Hp) (d : Addr) (l : List Vd.Stop) : Prop := ∃ kvs : List (Key × V), H d = some (.dK kvs) ∧ (kvs.map Prod.fst).Nodup ∧ (∀ k ∈ kvs.map Prod.fst, ∃ n : Nat, n ≤ 65536 ∧ k = .inl (n : Int)) ∧
  ∀ (n : Nat) v, valV kvs (.inl (n : Int)) = some v → ColAt H v (Vd.shadeAt l n).laid
/-- G: of which stops a shade's dict tells -/
abbrev Gh := Addr → List Vd.Stop
def Grow (G : Gh) (H H' : Hp) : Prop := Keep H H' ∧ ∀ d, DOk H d (G d) → DOk H' d (G d)
theorem DOk.same {H H' : Hp} {d : Addr} {l : List Vd.Stop} (s : Same H H') (h : DOk H d l) : DOk H' d l := let ⟨kvs, a, b, c, e⟩ := h; ⟨kvs, s _ _ a, b, c, fun n v hv => (e n v hv).mono s⟩
theorem Grow.of {G : Gh} {H H' : Hp} (s : Same H H') : Grow G H H' := ⟨Keep.of s, fun _ h => h.same s⟩
theorem Grow.refl (G : Gh) (H : Hp) : Grow G H H := ⟨Keep.refl H, fun _ h => h⟩
theorem Grow.trans {G : Gh} {H H1 H2 : Hp} (a : Grow G H H1) (b : Grow G H1 H2) : Grow G H H2 := ⟨a.1.trans b.1, fun d h => b.2 d (a.2 d h)⟩
/-- a list that was new ahead changes -/
theorem Grow.mut {G : Gh} {H H' : Hp} {p : Addr} {xs ys : List V} (g : Grow G H H') (f : H p = none) (e : H' p = some (.lst xs)) : Grow G H (upd H' p (.lst ys)) := by
  refine ⟨fun a o h d => ?_, fun d h => ?_⟩
  · rw [upd_ne (ne_of_none h f)]
    exact g.1 a o h d
  · obtain ⟨kvs, a, b, c, k⟩ := g.2 d h
    refine ⟨kvs, ?_, b, c, fun n v hv => ?_⟩
    · rw [upd_ne (ne_of a e (by intro z; cases z))]
      exact a
    · obtain ⟨t, rfl, ht⟩ := k n v hv
      refine ⟨t, rfl, ?_⟩
      rw [upd_ne (ne_of ht e (by intro z; cases z))]
      exact ht
/-- a stop: its place, its colour -/
def StAt (H : Hp) (v : V) (s : Vd.Stop) : Prop := ∃ t c, v = .ref t ∧ H t = some (.tup [.int (s.at_ : Int), c]) ∧ ColAt H c s.col
theorem StAt.keep {H H' : Hp} {v : V} {s : Vd.Stop} (e : Keep H H') (h : StAt H v s) : StAt H' v s := let ⟨t, c, a, b, d⟩ := h; ⟨t, c, a, e _ _ b rfl, d.keep e⟩
def ShadeAt (K : PySem.W.Frag) (G : Gh) (H : Hp) (v : V) (how : Nat) (l : List Vd.Stop) : Prop := ∃ p dx ls d, v = .ref p ∧ H p = some (.ins (He.ga K "Shade") dx (fl_Shade (.int (how : Int)) (.ref ls) (.ref d))) ∧ ListOf StAt H ls l ∧ G d = l ∧ DOk H d l ∧ StopsG l ∧ how ≤ 2
theorem ShadeAt.grow {K : PySem.W.Frag} {G : Gh} {H H' : Hp} {v : V} {how : Nat} {l : List Vd.Stop} (g : Grow G H H') (h : ShadeAt K G H v how l) : ShadeAt K G H' v how l :=
  let ⟨p, dx, ls, d, a, b, c, e, f, k⟩ := h
  ⟨p, dx, ls, d, a, g.1 _ _ b rfl, c.keep (R := StAt) (fun _ _ _ _ e h => StAt.keep e h) g.1, e, by have := g.2 d (by rw [e]; exact f); rw [e] at this; exact this, k⟩
section
variable {P : Program} {w : World} {K : PySem.W.Frag} {mg : Str → Option Value} {base : Heap}
theorem sc_Shade_init : FnScope ["self", "how", "stops"] ["self", "how", "stops"] (defScope s_Shade_init) := ⟨rfl, rfl, rfl, by decide +kernel, rfl, by decide +kernel, by decide +kernel⟩
theorem bd_Shade_init : BindAll "__init__" "Shade.__init__" s_Shade_init ["self", "how", "stops"] := fun _ _ _ _ _ _ us hl => match us, hl with | [_, _, _], _ => rfl
theorem ok_Shade_init (T : Txt K mg) : Ok P w K mg base CX0 1 (He.fAd K ("Shade", some "__init__")) ["self", "how", "stops"] (fun vs H Q _ => ∃ (p dx : Addr) (u v : V), vs = [.ref p, u, v] ∧ H p = some (.ins (He.ga K "Shade") dx []) ∧
    ∀ H' d, But p H H' → H d = none → H' d = some (.dK []) → H' p = some (.ins (He.ga K "Shade") dx (fl_Shade u v (.ref d))) → Q .non H') := by
  refine mk_ok T.f_Shade_init sc_Shade_init bd_Shade_init (fun _ _ _ _ ⟨_, _, _, _, e, _⟩ => by rw [e]; rfl) fun cdv A outer s H vs Q E hr h => ?_
  obtain ⟨p, dx, u, v, rfl, hp, q⟩ := h
  have fc_Group := T.c_Group
  have fc_Layer := T.c_Layer
  have fc_Mark := T.c_Mark
  have fc_Pictured := T.c_Pictured
  have fc_Shade := T.c_Shade
  have fn_Group_how := T.n_Group_how
  have fn_Layer_how := T.n_Layer_how
  have fn_Mark_how := T.n_Mark_how
  have fn_Pictured_how := T.n_Pictured_how
  have fn_Shade_how := T.n_Shade_how
  have fn_Shade_known := T.n_Shade_known
  have fn_Shade_stops := T.n_Shade_stops
  refine ⟨_, (pss_cons (kx_sfld (K := K) rfl (pv 0) (pv 1) rfl)
      (pss_cons (kx_sfld (K := K) rfl (pv 0) (pv 2) rfl)
      (pss_one (kx_sfld (K := K) rfl (pv 0) pe_dnewK rfl)))), ?_⟩
  walk_at "go"
  have b1 : But p H (upd (upd H p (.ins (He.ga K "Shade") dx (putF "how" u []))) p (.ins (He.ga K "Shade") dx (putF "stops" v (putF "how" u [])))) := But.trans But.at_ But.at_
  have p1 : (upd (upd H p (.ins (He.ga K "Shade") dx (putF "how" u []))) p (.ins (He.ga K "Shade") dx (putF "stops" v (putF "how" u [])))) p = some (.ins (He.ga K "Shade") dx (putF "stops" v (putF "how" u []))) := upd_same
  generalize upd (upd H p (.ins (He.ga K "Shade") dx (putF "how" u []))) p (.ins (He.ga K "Shade") dx (putF "stops" v (putF "how" u []))) = H1 at b1 p1
  intro d hd
  walk_at "go"
  rw [new_Shade]
  have ne : p ≠ d := ne_of_none p1 hd
  refine q _ d (b1.trans ((But.of (Same.new hd)).trans But.at_)) ?_ ?_ upd_same
  · cases z : H d with
    | none => rfl
    | some o =>
      have := b1 _ _ (Ne.symm ne) z
      rw [hd] at this
      cases this
  · rw [upd_ne (Ne.symm ne), upd_same]
theorem sc_Shade_parts_at : FnScope ["self", "place", "passed", "number", "stop", "last", "here", "after", "behind", "apart", "u", "v"] ["self", "place"] (defScope s_Shade_parts_at) := ⟨rfl, rfl, rfl, by decide +kernel, rfl, by decide +kernel, by decide +kernel⟩
theorem bd_Shade_parts_at : BindAll "parts_at" "Shade.parts_at" s_Shade_parts_at ["self", "place"] := fun _ _ _ _ _ _ us hl => match us, hl with | [_, _], _ => rfl
theorem ok_Shade_parts_at (T : Txt K mg) : Ok P w K mg base CX0 1 (He.fAd K ("Shade", some "parts_at")) ["self", "place"] (fun vs H Q _ => ∃ (a dx ls : Addr) (u d : V) (l : List Vd.Stop) (n : Nat), vs = [.ref a, .int (n : Int)] ∧ H a = some (.ins (He.ga K "Shade") dx (fl_Shade u (.ref ls) d)) ∧ ListOf StAt H ls l ∧ StopsG l ∧
    RetCol (Vd.shadeAt l n) H Q) := by
  refine mk_ok T.f_Shade_parts_at sc_Shade_parts_at bd_Shade_parts_at (fun _ _ _ _ ⟨_, _, _, _, _, _, _, e, _⟩ => by rw [e]; rfl) fun cdv A outer s H vs Q E hr h => ?_
  obtain ⟨a, dx, ls, u, d, l, n, rfl, ha, ⟨us, hl, al⟩, ⟨g1, g2, g3, g4⟩, q⟩ := h
  have fc_Shade := T.c_Shade
  have fn_Shade_stops := T.n_Shade_stops
  refine ⟨_, (pss_cons (ps_setLc (i := 2) (own := [("number", 3), ("stop", 4)]) (by rfl) sc_Shade_parts_at.nd rfl rfl (sw_true rfl rfl rfl (by decide +kernel)) (kx_enum (K := K) rfl (by rfl) T.z_enumerate (pa_cons (kx_fld (K := K) rfl (pv 0) rfl) pa_nil)) (blkOk_by (own := [("number", 3), ("stop", 4)]) (N := ["self", "place", "passed", "number", "stop", "last", "here", "after", "behind", "apart", "u", "v"]) (sc := defScope s_Shade_parts_at) (by decide +kernel)) (fun _ _ _ _ _ => (kx_tup (K := K) (n := 2) rfl rfl (pgs_cons (pg_name (i := 3) sc_Shade_parts_at.nd rfl (Or.inl rfl)) (pgs_cons (pg_name (i := 4) sc_Shade_parts_at.nd rfl (Or.inl rfl)) pgs_nil)))) (fun _ _ _ _ _ => pts_one (pt_cmpR op_le (pe_ix (kx_ixt (K := K) rfl) (pv 4) pe_int (fun _ _ => rfl)) (pv 1) (nomark _))) (fun _ _ _ _ _ => (pv 3)))
      (pss_cons (ps_if (pt_cmpR op_eq (pe_callB (kx_len (K := K) rfl) (by rfl) T.z_len PySem.boot_len (pa_cons (pv 2) pa_nil)) pe_int (nomark _)) (pss_one (ps_ret (pe_ix (kx_ixt (K := K) rfl) (pe_ix (kx_ixl (K := K) rfl) (kx_fld (K := K) rfl (pv 0) rfl) pe_int (fun _ _ => rfl)) pe_int (fun _ _ => rfl)))) pss_nil)
      (pss_cons (ps_set (i := 5) sc_Shade_parts_at.nd rfl (Or.inl rfl) (pe_ix (kx_ixl (K := K) rfl) (pv 2) (pe_un un_neg pe_int) (fun _ _ => rfl)))
      (pss_cons (ps_if (pt_cmpR op_eq (pv 5) (pe_op op_sub (pe_callB (kx_len (K := K) rfl) (by rfl) T.z_len PySem.boot_len (pa_cons (kx_fld (K := K) rfl (pv 0) rfl) pa_nil)) pe_int) (nomark _)) (pss_one (ps_ret (pe_ix (kx_ixt (K := K) rfl) (pe_ix (kx_ixl (K := K) rfl) (kx_fld (K := K) rfl (pv 0) rfl) (pv 5) (fun _ _ => rfl)) pe_int (fun _ _ => rfl)))) pss_nil)
      (pss_cons (ps_set (i := 6) sc_Shade_parts_at.nd rfl (Or.inl rfl) (pe_ix (kx_ixl (K := K) rfl) (kx_fld (K := K) rfl (pv 0) rfl) (pv 5) (fun _ _ => rfl)))
      (pss_cons (ps_set (i := 7) sc_Shade_parts_at.nd rfl (Or.inl rfl) (pe_ix (kx_ixl (K := K) rfl) (kx_fld (K := K) rfl (pv 0) rfl) (pe_op op_add (pv 5) pe_int) (fun _ _ => rfl)))
      (pss_cons (ps_set (i := 8) sc_Shade_parts_at.nd rfl (Or.inr rfl) (pe_op op_sub (pv 1) (pe_ix (kx_ixt (K := K) rfl) (pv 6) pe_int (fun _ _ => rfl))))
      (pss_cons (ps_set (i := 9) sc_Shade_parts_at.nd rfl (Or.inr rfl) (pe_op op_sub (pe_ix (kx_ixt (K := K) rfl) (pv 7) pe_int (fun _ _ => rfl)) (pe_ix (kx_ixt (K := K) rfl) (pv 6) pe_int (fun _ _ => rfl))))
      (pss_one (ps_ret (pe_callTy (kx_tuple (K := K) rfl) (by rfl) T.z_tuple (by decide +kernel) (pa_cons (pe_lc (own := [("u", 10), ("v", 11)]) (by rfl) sc_Shade_parts_at.nd (kx_zipA (K := K) rfl (by rfl) T.z_zip (pa_cons (pe_ix (kx_ixt (K := K) rfl) (pv 6) pe_int (fun _ _ => rfl)) (pa_cons (pe_ix (kx_ixt (K := K) rfl) (pv 7) pe_int (fun _ _ => rfl)) pa_nil))) (blkOk_by (own := [("u", 10), ("v", 11)]) (N := ["self", "place", "passed", "number", "stop", "last", "here", "after", "behind", "apart", "u", "v"]) (sc := defScope s_Shade_parts_at) (by decide +kernel)) (fun _ _ _ _ _ => (kx_tup (K := K) (n := 2) rfl rfl (pgs_cons (pg_name (i := 10) sc_Shade_parts_at.nd rfl (Or.inl rfl)) (pgs_cons (pg_name (i := 11) sc_Shade_parts_at.nd rfl (Or.inl rfl)) pgs_nil)))) (fun _ _ _ _ _ => pts_nil) (fun _ _ _ _ _ => (pe_op op_add (pv 10) (pe_op op_fdiv (pe_op op_mul (pe_op op_sub (pv 11) (pv 10)) (pv 8)) (pv 9))))) pa_nil)))))))))))), ?_⟩
  walk_at "go"
  have lu := al.1
  refine ⟨ls, us, rfl, SqL.of hl, fun D hD => ?_⟩
  have mle := passM_le n l
  refine lc_it (walk_enum (xs := us)) (fun i H' => Same H H' ∧ H' D = some (.lst (lineV (min i (passM n l)) fun k => k))) ⟨Same.new hD, by rw [Nat.zero_min]; exact upd_same⟩ (fun i H' _ h => SqL.of (h.1 _ _ hl)) ?_ ?_
  · rintro i x H1 H2 hi ⟨s1, hd1⟩ ⟨t, x1, x2, rfl, ht, rfl, hx1, hx2⟩
    obtain rfl : V.int (i : Int) = x1 := Option.some.inj hx1
    obtain ⟨z, hz, ts, tc, rfl, hst, hcol⟩ := al.get hx2
    have s2 := s1.trans (Same.new (o := .tup [.int (i : Int), .ref ts]) ht)
    have t2 : (upd H1 t (.tup [.int (i : Int), .ref ts])) t = _ := upd_same
    have d2 := Same.new (o := .tup [.int (i : Int), .ref ts]) ht _ _ hd1
    generalize upd H1 t (.tup [.int (i : Int), .ref ts]) = H2 at s2 t2 d2
    have hst2 := s2 _ _ hst
    have key := pass_iff n l i z g3 hz
    refine ⟨t, _, rfl, SqT.of t2, rfl, ?_⟩
    walk_at "go"
    refine ite2 (fun c => ?_) (fun c => ?_)
    · have c1 : (z.at_ : Int) ≤ n := ddec c
      have c2 := key.mp c1
      refine ⟨_, rfl, _, d2, by rw [lineV_len]; exact szl (by omega), fun a o e => ?_, ?_⟩
      · rw [upd_ne (ne_of_none e hD)]
        exact s2 _ _ e
      · rw [upd_same, Nat.min_eq_left (by omega), Nat.min_eq_left (by omega)]
        exact congrArg (fun z => some (HO.lst z)) (lineV_snoc i _)
    · have c1 : ¬ (z.at_ : Int) ≤ n := dnot c
      have c2 := fun z => c1 (key.mpr z)
      refine ⟨s2, ?_⟩
      rw [d2, Nat.min_eq_right (by omega), Nat.min_eq_right (by omega)]
  · rintro H1 ⟨s1, hd1⟩
    rw [lu, Nat.min_eq_right mle] at hd1
    have lm : (lineV (passM n l) fun k => (k : Int)).length = passM n l := lineV_len _ _
    have ha1 := s1 _ _ ha
    have hl1 := s1 _ _ hl
    obtain ⟨p0, r0, rfl⟩ : ∃ p0 r0, l = p0 :: r0 := by
      cases l with
      | nil => exact absurd g1 (by simp)
      | cons p0 r0 => exact ⟨p0, r0, rfl⟩
    have sh := shadeAt_is n p0 r0
    walk_at "go"
    refine ite2 (fun c => ?_) (fun c => ?_)
    · have c1 := dint c
      rw [if_pos (by omega)] at sh
      obtain ⟨v0, hv0, ts, tc, rfl, hst, hcol⟩ := al.at (i := 0) (x := p0) rfl
      have hst1 := s1 _ _ hst
      walk_at "go"
      refine ⟨_, _, _, _, rfl, rfl, SqL.of hl1, at_of (j := 0) rfl hv0, ?_⟩
      walk_at "go"
      exact q _ _ s1 (by rw [sh]; exact hcol.mono s1)
    · have c1 := dint_not c
      rw [if_neg (by omega)] at sh
      have e0 : passM n (p0 :: r0) - 1 < (p0 :: r0).length := by omega
      have ea := List.getElem?_eq_getElem e0
      generalize (p0 :: r0)[passM n (p0 :: r0) - 1] = A at ea
      obtain ⟨va, hva, ta, ca, rfl, hsa, hca⟩ := al.at ea
      have hsa1 := s1 _ _ hsa
      have hA := (pass_iff n _ _ A g3 ea).mpr (by omega)
      rw [ea] at sh
      walk_at "go"
      refine ⟨_, _, _, _, rfl, rfl, SqL.of hd1, at_last1 (v := .int ((passM n (p0 :: r0) - 1 : Nat) : Int)) (by rw [lm]; exact lineV_at (by omega)), ?_⟩
      walk_at "go"
      refine ite2 (fun c => ?_) (fun c => ?_)
      · have c2 := dint c
        rw [List.getElem?_eq_none (by omega)] at sh
        walk_at "go"
        refine ⟨_, _, _, _, rfl, rfl, SqL.of hl1, at_of (j := passM n (p0 :: r0) - 1) rfl hva, ?_⟩
        walk_at "go"
        exact q _ _ s1 (by rw [sh]; exact hca.mono s1)
      · have c2 := dint_not c
        have e1 : passM n (p0 :: r0) < (p0 :: r0).length := by omega
        have eb := List.getElem?_eq_getElem e1
        generalize (p0 :: r0)[passM n (p0 :: r0)] = B at eb
        obtain ⟨vb, hvb, tb, cb, rfl, hsb, hcb⟩ := al.at eb
        have hsb1 := s1 _ _ hsb
        have hB : ¬ (B.at_ : Int) ≤ n := fun z => Nat.lt_irrefl _ ((pass_iff n _ _ B g3 eb).mp z)
        rw [eb] at sh
        walk_at "go"
        refine ⟨_, _, _, _, rfl, rfl, SqL.of hl1, at_of (j := passM n (p0 :: r0) - 1) rfl hva, ?_⟩
        walk_at "go"
        refine ⟨_, _, _, _, rfl, rfl, SqL.of hl1, at_of (j := passM n (p0 :: r0)) (by omega) hvb, ?_⟩
        walk_at "go"
        obtain ⟨tA, rfl, htA⟩ := hca
        obtain ⟨tB, rfl, htB⟩ := hcb
        have htA1 := s1 _ _ htA
        have htB1 := s1 _ _ htB
        refine ⟨tA, tB, _, _, rfl, .inr ⟨SqT.of htA1, SqT.of htB1, fun Z hZ => ?_⟩⟩
        have hx : 0 ≤ (n : Int) - A.at_ := by omega
        have hxn : (n : Int) - A.at_ ≤ (B.at_ : Int) - A.at_ := by omega
        have hn0 : 0 < (B.at_ : Int) - A.at_ := by omega
        have hAb := g4 A (List.mem_of_getElem? ea)
        have hBb := g4 B (List.mem_of_getElem? eb)
        have val : ∀ u v : Nat, (u : Int) + ((v : Int) - u) * ((n : Int) - A.at_) / ((B.at_ : Int) - A.at_) = ((Vd.mixed1 u v ((n : Int) - A.at_) ((B.at_ : Int) - A.at_) : Nat) : Int) := fun u v => (mixed1_ok hx hxn hn0).1.symm
        refine lc_build (walk_pairT (n := 4) rfl rfl) (fun k y _ => ∃ u v : Nat, (colV A.col)[k]? = some (.int (u : Int)) ∧ (colV B.col)[k]? = some (.int (v : Int)) ∧ y = .int ((Vd.mixed1 u v ((n : Int) - A.at_) ((B.at_ : Int) - A.at_) : Nat) : Int)) (fun _ _ _ _ _ _ _ e => e) hZ (fun H' e => ⟨SqT.of (e _ _ htA1), SqT.of (e _ _ htB1)⟩) (by decide) ?_ ?_
        · rintro k x H6 H7 F Bk hk s6 ⟨t, x1, x2, rfl, ht, rfl, hx1, hx2⟩ hF
          have up : ∀ (c : Vd.Col) (x : V), Sml c → (colV c)[k]? = some x → ∃ u : Nat, x = .int (u : Int) ∧ u ≤ 255 := by
            rintro c x ⟨c1, c2, c3, c4⟩ h
            match k, h with
            | 0, h => exact ⟨c.r, (by simpa [colV] using h.symm), c1⟩
            | 1, h => exact ⟨c.g, (by simpa [colV] using h.symm), c2⟩
            | 2, h => exact ⟨c.b, (by simpa [colV] using h.symm), c3⟩
            | 3, h => exact ⟨c.a, (by simpa [colV] using h.symm), c4⟩
            | k + 4, h => simp [colV] at h
          obtain ⟨u, rfl, hu⟩ := up _ _ hAb.2 hx1
          obtain ⟨v, rfl, hv⟩ := up _ _ hBb.2 hx2
          refine ⟨t, _, rfl, SqT.of upd_same, rfl, ?_⟩
          walk_at "go"
          exact hF _ _ (Same.new ht) ⟨u, v, hx1, hx2, congrArg V.int (val u v)⟩
        · intro H6 ys s6 hy hl4 ho
          have ey : ys = colV (Vd.mixAt A B n) := by
            refine List.ext_getElem? fun k => ?_
            rcases Nat.lt_or_ge k 4 with c | c
            · obtain ⟨u, v, h1, h2, h3⟩ := ho k ys[k] (List.getElem?_eq_getElem (by omega))
              rw [List.getElem?_eq_getElem (by omega), h3]
              match k, c, h1, h2 with
              | 0, _, h1, h2 =>
                obtain rfl : A.col.r = u := Int.ofNat_inj.mp (V.int.inj (Option.some.inj h1))
                obtain rfl : B.col.r = v := Int.ofNat_inj.mp (V.int.inj (Option.some.inj h2))
                rfl
              | 1, _, h1, h2 =>
                obtain rfl : A.col.g = u := Int.ofNat_inj.mp (V.int.inj (Option.some.inj h1))
                obtain rfl : B.col.g = v := Int.ofNat_inj.mp (V.int.inj (Option.some.inj h2))
                rfl
              | 2, _, h1, h2 =>
                obtain rfl : A.col.b = u := Int.ofNat_inj.mp (V.int.inj (Option.some.inj h1))
                obtain rfl : B.col.b = v := Int.ofNat_inj.mp (V.int.inj (Option.some.inj h2))
                rfl
              | 3, _, h1, h2 =>
                obtain rfl : A.col.a = u := Int.ofNat_inj.mp (V.int.inj (Option.some.inj h1))
                obtain rfl : B.col.a = v := Int.ofNat_inj.mp (V.int.inj (Option.some.inj h2))
                rfl
            · rw [List.getElem?_eq_none (by omega), List.getElem?_eq_none (by exact c)]
          rw [ey] at hy
          walk_at "go"
          refine ⟨Z, _, rfl, .inl ⟨SqL.of hy, fun p hp => ?_⟩⟩
          exact q.new (s1.trans s6) hp (by rw [sh])
end
end Pd
end
section
set_option Elab.async false
set_option linter.all false
set_option maxRecDepth 100000
set_option maxHeartbeats 4000000
namespace Pd
open PySem PySem.Spec PyProof.Rows L2
local macro_rules | `(tactic| walk_at "at") => `(tactic| first
  | assumption
  | exact upd_same
  | (refine (show Same _ _ by assumption) _ _ ?_; walk_at "at")
  | (refine (show But _ _ _ by assumption) _ _ (by assumption) ?_; assumption)
  | (refine Same.new (by assumption) _ _ ?_; walk_at "at")
  | (refine (upd_ne (ne_of (by assumption) (by assumption) (by intro z; cases z))).trans ?_; walk_at "at"))
local macro_rules | `(tactic| walk_at "go") => `(tactic| repeat (first
  | refine ⟨_, rfl, ?_⟩
  | refine ⟨_, _, rfl, rfl, ?_⟩
  | refine ⟨_, _, rfl, ?_⟩
  | refine ⟨_, _, _, rfl, ?_⟩
  | refine And.intro rfl ?_
  | refine And.intro (Or.inl ⟨by decide, by decide⟩) ?_
  | refine And.intro (Or.inr ⟨by decide, by decide⟩) ?_
  | refine And.intro ⟨by decide, by decide⟩ ?_
  | refine And.intro (Or.inl ⟨by omega, by omega⟩) ?_
  | refine And.intro (Or.inr ⟨by omega, by omega⟩) ?_
  | refine And.intro ⟨by omega, by omega⟩ ?_
  | refine And.intro trivial ?_
  | refine And.intro (by omega) ?_
  | refine And.intro (sz (Nat.le_of_ble_eq_true rfl)) ?_
  | refine And.intro (Or.inl ⟨rfl, _, SqL.of (by walk_at "at")⟩) ?_
  | refine ⟨_, _, _, _, rfl, rfl, SqT.of (by walk_at "at"), (by rfl), ?_⟩
  | refine ⟨_, _, _, _, rfl, rfl, SqL.of (by walk_at "at"), (by rfl), ?_⟩
  | refine ⟨_, _, _, _, _, rfl, (by walk_at "at"), (by assumption), (by assumption), Lk.h, ?_⟩
  | refine ⟨_, _, _, rfl, rfl, (by walk_at "at"), ?_⟩
  | refine ⟨_, _, _, rfl, (by walk_at "at"), LkN.h, ?_⟩
  | refine ⟨_, _, _, _, rfl, (by walk_at "at"), (by assumption), (by assumption), (by apply few_lt; decide), ?_⟩
  | refine ⟨_, _, (by walk_at "at"), (by apply few_lt; decide), ?_⟩
  | refine ⟨_, _, rfl, Or.inl (SqL.of (by walk_at "at")), ?_⟩))
/-- a colour handed back, the dicts may have grown -/
def GiveCol (G : Gh) (c : Vd.Col) (H : Hp) (Q : VK) : Prop := ∀ v H', Grow G H H' → ColAt H' v c → Q v H'
theorem dk_few {kvs : List (Key × V)} (h1 : (kvs.map Prod.fst).Nodup) (h2 : ∀ k ∈ kvs.map Prod.fst, ∃ n : Nat, n ≤ 65536 ∧ k = .inl (n : Int)) : kvs.length ≤ 65537 := by
  have h := h1.length_le_of_subset (l₂ := (List.range 65537).map fun (n : Nat) => (.inl (n : Int) : Key)) fun k hk => by
    obtain ⟨n, hn, e⟩ := h2 k hk
    exact List.mem_map.mpr ⟨n, List.mem_range.mpr (by omega), e.symm⟩
  simpa using h
theorem DOk.put {H : Hp} {d : Addr} {l : List Vd.Stop} {n : Nat} {v : V} {kvs : List (Key × V)} (hn : n ≤ 65536) (hd : H d = some (.dK kvs)) (h1 : (kvs.map Prod.fst).Nodup) (h2 : ∀ k ∈ kvs.map Prod.fst, ∃ n : Nat, n ≤ 65536 ∧ k = .inl (n : Int))
    (h3 : ∀ (n : Nat) v, valV kvs (.inl (n : Int)) = some v → ColAt H v (Vd.shadeAt l n).laid) (hv : valV kvs (.inl (n : Int)) = none) (hc : ColAt H v (Vd.shadeAt l n).laid) : DOk (upd H d (.dK (putK kvs (.inl (n : Int)) v))) d l := by
  have kp : ∀ v c, ColAt H v c → ColAt (upd H d (.dK (putK kvs (.inl (n : Int)) v))) v c := fun v c ⟨t, e, ht⟩ => ⟨t, e, by rw [upd_ne (ne_of ht hd (by intro z; cases z))]; exact ht⟩
  have ko : ∀ u w c, ColAt H u c → ColAt (upd H d (.dK (putK kvs (.inl (n : Int)) w))) u c := fun u w c ⟨t, e, ht⟩ => ⟨t, e, by rw [upd_ne (ne_of ht hd (by intro z; cases z))]; exact ht⟩
  refine ⟨_, upd_same, ?_, ?_, ?_⟩
  · rw [putK_new v hv, List.map_append, List.nodup_append]
    refine ⟨h1, by simp, fun a ha b hb e => ?_⟩
    obtain rfl : b = .inl (n : Int) := List.mem_singleton.mp hb
    subst e
    obtain ⟨p, hp, e⟩ := List.mem_map.mp ha
    have := (valV_any (.inl (n : Int) : Key) kvs).symm.trans (List.any_eq_true.mpr ⟨p, hp, decide_eq_true e⟩)
    rw [hv] at this
    cases this
  · intro k hk
    rw [putK_new v hv, List.map_append] at hk
    rcases List.mem_append.mp hk with m | m
    · exact h2 k m
    · exact ⟨n, hn, List.mem_singleton.mp m⟩
  · intro m u hu
    rw [valV_put] at hu
    by_cases e : (.inl (m : Int) : Key) = .inl (n : Int)
    · rw [if_pos e] at hu
      cases hu
      obtain rfl : m = n := Int.ofNat_inj.mp (Sum.inl.inj e)
      exact ko _ _ _ hc
    · rw [if_neg e] at hu
      exact ko _ _ _ (h3 m u hu)
/-- one dict grows -/
theorem Grow.put {G : Gh} {H : Hp} {d : Addr} {kvs kvs2 : List (Key × V)} (hd : H d = some (.dK kvs)) (k : DOk (upd H d (.dK kvs2)) d (G d)) : Grow G H (upd H d (.dK kvs2)) := by
  have ke : Keep H (upd H d (.dK kvs2)) := fun a o e n => by
    rw [upd_ne]
    · exact e
    · rintro rfl
      rw [hd] at e
      cases e
      cases n
  refine ⟨ke, fun x h => ?_⟩
  by_cases e : x = d
  · subst e
    exact k
  · obtain ⟨q, a, b, c, f⟩ := h
    exact ⟨q, by rw [upd_ne e]; exact a, b, c, fun n v hv => (f n v hv).keep ke⟩
section
variable {P : Program} {w : World} {K : PySem.W.Frag} {mg : Str → Option Value} {base : Heap}
theorem sc_Shade_shade_at : FnScope ["self", "t", "place"] ["self", "t"] (defScope s_Shade_shade_at) := ⟨rfl, rfl, rfl, by decide +kernel, rfl, by decide +kernel, by decide +kernel⟩
theorem bd_Shade_shade_at : BindAll "shade_at" "Shade.shade_at" s_Shade_shade_at ["self", "t"] := fun _ _ _ _ _ _ us hl => match us, hl with | [_, _], _ => rfl
theorem ok_Shade_shade_at (T : Txt K mg) : Ok P w K mg base CX0 3 (He.fAd K ("Shade", some "shade_at")) ["self", "t"] (fun vs H Q _ => ∃ (G : Gh) (v : V) (how : Nat) (l : List Vd.Stop) (t : Int), vs = [v, .int t] ∧ ShadeAt K G H v how l ∧
    GiveCol G (Vd.shadeAt l (Vd.folded how t)).laid H Q) := by
  refine mk_ok T.f_Shade_shade_at sc_Shade_shade_at bd_Shade_shade_at (fun _ _ _ _ ⟨_, _, _, _, _, e, _⟩ => by rw [e]; rfl) fun cdv A outer s H vs Q E hr h => ?_
  obtain ⟨G, v, how, l, t, rfl, ⟨p, dx, ls, d, rfl, hp, hls, eG, dok, sg, hh⟩, q⟩ := h
  obtain ⟨n, hn, en, ef⟩ := spread_is (t := t) hh
  rw [ef] at q
  have fc_Group := T.c_Group
  have fc_Layer := T.c_Layer
  have fc_Mark := T.c_Mark
  have fc_Pictured := T.c_Pictured
  have fc_Shade := T.c_Shade
  have fn_Group_how := T.n_Group_how
  have fn_Layer_how := T.n_Layer_how
  have fn_Mark_how := T.n_Mark_how
  have fn_Pictured_how := T.n_Pictured_how
  have fn_Shade_how := T.n_Shade_how
  have fn_Shade_known := T.n_Shade_known
  obtain ⟨kvs, hd, k1, k2, k3⟩ := id dok
  refine ⟨_, (pss_cons (ps_set (i := 2) sc_Shade_shade_at.nd rfl (Or.inl rfl) (c_call (ok_spread (K := K) T) hr (by decide) rfl T.g_spread pass0 (pa_cons (kx_fld (K := K) rfl (pv 0) rfl) (pa_cons (pv 1) pa_nil))))
      (pss_cons (ps_if (pt_cmp (pc_dnotin (hu_of hr) (pv 2) (kx_fld (K := K) rfl (pv 0) rfl)) rfl) (pss_one (ps_dput (hu_of hr) (kx_fld (K := K) rfl (pv 0) rfl) (pv 2) (c_call (ok_laid_on (K := K) T) hr (by decide) rfl T.g_laid_on pass0 (pa_cons (c_meth (ok_Shade_parts_at (K := K) T) hr (by decide) T.c_Shade T.m_Shade_parts_at pass0 (pv 0) (pa_cons (pv 2) pa_nil)) pa_nil)) rfl)) pss_nil)
      (pss_one (ps_ret (pe_dget (hu_of hr) (kx_fld (K := K) rfl (pv 0) rfl) (pv 2) (fun _ _ => rfl)))))), ?_⟩
  walk_at "go"
  have hk : V.int (spreadI how t) = kV (.inl (n : Int)) := congrArg V.int en
  have few := dk_few k1 k2
  refine ⟨d, valV kvs (.inl (n : Int)), rfl, .inl ⟨kvs, .inl (n : Int), .inl hd, hk, rfl⟩, ?_⟩
  walk_at "go"
  cases hv : valV kvs (.inl (n : Int)) with
  | none =>
    refine ite2 (fun c => ?_) (fun c => absurd rfl c)
    walk_at "go"
    refine ⟨p, dx, ls, _, _, l, n, congrArg (fun z => [V.ref p, V.int z]) en, hp, hls, sg, fun v1 H1 s1 c1 => ?_⟩
    walk_at "go"
    refine ⟨v1, _, rfl, c1, shade_sml sg, fun v2 H2 s2 c2 => ?_⟩
    have s12 := s1.trans s2
    have hd2 := s12 _ _ hd
    have hp2 := s12 _ _ hp
    have k32 : ∀ (n : Nat) v, valV kvs (.inl (n : Int)) = some v → ColAt H2 v (Vd.shadeAt l n).laid := fun n v hv => (k3 n v hv).mono s12
    have dk := DOk.put (l := l) hn hd2 k1 k2 k32 hv c2
    have gr : Grow G H (upd H2 d (.dK (putK kvs (.inl (n : Int)) v2))) := (Grow.of s12).trans (Grow.put hd2 (by rw [eG]; exact dk))
    walk_at "go"
    have few2 : kvs.length < sizeLine := szl (by omega)
    refine ⟨d, _, rfl, .inl ⟨kvs, .inl (n : Int), hd2, hk, few2, rfl⟩, ?_⟩
    have hp3 := gr.1 _ _ hp rfl
    walk_at "go"
    refine ⟨d, v2, rfl, .inl ⟨_, .inl (n : Int), .inl upd_same, hk, by rw [valV_put, if_pos rfl]⟩, ?_⟩
    exact q _ _ gr (c2.keep (Grow.put (G := G) hd2 (by rw [eG]; exact dk)).1)
  | some v =>
    refine ite2 (fun c => by cases c) (fun c => ?_)
    walk_at "go"
    refine ⟨d, v, rfl, .inl ⟨kvs, .inl (n : Int), .inl hd, hk, hv.symm⟩, ?_⟩
    exact q _ _ (Grow.refl _ _) (k3 n v hv)
end
end Pd
end
section
set_option Elab.async false
set_option linter.all false
set_option maxRecDepth 100000
set_option maxHeartbeats 4000000
namespace Pd
open PySem PySem.Spec PyProof.Rows L2
local macro_rules | `(tactic| walk_at "at") => `(tactic| first
  | assumption
  | exact upd_same
  | (refine (show Same _ _ by assumption) _ _ ?_; walk_at "at")
  | (refine (show But _ _ _ by assumption) _ _ (by assumption) ?_; assumption)
  | (refine Same.new (by assumption) _ _ ?_; walk_at "at")
  | (refine (upd_ne (ne_of (by assumption) (by assumption) (by intro z; cases z))).trans ?_; walk_at "at"))
local macro_rules | `(tactic| walk_at "go") => `(tactic| repeat (first
  | refine ⟨_, rfl, ?_⟩
  | refine ⟨_, _, rfl, rfl, ?_⟩
  | refine ⟨_, _, rfl, ?_⟩
  | refine ⟨_, _, _, rfl, ?_⟩
  | refine And.intro rfl ?_
  | refine And.intro (Or.inl ⟨by decide, by decide⟩) ?_
  | refine And.intro (Or.inr ⟨by decide, by decide⟩) ?_
  | refine And.intro ⟨by decide, by decide⟩ ?_
  | refine And.intro (Or.inl ⟨by omega, by omega⟩) ?_
  | refine And.intro (Or.inr ⟨by omega, by omega⟩) ?_
  | refine And.intro ⟨by omega, by omega⟩ ?_
  | refine And.intro trivial ?_
  | refine And.intro (by omega) ?_
  | refine And.intro (sz (Nat.le_of_ble_eq_true rfl)) ?_
  | refine And.intro (Or.inl ⟨rfl, _, SqL.of (by walk_at "at")⟩) ?_
  | refine ⟨_, _, _, _, rfl, rfl, SqT.of (by walk_at "at"), (by rfl), ?_⟩
  | refine ⟨_, _, _, _, rfl, rfl, SqL.of (by walk_at "at"), (by rfl), ?_⟩
  | refine ⟨_, _, _, _, _, rfl, (by walk_at "at"), (by assumption), (by assumption), Lk.h, ?_⟩
  | refine ⟨_, _, _, rfl, rfl, (by walk_at "at"), ?_⟩
  | refine ⟨_, _, _, rfl, (by walk_at "at"), LkN.h, ?_⟩
  | refine ⟨_, _, _, _, rfl, (by walk_at "at"), (by assumption), (by assumption), (by apply few_lt; decide), ?_⟩
  | refine ⟨_, _, (by walk_at "at"), (by apply few_lt; decide), ?_⟩
  | refine ⟨_, _, rfl, Or.inl (SqL.of (by walk_at "at")), ?_⟩))
/-- an object of the class C made: its attributes are fs then, all else stands -/
def Made (K : PySem.W.Frag) (C : Str) (p dx : Addr) (fs : List (Str × V)) (H : Hp) (Q : VK) : Prop := ∀ H', But p H H' → H' p = some (.ins (He.ga K C) dx fs) → Q .non H'
section
variable {P : Program} {w : World} {K : PySem.W.Frag} {mg : Str → Option Value} {base : Heap}
theorem sc_Plain_init : FnScope ["self", "laid"] ["self", "laid"] (defScope s_Plain_init) := ⟨rfl, rfl, rfl, by decide +kernel, rfl, by decide +kernel, by decide +kernel⟩
theorem bd_Plain_init : BindAll "__init__" "Plain.__init__" s_Plain_init ["self", "laid"] := fun _ _ _ _ _ _ us hl => match us, hl with | [_, _], _ => rfl
theorem ok_Plain_init (T : Txt K mg) : Ok P w K mg base CX0 1 (He.fAd K ("Plain", some "__init__")) ["self", "laid"] (fun vs H Q _ => ∃ (p dx : Addr) (u : V), vs = [.ref p, u] ∧ H p = some (.ins (He.ga K "Plain") dx []) ∧ Made K "Plain" p dx (fl_Plain u) H Q) := by
  refine mk_ok T.f_Plain_init sc_Plain_init bd_Plain_init (fun _ _ _ _ ⟨_, _, _, e, _⟩ => by rw [e]; rfl) fun cdv A outer s H vs Q E hr h => ?_
  obtain ⟨p, dx, u, rfl, hp, q⟩ := h
  have fc_Plain := T.c_Plain
  have fn_Plain_laid := T.n_Plain_laid
  refine ⟨_, (pss_one (kx_sfld (K := K) rfl (pv 0) (pv 1) rfl)), ?_⟩
  walk_at "go"
  exact q _ But.at_ upd_same
theorem sc_Plain_gives : FnScope ["self", "x", "y"] ["self", "x", "y"] (defScope s_Plain_gives) := ⟨rfl, rfl, rfl, by decide +kernel, rfl, by decide +kernel, by decide +kernel⟩
theorem bd_Plain_gives : BindAll "gives" "Plain.gives" s_Plain_gives ["self", "x", "y"] := fun _ _ _ _ _ _ us hl => match us, hl with | [_, _, _], _ => rfl
theorem ok_Plain_gives (T : Txt K mg) : Ok P w K mg base CX0 1 (He.fAd K ("Plain", some "gives")) ["self", "x", "y"] (fun vs H Q _ => ∃ (p dx : Addr) (u x y : V), vs = [.ref p, x, y] ∧ H p = some (.ins (He.ga K "Plain") dx (fl_Plain u)) ∧ Q u H) := by
  refine mk_ok T.f_Plain_gives sc_Plain_gives bd_Plain_gives (fun _ _ _ _ ⟨_, _, _, _, _, e, _⟩ => by rw [e]; rfl) fun cdv A outer s H vs Q E hr h => ?_
  obtain ⟨p, dx, u, x, y, rfl, hp, q⟩ := h
  have fc_Plain := T.c_Plain
  have fn_Plain_laid := T.n_Plain_laid
  refine ⟨_, (pss_one (ps_ret (kx_fld (K := K) rfl (pv 0) rfl))), ?_⟩
  walk_at "go"
  exact q
instance lkp_across {u v : V} {fs : List (Str × V)} : Lk (putF "down" u (putF "across" v fs)) "across" v := ⟨by rw [lookup_putF, if_neg (by decide +kernel), lookup_putF, if_pos rfl]⟩
instance lkp_down {u : V} {fs : List (Str × V)} : Lk (putF "down" u fs) "down" u := ⟨by rw [lookup_putF, if_pos rfl]⟩
theorem sc_Linear_init : FnScope ["self", "a_x", "a_y", "b_x", "b_y", "shade"] ["self", "a_x", "a_y", "b_x", "b_y", "shade"] (defScope s_Linear_init) := ⟨rfl, rfl, rfl, by decide +kernel, rfl, by decide +kernel, by decide +kernel⟩
theorem bd_Linear_init : BindAll "__init__" "Linear.__init__" s_Linear_init ["self", "a_x", "a_y", "b_x", "b_y", "shade"] := fun _ _ _ _ _ _ us hl => match us, hl with | [_, _, _, _, _, _], _ => rfl
theorem ok_Linear_init (T : Txt K mg) : Ok P w K mg base CX0 1 (He.fAd K ("Linear", some "__init__")) ["self", "a_x", "a_y", "b_x", "b_y", "shade"] (fun vs H Q _ => ∃ (p dx : Addr) (a b : Vd.Pt) (u : V), vs = [.ref p, .int a.1, .int a.2, .int b.1, .int b.2, u] ∧ H p = some (.ins (He.ga K "Linear") dx []) ∧ NearP a ∧ NearP b ∧
    Made K "Linear" p dx (fl_Linear (.int a.1) (.int a.2) (.int (b.1 - a.1)) (.int (b.2 - a.2)) (.int (Vd.dist2 b a)) u) H Q) := by
  refine mk_ok T.f_Linear_init sc_Linear_init bd_Linear_init (fun _ _ _ _ ⟨_, _, _, _, _, e, _⟩ => by rw [e]; rfl) fun cdv A outer s H vs Q E hr h => ?_
  obtain ⟨p, dx, a, b, u, rfl, hp, ⟨⟨a1, a2⟩, a3, a4⟩, ⟨⟨b1, b2⟩, b3, b4⟩, q⟩ := h
  have fc_Linear := T.c_Linear
  have fc_Radial := T.c_Radial
  have fn_Linear_a_x := T.n_Linear_a_x
  have fn_Linear_a_y := T.n_Linear_a_y
  have fn_Linear_across := T.n_Linear_across
  have fn_Linear_down := T.n_Linear_down
  have fn_Linear_shade := T.n_Linear_shade
  have fn_Linear_square := T.n_Linear_square
  have fn_Radial_shade := T.n_Radial_shade
  refine ⟨_, (pss_cons (kx_sfld (K := K) rfl (pv 0) (pv 1) rfl)
      (pss_cons (kx_sfld (K := K) rfl (pv 0) (pv 2) rfl)
      (pss_cons (kx_sfld (K := K) rfl (pv 0) (pe_op op_sub (pv 3) (pv 1)) rfl)
      (pss_cons (kx_sfld (K := K) rfl (pv 0) (pe_op op_sub (pv 4) (pv 2)) rfl)
      (pss_cons (kx_sfld (K := K) rfl (pv 0) (pe_op op_add (pe_op op_mul (kx_fld (K := K) rfl (pv 0) rfl) (kx_fld (K := K) rfl (pv 0) rfl)) (pe_op op_mul (kx_fld (K := K) rfl (pv 0) rfl) (kx_fld (K := K) rfl (pv 0) rfl))) rfl)
      (pss_one (kx_sfld (K := K) rfl (pv 0) (pv 5) rfl))))))), ?_⟩
  walk_at "go"
  have z1 : -4194304 ≤ b.1 - a.1 ∧ b.1 - a.1 ≤ 4194304 := by omega
  have z2 : -4194304 ≤ b.2 - a.2 ∧ b.2 - a.2 ≤ 4194304 := by omega
  walk_at "go"
  rw [new_Linear]
  exact q _ (((((But.trans But.at_ But.at_).trans But.at_).trans But.at_).trans But.at_).trans But.at_) upd_same
theorem sc_Radial_init : FnScope ["self", "m_x", "m_y", "radius", "shade"] ["self", "m_x", "m_y", "radius", "shade"] (defScope s_Radial_init) := ⟨rfl, rfl, rfl, by decide +kernel, rfl, by decide +kernel, by decide +kernel⟩
theorem bd_Radial_init : BindAll "__init__" "Radial.__init__" s_Radial_init ["self", "m_x", "m_y", "radius", "shade"] := fun _ _ _ _ _ _ us hl => match us, hl with | [_, _, _, _, _], _ => rfl
theorem ok_Radial_init (T : Txt K mg) : Ok P w K mg base CX0 1 (He.fAd K ("Radial", some "__init__")) ["self", "m_x", "m_y", "radius", "shade"] (fun vs H Q _ => ∃ (p dx : Addr) (u1 u2 u3 u4 : V), vs = [.ref p, u1, u2, u3, u4] ∧ H p = some (.ins (He.ga K "Radial") dx []) ∧ Made K "Radial" p dx (fl_Radial u1 u2 u3 u4) H Q) := by
  refine mk_ok T.f_Radial_init sc_Radial_init bd_Radial_init (fun _ _ _ _ ⟨_, _, _, _, _, _, e, _⟩ => by rw [e]; rfl) fun cdv A outer s H vs Q E hr h => ?_
  obtain ⟨p, dx, u1, u2, u3, u4, rfl, hp, q⟩ := h
  have fc_Linear := T.c_Linear
  have fc_Radial := T.c_Radial
  have fn_Linear_shade := T.n_Linear_shade
  have fn_Radial_m_x := T.n_Radial_m_x
  have fn_Radial_m_y := T.n_Radial_m_y
  have fn_Radial_radius := T.n_Radial_radius
  have fn_Radial_shade := T.n_Radial_shade
  refine ⟨_, (pss_cons (kx_sfld (K := K) rfl (pv 0) (pv 1) rfl)
      (pss_cons (kx_sfld (K := K) rfl (pv 0) (pv 2) rfl)
      (pss_cons (kx_sfld (K := K) rfl (pv 0) (pv 3) rfl)
      (pss_one (kx_sfld (K := K) rfl (pv 0) (pv 4) rfl))))), ?_⟩
  walk_at "go"
  rw [new_Radial]
  exact q _ (((But.trans But.at_ But.at_).trans But.at_).trans But.at_) upd_same
theorem sc_Picture_init : FnScope ["self", "width", "height", "colours"] ["self", "width", "height", "colours"] (defScope s_Picture_init) := ⟨rfl, rfl, rfl, by decide +kernel, rfl, by decide +kernel, by decide +kernel⟩
theorem bd_Picture_init : BindAll "__init__" "Picture.__init__" s_Picture_init ["self", "width", "height", "colours"] := fun _ _ _ _ _ _ us hl => match us, hl with | [_, _, _, _], _ => rfl
theorem ok_Picture_init (T : Txt K mg) : Ok P w K mg base CX0 1 (He.fAd K ("Picture", some "__init__")) ["self", "width", "height", "colours"] (fun vs H Q _ => ∃ (p dx : Addr) (u1 u2 u3 : V), vs = [.ref p, u1, u2, u3] ∧ H p = some (.ins (He.ga K "Picture") dx []) ∧ Made K "Picture" p dx (fl_Picture u1 u2 u3) H Q) := by
  refine mk_ok T.f_Picture_init sc_Picture_init bd_Picture_init (fun _ _ _ _ ⟨_, _, _, _, _, e, _⟩ => by rw [e]; rfl) fun cdv A outer s H vs Q E hr h => ?_
  obtain ⟨p, dx, u1, u2, u3, rfl, hp, q⟩ := h
  have fc_Picture := T.c_Picture
  have fn_Picture_colours := T.n_Picture_colours
  have fn_Picture_height := T.n_Picture_height
  have fn_Picture_width := T.n_Picture_width
  refine ⟨_, (pss_cons (kx_sfld (K := K) rfl (pv 0) (pv 1) rfl)
      (pss_cons (kx_sfld (K := K) rfl (pv 0) (pv 2) rfl)
      (pss_one (kx_sfld (K := K) rfl (pv 0) (pv 3) rfl)))), ?_⟩
  walk_at "go"
  rw [new_Picture]
  exact q _ ((But.trans But.at_ But.at_).trans But.at_) upd_same
theorem sc_Pictured_init : FnScope ["self", "picture", "how", "smooth", "six"] ["self", "picture", "how", "smooth", "six"] (defScope s_Pictured_init) := ⟨rfl, rfl, rfl, by decide +kernel, rfl, by decide +kernel, by decide +kernel⟩
theorem bd_Pictured_init : BindAll "__init__" "Pictured.__init__" s_Pictured_init ["self", "picture", "how", "smooth", "six"] := fun _ _ _ _ _ _ us hl => match us, hl with | [_, _, _, _, _], _ => rfl
theorem ok_Pictured_init (T : Txt K mg) : Ok P w K mg base CX0 1 (He.fAd K ("Pictured", some "__init__")) ["self", "picture", "how", "smooth", "six"] (fun vs H Q _ => ∃ (p dx : Addr) (u1 u2 u3 u4 : V), vs = [.ref p, u1, u2, u3, u4] ∧ H p = some (.ins (He.ga K "Pictured") dx []) ∧ Made K "Pictured" p dx (fl_Pictured u1 u2 u3 u4) H Q) := by
  refine mk_ok T.f_Pictured_init sc_Pictured_init bd_Pictured_init (fun _ _ _ _ ⟨_, _, _, _, _, _, e, _⟩ => by rw [e]; rfl) fun cdv A outer s H vs Q E hr h => ?_
  obtain ⟨p, dx, u1, u2, u3, u4, rfl, hp, q⟩ := h
  have fc_Group := T.c_Group
  have fc_Layer := T.c_Layer
  have fc_Mark := T.c_Mark
  have fc_Pictured := T.c_Pictured
  have fc_Shade := T.c_Shade
  have fn_Group_how := T.n_Group_how
  have fn_Layer_how := T.n_Layer_how
  have fn_Mark_how := T.n_Mark_how
  have fn_Pictured_how := T.n_Pictured_how
  have fn_Pictured_picture := T.n_Pictured_picture
  have fn_Pictured_six := T.n_Pictured_six
  have fn_Pictured_smooth := T.n_Pictured_smooth
  have fn_Shade_how := T.n_Shade_how
  refine ⟨_, (pss_cons (kx_sfld (K := K) rfl (pv 0) (pv 1) rfl)
      (pss_cons (kx_sfld (K := K) rfl (pv 0) (pv 2) rfl)
      (pss_cons (kx_sfld (K := K) rfl (pv 0) (pv 3) rfl)
      (pss_one (kx_sfld (K := K) rfl (pv 0) (pv 4) rfl))))), ?_⟩
  walk_at "go"
  rw [new_Pictured]
  exact q _ (((But.trans But.at_ But.at_).trans But.at_).trans But.at_) upd_same
end
/-! ### pictures -/
def numV : Option Nat → V
  | some k => .int (k : Int)
  | none => .non
theorem held_is {how n : Nat} {i : Int} (hh : how ≤ 3) (hn : 0 < n) : broughtI i n how = numV (Vd.held how n i) ∧ ∀ k, Vd.held how n i = some k → k < n := by
  have wh : ∀ m : Nat, ((how : Int) = (m : Int)) ↔ how = m := fun m => Int.ofNat_inj
  have m1 := Int.emod_nonneg i (show (n : Int) ≠ 0 by omega)
  have m2 := Int.emod_lt_of_pos i (show (0 : Int) < n by omega)
  have m3 := Int.emod_nonneg i (show 2 * (n : Int) ≠ 0 by omega)
  have m4 := Int.emod_lt_of_pos i (show (0 : Int) < 2 * n by omega)
  have m5 : 0 ≤ i ∧ i < n → i % (n : Int) = i := fun h => Int.emod_eq_of_lt h.1 h.2
  have m6 : 0 ≤ i ∧ i < n → i % (2 * (n : Int)) = i := fun h => Int.emod_eq_of_lt h.1 (by omega)
  unfold broughtI Vd.held
  by_cases c0 : how = 0
  · subst c0
    rw [if_pos rfl]
    by_cases c : 0 ≤ i ∧ i < (n : Int)
    · rw [if_pos c, if_pos c]
      exact ⟨congrArg V.int (by omega), fun k e => by have := Option.some.inj e; omega⟩
    · rw [if_neg c, if_neg c]
      exact ⟨rfl, fun k e => by cases e⟩
  rw [if_neg c0]
  by_cases c1 : how = 1
  · subst c1
    rw [if_pos rfl]
    refine ⟨?_, fun k e => by have := Option.some.inj e; omega⟩
    split
    · exact congrArg V.int (by omega)
    · rw [if_neg (by decide), if_pos (by rfl)]
      split
      · exact congrArg V.int (by omega)
      · exact congrArg V.int (by omega)
  rw [if_neg c1]
  by_cases c2 : how = 2
  · subst c2
    rw [if_pos rfl]
    refine ⟨?_, fun k e => by have := Option.some.inj e; omega⟩
    split
    · rename_i c
      exact congrArg V.int (by have := m5 c; omega)
    · rw [if_neg (by decide), if_neg (by decide), if_pos (by rfl)]
      exact congrArg V.int (by omega)
  rw [if_neg c2]
  have c3 : how = 3 := by omega
  subst c3
  show _ = numV (some _) ∧ ∀ k, some _ = some k → k < n
  refine ⟨?_, fun k e => by have := Option.some.inj e; split at this <;> omega⟩
  split
  · rename_i c
    have e := m6 c
    refine congrArg V.int ?_
    rw [e, if_pos c.2]
    omega
  · rw [if_neg (by decide), if_neg (by decide), if_neg (by decide)]
    split
    · rename_i c c4
      exact congrArg V.int (by omega)
    · exact congrArg V.int (by omega)
def PicOk (p : Vd.Picture) : Prop := 0 < p.w ∧ p.w ≤ 1024 ∧ 0 < p.h ∧ p.h ≤ 1024 ∧ p.cols.length = p.w * p.h ∧ ∀ c ∈ p.cols, Sml c
def PicAt (K : PySem.W.Frag) (H : Hp) (v : V) (p : Vd.Picture) : Prop := ∃ a dx lc, v = .ref a ∧ H a = some (.ins (He.ga K "Picture") dx (fl_Picture (.int (p.w : Int)) (.int (p.h : Int)) (.ref lc))) ∧ ListOf ColAt H lc (p.cols.map Vd.Col.laid) ∧ PicOk p
theorem PicAt.keep {K : PySem.W.Frag} {H H' : Hp} {v : V} {p : Vd.Picture} (s : Keep H H') (h : PicAt K H v p) : PicAt K H' v p :=
  let ⟨a, dx, lc, e, b, c, d⟩ := h
  ⟨a, dx, lc, e, s _ _ b rfl, c.keep (R := ColAt) (fun _ _ _ _ e h => ColAt.keep e h) s, d⟩
theorem pic_pre {p : Vd.Picture} {how : Nat} {i j : Int} (h : PicOk p) : Pre (p.at_ how i j) := by
  unfold Vd.Picture.at_
  split
  · rename_i x y _ _
    rw [List.getD_eq_getElem?_getD]
    cases e : p.cols[y * p.w + x]? with
    | none => exact Sml.laid (c := Vd.nothing) ⟨by decide, by decide, by decide, by decide⟩
    | some c => exact Sml.laid (h.2.2.2.2.2 c (List.mem_of_getElem? e))
  · exact nothing_pre
section
variable {P : Program} {w : World} {K : PySem.W.Frag} {mg : Str → Option Value} {base : Heap}
theorem sc_Picture_colour_in : FnScope ["self", "column", "row", "how", "x", "y"] ["self", "column", "row", "how"] (defScope s_Picture_colour_in) := ⟨rfl, rfl, rfl, by decide +kernel, rfl, by decide +kernel, by decide +kernel⟩
theorem bd_Picture_colour_in : BindAll "colour_in" "Picture.colour_in" s_Picture_colour_in ["self", "column", "row", "how"] := fun _ _ _ _ _ _ us hl => match us, hl with | [_, _, _, _], _ => rfl
theorem ok_Picture_colour_in (T : Txt K mg) : Ok P w K mg base CX0 2 (He.fAd K ("Picture", some "colour_in")) ["self", "column", "row", "how"] (fun vs H Q _ => ∃ (v : V) (p : Vd.Picture) (i j : Int) (how : Nat), vs = [v, .int i, .int j, .int (how : Int)] ∧ PicAt K H v p ∧ how ≤ 3 ∧ RetCol (p.at_ how i j) H Q) := by
  refine mk_ok T.f_Picture_colour_in sc_Picture_colour_in bd_Picture_colour_in (fun _ _ _ _ ⟨_, _, _, _, _, e, _⟩ => by rw [e]; rfl) fun cdv A outer s H vs Q E hr h => ?_
  obtain ⟨v, p, i, j, how, rfl, ⟨a, dx, lc, rfl, ha, hl, ⟨p1, p2, p3, p4, p5, p6⟩⟩, hh, q⟩ := h
  have fc_Picture := T.c_Picture
  have fn_Picture_colours := T.n_Picture_colours
  have fn_Picture_height := T.n_Picture_height
  have fn_Picture_width := T.n_Picture_width
  refine ⟨_, (pss_cons (ps_set (i := 4) sc_Picture_colour_in.nd rfl (Or.inl rfl) (c_call (ok_brought_in (K := K) T) hr (by decide) rfl T.g_brought_in pass0 (pa_cons (pv 1) (pa_cons (kx_fld (K := K) rfl (pv 0) rfl) (pa_cons (pv 3) pa_nil)))))
      (pss_cons (ps_set (i := 5) sc_Picture_colour_in.nd rfl (Or.inl rfl) (c_call (ok_brought_in (K := K) T) hr (by decide) rfl T.g_brought_in pass0 (pa_cons (pv 2) (pa_cons (kx_fld (K := K) rfl (pv 0) rfl) (pa_cons (pv 3) pa_nil)))))
      (pss_cons (ps_if (PW.pt (pw_or (pt_cmp (pc_isN (pv 4)) rfl) (pw_or1 (pt_cmp (pc_isN (pv 5)) rfl)))) (pss_one (ps_ret (c_call0 (ok_nothing (K := K) T) hr (by decide) rfl T.g_nothing pass0))) pss_nil)
      (pss_one (ps_ret (pe_ix (kx_ixl (K := K) rfl) (kx_fld (K := K) rfl (pv 0) rfl) (pe_op op_add (pe_op op_mul (pv 5) (kx_fld (K := K) rfl (pv 0) rfl)) (pv 4)) (fun _ _ => rfl))))))), ?_⟩
  obtain ⟨e1, k1⟩ := held_is (i := i) hh p1
  obtain ⟨e2, k2⟩ := held_is (i := j) hh p3
  walk_at "go"
  cases h1 : Vd.held how p.w i with
  | none =>
    rw [h1] at e1
    have eq : p.at_ how i j = Vd.nothing := by
      unfold Vd.Picture.at_
      rw [h1]
    refine ite2 (fun c => ?_) (fun c => absurd (decide_eq_true e1) c)
    walk_at "go"
    rw [← eq]
    exact q
  | some x =>
    have kx := k1 x h1
    rw [h1] at e1
    refine ite2 (fun c => absurd (e1.symm.trans (of_decide_eq_true c)) (by intro z; cases z)) (fun c => ?_)
    walk_at "go"
    cases h2 : Vd.held how p.h j with
    | none =>
      rw [h2] at e2
      have eq : p.at_ how i j = Vd.nothing := by
        unfold Vd.Picture.at_
        rw [h1, h2]
      refine ite2 (fun c => ?_) (fun c => absurd (decide_eq_true e2) c)
      walk_at "go"
      rw [← eq]
      exact q
    | some y =>
      have ky := k2 y h2
      rw [h2] at e2
      refine ite2 (fun c => absurd (e2.symm.trans (of_decide_eq_true c)) (by intro z; cases z)) (fun c => ?_)
      walk_at "go"
      obtain ⟨vs, hvs, av⟩ := hl
      have lin : y * p.w + x < p.cols.length := by
        rw [p5, Nat.mul_comm p.w]
        have := Nat.mul_le_mul_right p.w (show y + 1 ≤ p.h by omega)
        rw [Nat.add_mul] at this
        omega
      have ec := List.getElem?_eq_getElem lin
      have eq : p.at_ how i j = (p.cols[y * p.w + x]).laid := by
        unfold Vd.Picture.at_
        rw [h1, h2]
        show (p.cols.getD (y * p.w + x) Vd.nothing).laid = _
        rw [List.getD_eq_getElem?_getD, ec] <;> rfl
      obtain ⟨v, hv, cv⟩ := av.at (i := y * p.w + x) (x := (p.cols[y * p.w + x]).laid) (by rw [List.getElem?_map, ec] <;> rfl)
      refine ⟨_, _, e2, rfl, .inl ⟨by omega, by omega⟩, _, rfl, _, _, rfl, e1, lc, vs, _, v, rfl, rfl, SqL.of hvs, at_of (j := y * p.w + x) (by push_cast; rfl) hv, ?_⟩
      exact q _ _ (Same.refl _) (by rw [eq]; exact cv)
end
end Pd
end
section
set_option Elab.async false
set_option linter.all false
set_option maxRecDepth 100000
set_option maxHeartbeats 4000000
namespace Pd
open PySem PySem.Spec PyProof.Rows L2
local macro_rules | `(tactic| walk_at "at") => `(tactic| first
  | assumption
  | exact upd_same
  | (refine (show Same _ _ by assumption) _ _ ?_; walk_at "at")
  | (refine (show But _ _ _ by assumption) _ _ (by assumption) ?_; assumption)
  | (refine Same.new (by assumption) _ _ ?_; walk_at "at")
  | (refine (upd_ne (ne_of (by assumption) (by assumption) (by intro z; cases z))).trans ?_; walk_at "at"))
local macro_rules | `(tactic| walk_at "go") => `(tactic| repeat (first
  | refine ⟨_, rfl, ?_⟩
  | refine ⟨_, _, rfl, rfl, ?_⟩
  | refine ⟨_, _, rfl, ?_⟩
  | refine ⟨_, _, _, rfl, ?_⟩
  | refine And.intro rfl ?_
  | refine And.intro (Or.inl ⟨by decide, by decide⟩) ?_
  | refine And.intro (Or.inr ⟨by decide, by decide⟩) ?_
  | refine And.intro ⟨by decide, by decide⟩ ?_
  | refine And.intro (Or.inl ⟨by omega, by omega⟩) ?_
  | refine And.intro (Or.inr ⟨by omega, by omega⟩) ?_
  | refine And.intro ⟨by omega, by omega⟩ ?_
  | refine And.intro trivial ?_
  | refine And.intro (by omega) ?_
  | refine And.intro (sz (Nat.le_of_ble_eq_true rfl)) ?_
  | refine And.intro (Or.inl ⟨rfl, _, SqL.of (by walk_at "at")⟩) ?_
  | refine ⟨_, _, _, _, rfl, rfl, SqT.of (by walk_at "at"), (by rfl), ?_⟩
  | refine ⟨_, _, _, _, rfl, rfl, SqL.of (by walk_at "at"), (by rfl), ?_⟩
  | refine ⟨_, _, _, _, _, rfl, (by walk_at "at"), (by assumption), (by assumption), Lk.h, ?_⟩
  | refine ⟨_, _, _, rfl, rfl, (by walk_at "at"), ?_⟩
  | refine ⟨_, _, _, rfl, (by walk_at "at"), LkN.h, ?_⟩
  | refine ⟨_, _, _, _, rfl, (by walk_at "at"), (by assumption), (by assumption), (by apply few_lt; decide), ?_⟩
  | refine ⟨_, _, (by walk_at "at"), (by apply few_lt; decide), ?_⟩
  | refine ⟨_, _, rfl, Or.inl (SqL.of (by walk_at "at")), ?_⟩))
def LinAt (K : PySem.W.Frag) (G : Gh) (H : Hp) (v : V) (a b : Vd.Pt) (how : Nat) (l : List Vd.Stop) : Prop := ∃ p dx sv, v = .ref p ∧ H p = some (.ins (He.ga K "Linear") dx (fl_Linear (.int a.1) (.int a.2) (.int (b.1 - a.1)) (.int (b.2 - a.2)) (.int (Vd.dist2 b a)) sv)) ∧ NearP a ∧ NearP b ∧ ShadeAt K G H sv how l
def RadAt (K : PySem.W.Frag) (G : Gh) (H : Hp) (v : V) (m : Vd.Pt) (r : Int) (how : Nat) (l : List Vd.Stop) : Prop := ∃ p dx sv, v = .ref p ∧ H p = some (.ins (He.ga K "Radial") dx (fl_Radial (.int m.1) (.int m.2) (.int r) sv)) ∧ NearP m ∧ (0 ≤ r ∧ r ≤ 1048576) ∧ ShadeAt K G H sv how l
theorem dist_zero {a b : Vd.Pt} : Vd.dist2 b a = 0 ↔ a = b := by
  unfold Vd.dist2
  constructor
  · intro h
    have h1 := sq_nonneg (b.1 - a.1)
    have h2 := sq_nonneg (b.2 - a.2)
    have e1 : (b.1 - a.1) = 0 := by
      rcases Int.mul_eq_zero.mp (show (b.1 - a.1) * (b.1 - a.1) = 0 by omega) with z | z <;> exact z
    have e2 : (b.2 - a.2) = 0 := by
      rcases Int.mul_eq_zero.mp (show (b.2 - a.2) * (b.2 - a.2) = 0 by omega) with z | z <;> exact z
    exact Prod.ext (by omega) (by omega)
  · rintro rfl
    simp
theorem dist_pos {a b : Vd.Pt} (h : a ≠ b) : 0 < Vd.dist2 b a := by
  have h0 : Vd.dist2 b a ≠ 0 := fun z => h (dist_zero.mp z)
  have h1 := sq_nonneg (b.1 - a.1)
  have h2 := sq_nonneg (b.2 - a.2)
  unfold Vd.dist2 at h0 ⊢
  omega
section
variable {P : Program} {w : World} {K : PySem.W.Frag} {mg : Str → Option Value} {base : Heap}
theorem sc_Linear_gives : FnScope ["self", "x", "y", "along"] ["self", "x", "y"] (defScope s_Linear_gives) := ⟨rfl, rfl, rfl, by decide +kernel, rfl, by decide +kernel, by decide +kernel⟩
theorem bd_Linear_gives : BindAll "gives" "Linear.gives" s_Linear_gives ["self", "x", "y"] := fun _ _ _ _ _ _ us hl => match us, hl with | [_, _, _], _ => rfl
theorem ok_Linear_gives (T : Txt K mg) : Ok P w K mg base CX0 4 (He.fAd K ("Linear", some "gives")) ["self", "x", "y"] (fun vs H Q _ => ∃ (G : Gh) (v : V) (a b : Vd.Pt) (how : Nat) (l : List Vd.Stop) (z : Vd.Pt), vs = [v, .int z.1, .int z.2] ∧ LinAt K G H v a b how l ∧ NearR z.1 ∧ NearR z.2 ∧ GiveCol G ((Vd.Paint.linear a b how l).gives z) H Q) := by
  refine mk_ok T.f_Linear_gives sc_Linear_gives bd_Linear_gives (fun _ _ _ _ ⟨_, _, _, _, _, _, _, e, _⟩ => by rw [e]; rfl) fun cdv A outer s H vs Q E hr h => ?_
  obtain ⟨G, v, a, b, how, l, z, rfl, ⟨p, dx, sv, rfl, hp, ⟨⟨a1, a2⟩, a3, a4⟩, ⟨⟨b1, b2⟩, b3, b4⟩, sh⟩, ⟨z1, z2⟩, ⟨z3, z4⟩, q⟩ := h
  obtain ⟨sp, sdx, sls, sd, rfl, hsp, srest⟩ := id sh
  have fc_Linear := T.c_Linear
  have fc_Radial := T.c_Radial
  have fn_Linear_a_x := T.n_Linear_a_x
  have fn_Linear_a_y := T.n_Linear_a_y
  have fn_Linear_across := T.n_Linear_across
  have fn_Linear_down := T.n_Linear_down
  have fn_Linear_shade := T.n_Linear_shade
  have fn_Linear_square := T.n_Linear_square
  have fn_Radial_shade := T.n_Radial_shade
  refine ⟨_, (pss_cons (ps_if (pt_cmpR op_eq (kx_fld (K := K) rfl (pv 0) rfl) pe_int (nomark _)) (pss_one (ps_ret (c_meth (ok_Shade_shade_at (K := K) T) hr (by decide) T.c_Shade T.m_Shade_shade_at pass0 (kx_fld (K := K) rfl (pv 0) rfl) (pa_cons (c_int rfl T.i_WHOLE_shades) pa_nil)))) pss_nil)
      (pss_cons (ps_set (i := 3) sc_Linear_gives.nd rfl (Or.inl rfl) (pe_op op_add (pe_op op_mul (pe_op op_sub (pv 1) (kx_fld (K := K) rfl (pv 0) rfl)) (kx_fld (K := K) rfl (pv 0) rfl)) (pe_op op_mul (pe_op op_sub (pv 2) (kx_fld (K := K) rfl (pv 0) rfl)) (kx_fld (K := K) rfl (pv 0) rfl))))
      (pss_one (ps_ret (c_meth (ok_Shade_shade_at (K := K) T) hr (by decide) T.c_Shade T.m_Shade_shade_at pass0 (kx_fld (K := K) rfl (pv 0) rfl) (pa_cons (pe_op op_fdivW (pe_op op_mul (c_int rfl T.i_WHOLE_shades) (pv 3)) (kx_fld (K := K) rfl (pv 0) rfl)) pa_nil)))))), ?_⟩
  walk_at "go"
  refine ite2 (fun c => ?_) (fun c => ?_)
  · have c1 : a = b := dist_zero.mp (dint c)
    walk_at "go"
    refine ⟨G, _, how, l, _, rfl, sh, ?_⟩
    have e : Vd.along a b z = Vd.WHOLE := if_pos c1
    show GiveCol G (Vd.shadeAt l (Vd.folded how Vd.WHOLE)).laid H _
    rw [← e]
    exact q
  · have c1 : ¬ a = b := fun e => dint_not c (dist_zero.mpr e)
    have dp := dist_pos c1
    have db : (Vd.dist2 b a).natAbs < 2 ^ 60 := by
      have h1 := abs_mul_le (a := b.1 - a.1) (b := b.1 - a.1) (m := 2097152) (n := 2097152) (by omega) (by omega) (by omega) (by omega)
      have h2 := abs_mul_le (a := b.2 - a.2) (b := b.2 - a.2) (m := 2097152) (n := 2097152) (by omega) (by omega) (by omega) (by omega)
      have := sq_nonneg (b.1 - a.1)
      have := sq_nonneg (b.2 - a.2)
      unfold Vd.dist2
      omega
    have wd : ∀ n : Int, CDivW n (Vd.dist2 b a) := fun n => wide_div dp db (by decide) (by decide)
    walk_at "go"
    refine And.intro (wd _) ?_
    walk_at "go"
    refine ⟨G, _, how, l, _, rfl, sh, ?_⟩
    have e : Vd.along a b z = Vd.WHOLE * ((z.1 - a.1) * (b.1 - a.1) + (z.2 - a.2) * (b.2 - a.2)) / Vd.dist2 b a := if_neg c1
    show GiveCol G (Vd.shadeAt l (Vd.folded how (Vd.WHOLE * ((z.1 - a.1) * (b.1 - a.1) + (z.2 - a.2) * (b.2 - a.2)) / Vd.dist2 b a))).laid H _
    rw [← e]
    exact q
theorem sc_Radial_gives : FnScope ["self", "x", "y", "across", "down", "distance"] ["self", "x", "y"] (defScope s_Radial_gives) := ⟨rfl, rfl, rfl, by decide +kernel, rfl, by decide +kernel, by decide +kernel⟩
theorem bd_Radial_gives : BindAll "gives" "Radial.gives" s_Radial_gives ["self", "x", "y"] := fun _ _ _ _ _ _ us hl => match us, hl with | [_, _, _], _ => rfl
theorem ok_Radial_gives (T : Txt K mg) : Ok P w K mg base CX0 4 (He.fAd K ("Radial", some "gives")) ["self", "x", "y"] (fun vs H Q _ => ∃ (G : Gh) (v : V) (m : Vd.Pt) (r : Int) (how : Nat) (l : List Vd.Stop) (z : Vd.Pt), vs = [v, .int z.1, .int z.2] ∧ RadAt K G H v m r how l ∧ NearR z.1 ∧ NearR z.2 ∧ GiveCol G ((Vd.Paint.radial m r how l).gives z) H Q) := by
  refine mk_ok T.f_Radial_gives sc_Radial_gives bd_Radial_gives (fun _ _ _ _ ⟨_, _, _, _, _, _, _, e, _⟩ => by rw [e]; rfl) fun cdv A outer s H vs Q E hr h => ?_
  obtain ⟨G, v, m, r, how, l, z, rfl, ⟨p, dx, sv, rfl, hp, ⟨⟨a1, a2⟩, a3, a4⟩, ⟨r1, r2⟩, sh⟩, ⟨z1, z2⟩, ⟨z3, z4⟩, q⟩ := h
  obtain ⟨sp, sdx, sls, sd, rfl, hsp, srest⟩ := id sh
  have fc_Linear := T.c_Linear
  have fc_Radial := T.c_Radial
  have fn_Linear_shade := T.n_Linear_shade
  have fn_Radial_m_x := T.n_Radial_m_x
  have fn_Radial_m_y := T.n_Radial_m_y
  have fn_Radial_radius := T.n_Radial_radius
  have fn_Radial_shade := T.n_Radial_shade
  refine ⟨_, (pss_cons (ps_if (pt_cmpR op_eq (kx_fld (K := K) rfl (pv 0) rfl) pe_int (nomark _)) (pss_one (ps_ret (c_meth (ok_Shade_shade_at (K := K) T) hr (by decide) T.c_Shade T.m_Shade_shade_at pass0 (kx_fld (K := K) rfl (pv 0) rfl) (pa_cons (c_int rfl T.i_WHOLE_shades) pa_nil)))) pss_nil)
      (pss_cons (ps_set (i := 3) sc_Radial_gives.nd rfl (Or.inl rfl) (pe_op op_sub (pv 1) (kx_fld (K := K) rfl (pv 0) rfl)))
      (pss_cons (ps_set (i := 4) sc_Radial_gives.nd rfl (Or.inl rfl) (pe_op op_sub (pv 2) (kx_fld (K := K) rfl (pv 0) rfl)))
      (pss_cons (ps_set (i := 5) sc_Radial_gives.nd rfl (Or.inl rfl) (pe_op op_add (pe_op op_mul (pv 3) (pv 3)) (pe_op op_mul (pv 4) (pv 4))))
      (pss_one (ps_ret (c_meth (ok_Shade_shade_at (K := K) T) hr (by decide) T.c_Shade T.m_Shade_shade_at pass0 (kx_fld (K := K) rfl (pv 0) rfl) (pa_cons (c_call (ok_whole_root (K := K) T) hr (by decide) rfl T.g_whole_root pass0 (pa_cons (pe_op op_fdivW (pe_op op_mul (pe_op op_mul (c_int rfl T.i_WHOLE_shades) (c_int rfl T.i_WHOLE_shades)) (pv 5)) (pe_op op_mul (kx_fld (K := K) rfl (pv 0) rfl) (kx_fld (K := K) rfl (pv 0) rfl))) pa_nil)) pa_nil)))))))), ?_⟩
  walk_at "go"
  refine ite2 (fun c => ?_) (fun c => ?_)
  · have c1 : r = 0 := dint c
    walk_at "go"
    refine ⟨G, _, how, l, _, rfl, sh, ?_⟩
    have e : Vd.radius m r z = Vd.WHOLE := if_pos c1
    show GiveCol G (Vd.shadeAt l (Vd.folded how Vd.WHOLE)).laid H _
    rw [← e]
    exact q
  · have c1 : ¬ r = 0 := dint_not c
    have m1 : -110000000 ≤ z.1 - m.1 ∧ z.1 - m.1 ≤ 110000000 := by omega
    have m2 : -110000000 ≤ z.2 - m.2 ∧ z.2 - m.2 ≤ 110000000 := by omega
    have dp : 0 < r * r := Int.mul_pos (by omega) (by omega)
    have db : (r * r).natAbs < 2 ^ 60 := by
      have h1 := abs_mul_le (a := r) (b := r) (m := 1048576) (n := 1048576) (by omega) (by omega) (by omega) (by omega)
      omega
    have wd : ∀ n : Int, CDivW n (r * r) := fun n => wide_div dp db (by decide) (by decide)
    have dd : 0 ≤ Vd.dist2 z m ∧ Vd.dist2 z m ≤ 2 ^ 60 := by
      have h1 := abs_mul_le (a := z.1 - m.1) (b := z.1 - m.1) (m := 110000000) (n := 110000000) (by omega) (by omega) (by omega) (by omega)
      have h2 := abs_mul_le (a := z.2 - m.2) (b := z.2 - m.2) (m := 110000000) (n := 110000000) (by omega) (by omega) (by omega) (by omega)
      have := sq_nonneg (z.1 - m.1)
      have := sq_nonneg (z.2 - m.2)
      unfold Vd.dist2
      omega
    have nn : 0 ≤ Vd.WHOLE * Vd.WHOLE * Vd.dist2 z m / (r * r) := Int.ediv_nonneg (Int.mul_nonneg (by decide) dd.1) (Int.le_of_lt dp)
    have nb : Vd.WHOLE * Vd.WHOLE * Vd.dist2 z m / (r * r) < 2 ^ 200 := by
      have h1 : Vd.WHOLE * Vd.WHOLE * Vd.dist2 z m / (r * r) ≤ Vd.WHOLE * Vd.WHOLE * Vd.dist2 z m := Int.ediv_le_self _ (Int.mul_nonneg (by decide) dd.1)
      have h2 : Vd.WHOLE * Vd.WHOLE * Vd.dist2 z m ≤ 4294967296 * 2 ^ 60 := Int.mul_le_mul_of_nonneg_left dd.2 (by decide)
      exact Int.lt_of_le_of_lt h1 (Int.lt_of_le_of_lt h2 (by decide))
    have er := root_isRoot (Vd.WHOLE * Vd.WHOLE * Vd.dist2 z m / (r * r)).toNat
    rw [Int.toNat_of_nonneg nn] at er
    walk_at "go"
    refine And.intro (wd _) ?_
    walk_at "go"
    refine ⟨⟨nn, nb⟩, fun r1 hr1 => ?_⟩
    have e1 := IsRoot.uniq hr1 er
    refine ⟨G, _, how, l, r1, rfl, sh, ?_⟩
    have e : Vd.radius m r z = ((Vd.root (Vd.WHOLE * Vd.WHOLE * Vd.dist2 z m / (r * r)).toNat : Nat) : Int) := if_neg c1
    rw [e1, ← e]
    exact q
end
end Pd
end
section
set_option Elab.async false
set_option linter.all false
set_option maxRecDepth 100000
set_option maxHeartbeats 4000000
/-! zip of four tuples -/
namespace Pd
open PySem PySem.Spec PyProof.Rows L2
theorem nn4 {a b : Nat} (h : a ≠ b) : a ≠ b := h
/-- the cells of a zip of four tuples: its iterators from I on, then the tuple of these, its own tuple, itself -/
structure Z4 (I : Nat) (l : Nat → Nat) (old : Heap) (m : Nat) (h : Heap) (f0 : Value) (to : Array Value) (n : Nat → Nat) : Prop where
  zp : IsZip h (I + 6) (I + 4) (I + 5) f0
  ti : h.get? (I + 4) = some { cls := .type "tuple", data := .seq #[.ref (I + 0), .ref (I + 1), .ref (I + 2), .ref (I + 3)] }
  tO : h.get? (I + 5) = some { cls := .type "tuple", data := .seq to }
  it : ∀ k : Nat, k < 4 → h.IsTupleIter (I + k) (l k) (n k)
  lo : ∀ k : Nat, k < 4 → l k < I
  sz : h.objs.size = m
  keep : ∀ c o, c ≠ I + 6 → c ≠ I + 5 → (∀ k : Nat, k < 4 → c ≠ I + k) → old.get? c = some o → h.get? c = some o
section
variable {I m : Nat} {l : Nat → Nat} {old h h' : Heap} {f0 f1 : Value} {to : Array Value} {n : Nat → Nat}
/-- one cell is written -/
theorem Z4.zip (S : Z4 I l old m h f0 to n) (b : Heap.SameBut (I + 6) h h') (z : IsZip h' (I + 6) (I + 4) (I + 5) f1) : Z4 I l old m h' f1 to n where
  zp := z
  ti := (b.2 _ (nn4 (by omega))).trans S.ti
  tO := (b.2 _ (nn4 (by omega))).trans S.tO
  it := fun k hk => (S.it k hk).extBut b.extBut (nn4 (by omega))
  lo := S.lo
  sz := b.1.trans S.sz
  keep := fun c o c1 c2 c3 e => b.extBut _ _ c1 (S.keep c o c1 c2 c3 e)
theorem Z4.own {to' : Array Value} (S : Z4 I l old m h f0 to n) (b : Heap.SameBut (I + 5) h h') (z : h'.get? (I + 5) = some { cls := .type "tuple", data := .seq to' }) : Z4 I l old m h' f0 to' n where
  zp := (b.2 _ (nn4 (by omega))).trans S.zp
  ti := (b.2 _ (nn4 (by omega))).trans S.ti
  tO := z
  it := fun k hk => (S.it k hk).extBut b.extBut (nn4 (by omega))
  lo := S.lo
  sz := b.1.trans S.sz
  keep := fun c o c1 c2 c3 e => b.extBut _ _ c2 (S.keep c o c1 c2 c3 e)
theorem Z4.step {k : Nat} (S : Z4 I l old m h f0 to n) (hk : k < 4) (b : Heap.SameBut (I + k) h h') (z : h'.IsTupleIter (I + k) (l k) (n k + 1)) : Z4 I l old m h' f0 to (fun j => if j = k then n k + 1 else n j) where
  zp := (b.2 _ (nn4 (by omega))).trans S.zp
  ti := (b.2 _ (nn4 (by omega))).trans S.ti
  tO := (b.2 _ (nn4 (by omega))).trans S.tO
  it := fun j hj => by
    by_cases e : j = k
    · subst e
      rw [if_pos rfl]
      exact z
    · rw [if_neg e]
      exact (S.it j hj).extBut b.extBut (nn4 (by omega))
  lo := S.lo
  sz := b.1.trans S.sz
  keep := fun c o c1 c2 c3 e => b.extBut _ _ (c3 k hk) (S.keep c o c1 c2 c3 e)
theorem Z4.same {n' : Nat → Nat} (S : Z4 I l old m h f0 to n) (e : ∀ k : Nat, k < 4 → n k = n' k) : Z4 I l old m h f0 to n' :=
  { S with it := fun k hk => by rw [← e k hk]; exact S.it k hk }
theorem Z4.push {o : Obj} (S : Z4 I l old m h f0 to n) : Z4 I l old (m + 1) (h.push o) f0 to n where
  zp := Heap.get?_push_of_some _ S.zp
  ti := Heap.get?_push_of_some _ S.ti
  tO := Heap.get?_push_of_some _ S.tO
  it := fun k hk => (S.it k hk).at fun o e => Heap.get?_push_of_some _ e
  lo := S.lo
  sz := by rw [Heap.size_push, S.sz]
  keep := fun c o c1 c2 c3 e => Heap.get?_push_of_some _ (S.keep c o c1 c2 c3 e)
end
section
variable {prog : Program} {w : World} {A : Around} {E : Value → Shared → Prop} {hp : Heap} {g d tk os} {I m : Nat} {l : Nat → Nat} {xs : Nat → Array Value} {old : Heap} {f0 : Value} {to : Array Value} {n : Nat → Nat}
theorem Z4.tup {h : Heap} {k : Nat} {ys : Array Value} (S : Z4 I l old m h f0 to n) (hk : k < 4) (t : old.IsTuple (l k) ys) : h.IsTuple (l k) ys := by
  have lo := S.lo k hk
  exact t.at fun o e => S.keep _ o (nn4 (by omega)) (nn4 (by omega)) (fun j hj => nn4 (by omega)) e
theorem z4_draw {k : Nat} {x : Value} {Q : Value → Shared → Prop} (ht : old.IsTuple (l k) (xs k)) (S : Z4 I l old m hp f0 to n) (hk : k < 4) (hx : (xs k)[n k]? = some x)
    (q : ∀ h', Z4 I l old m h' f0 to (fun j => if j = k then n k + 1 else n j) → Q x ⟨h', g, d, tk, os⟩) : wpAny (model prog w) A (Builtin.SmallTypes.nextOf (.ref (I + k))) Q E ⟨hp, g, d, tk, os⟩ :=
  RZ.nextOf_tuple_item (s := ⟨hp, g, d, tk, os⟩) (S.it k hk) (S.tup hk ht) hx fun h' i b => q h' (S.step hk b i)
theorem z4_put {k : Nat} {x : Value} {Q : Unit → Shared → Prop} (S : Z4 I l old m hp f0 to n) (h4 : to.size = 4)
    (q : ∀ h', Z4 I l old m h' f0 (to.setIfInBounds k x) n → Q () ⟨h', g, d, tk, os⟩) : wpAny (model prog w) A (updateSeq (I + 5) (·.setIfInBounds k x)) Q E ⟨hp, g, d, tk, os⟩ := by
  refine wpAny_updateSeq (s := ⟨hp, g, d, tk, os⟩) S.tO rfl (q _ (S.own (Heap.SameBut.update ..) ?_)) (by rw [h4]; decide) (by rw [Array.size_setIfInBounds, h4]; decide)
  rw [Heap.get?_update_self _ S.tO rfl]
  simp [Obj.mapSeq]
theorem z4_next {x : Nat → Value} {Q : Value → Shared → Prop} (ht : ∀ k : Nat, k < 4 → old.IsTuple (l k) (xs k)) (S : Z4 I l old m hp .none to n) (hto : to.size = 4) (hx : ∀ k : Nat, k < 4 → (xs k)[n k]? = some (x k))
    (q : ∀ h', Z4 I l old (m + 1) h' (rawInt m) #[x 0, x 1, x 2, x 3] (fun k => n k + 1) → h'.get? m = some { cls := .type "tuple", data := .seq #[x 0, x 1, x 2, x 3] } → Q (.ref m) ⟨h', g, d, tk, os⟩) :
    wpAny (model prog w) A (Builtin.«zip.__next__» ⟨[.ref (I + 6)], []⟩) (fun r s1 => ∃ v, r = .done (.ret v) ∧ Q v s1) E ⟨hp, g, d, tk, os⟩ := by
  show wpAny (model prog w) _ (field (.ref (I + 6)) 2 >>= _) _ _ _
  refine wpAny_bind (wpAny_field S.zp rfl (x := .bool false) rfl ?_)
  show wpAny (model prog w) _ (field (.ref (I + 6)) 3 >>= _) _ _ _
  refine wpAny_bind (wpAny_field S.zp rfl (x := .ref (I + 4)) rfl ?_)
  refine wpAny_bind (wpAny_seqItems S.ti rfl ?_)
  show wpAny (model prog w) _ (Builtin.SmallTypes.ownedTupleIsFree (.ref (I + 6)) >>= _) _ _ _
  refine wpAny_bind ?_
  unfold Builtin.SmallTypes.ownedTupleIsFree
  refine wpAny_bind (wpAny_field S.zp rfl (x := .none) rfl (wpAny_pure ?_))
  simp only [if_true]
  refine wpAny_bind (wpAny_rule ?_)
  refine wpAny_bind (wpAny_field S.zp rfl (x := .ref (I + 5)) rfl ?_)
  refine wpAny_bind (wpAny_setField_rec S.zp (by simp) fun a z1 b1 => ?_)
  have S1 : Z4 I l old m a .ellipsis to n := S.zip b1 z1
  refine wpAny_bind ?_
  simp only [List.zipIdx_cons, List.zipIdx_nil, List.forIn_cons, List.forIn_nil]
  refine wpAny_bind (wpAny_bind (wpAny_onRaise ?_))
  show wpAny (model prog w) _ (Builtin.SmallTypes.nextOf (.ref (I + 0)) >>= _) _ _ _
  refine wpAny_bind (z4_draw (ht 0 (by decide)) S1 (by decide) (hx 0 (by decide)) fun a S2 => wpAny_pure ?_)
  refine wpAny_bind (wpAny_seqItems S2.tO rfl ?_)
  refine wpAny_bind (z4_put S2 (by simp [hto]) fun a S3 => ?_)
  refine wpAny_bind (wpAny_letGo (wpAny_pure ?_))
  refine wpAny_bind (wpAny_bind (wpAny_onRaise ?_))
  show wpAny (model prog w) _ (Builtin.SmallTypes.nextOf (.ref (I + 1)) >>= _) _ _ _
  refine wpAny_bind (z4_draw (ht 1 (by decide)) S3 (by decide) (hx 1 (by decide)) fun a S4 => wpAny_pure ?_)
  refine wpAny_bind (wpAny_seqItems S4.tO rfl ?_)
  refine wpAny_bind (z4_put S4 (by simp [hto]) fun a S5 => ?_)
  refine wpAny_bind (wpAny_letGo (wpAny_pure ?_))
  refine wpAny_bind (wpAny_bind (wpAny_onRaise ?_))
  show wpAny (model prog w) _ (Builtin.SmallTypes.nextOf (.ref (I + 2)) >>= _) _ _ _
  refine wpAny_bind (z4_draw (ht 2 (by decide)) S5 (by decide) (hx 2 (by decide)) fun a S6 => wpAny_pure ?_)
  refine wpAny_bind (wpAny_seqItems S6.tO rfl ?_)
  refine wpAny_bind (z4_put S6 (by simp [hto]) fun a S7 => ?_)
  refine wpAny_bind (wpAny_letGo (wpAny_pure ?_))
  refine wpAny_bind (wpAny_bind (wpAny_onRaise ?_))
  show wpAny (model prog w) _ (Builtin.SmallTypes.nextOf (.ref (I + 3)) >>= _) _ _ _
  refine wpAny_bind (z4_draw (ht 3 (by decide)) S7 (by decide) (hx 3 (by decide)) fun a S8 => wpAny_pure ?_)
  refine wpAny_bind (wpAny_seqItems S8.tO rfl ?_)
  refine wpAny_bind (z4_put S8 (by simp [hto]) fun a S9 => ?_)
  refine wpAny_bind (wpAny_letGo (wpAny_pure (wpAny_pure ?_)))
  have hg : Array.setIfInBounds (Array.setIfInBounds (Array.setIfInBounds (to.setIfInBounds 0 (x 0)) (0 + 1) (x 1)) (0 + 1 + 1) (x 2)) (0 + 1 + 1 + 1) (x 3) = #[x 0, x 1, x 2, x 3] := by
    obtain ⟨ys⟩ := to
    match ys, hto with
    | [a, b, c, d], _ => rfl
  rw [hg] at S9
  have S10 := (S9.push (o := { cls := .type "tuple", data := .seq #[x 0, x 1, x 2, x 3] })).same (n' := fun k => n k + 1) (fun k hk => by
    match k, hk with
    | 0, _ => rfl
    | 1, _ => rfl
    | 2, _ => rfl
    | 3, _ => rfl)
  have am : a.objs.size = m := S9.sz
  have al : I + 6 < a.objs.size := Heap.lt_size S9.zp
  have new : (a.push { cls := .type "tuple", data := .seq #[x 0, x 1, x 2, x 3] }).get? m = some { cls := .type "tuple", data := .seq #[x 0, x 1, x 2, x 3] } := by
    rw [← am]
    exact Heap.get?_push_size _ rfl
  rw [am] at al
  refine wpAny_bind (wpAny_seqItems S9.tO rfl ?_)
  refine wpAny_bind (wpAny_newTuple ?_ (by show 4 ≤ sizeLine; decide))
  show wpAny (model prog w) _ (Builtin.SmallTypes.ownedTupleHandOut (.ref (I + 6)) (.ref a.objs.size) >>= _) _ _ ⟨a.push { cls := .type "tuple", data := .seq #[x 0, x 1, x 2, x 3] }, g, d, tk, os⟩
  rw [am]
  refine wpAny_bind ?_
  unfold Builtin.SmallTypes.ownedTupleHandOut
  refine wpAny_bind (wpAny_setField_rec S10.zp (by simp) fun b zb bb => ?_)
  have S11 : Z4 I l old (m + 1) b (rawInt m) #[x 0, x 1, x 2, x 3] (fun k => n k + 1) := S10.zip bb zb
  refine wpAny_setField_rec S11.zp (by simp) fun e ze be => ?_
  have S12 : Z4 I l old (m + 1) e (rawInt m) #[x 0, x 1, x 2, x 3] (fun k => n k + 1) := S11.zip be ze
  refine wpAny_pure ⟨_, rfl, ?_⟩
  show Q (.ref m) ⟨e, g, d, tk, os⟩
  exact q e S12 ((be.2 _ (nn4 (by omega))).trans ((bb.2 _ (nn4 (by omega))).trans new))
theorem z4_stop {Q : Fin → Shared → Prop} (calm : A.handled = none) (ht : old.IsTuple (l 0) (xs 0)) (S : Z4 I l old m hp .none to n) (hx : (xs 0)[n 0]? = none)
    (q : ∀ h' e, (∀ c o, c ≠ I + 6 → c ≠ I + 5 → (∀ k : Nat, k < 4 → c ≠ I + k) → hp.get? c = some o → h'.get? c = some o) → (∃ o, h'.get? e = some o ∧ o.cls = .type "StopIteration") → E (.ref e) ⟨h', g, d, tk, os⟩) :
    wpAny (model prog w) A (Builtin.«zip.__next__» ⟨[.ref (I + 6)], []⟩) Q E ⟨hp, g, d, tk, os⟩ := by
  show wpAny (model prog w) _ (field (.ref (I + 6)) 2 >>= _) _ _ _
  refine wpAny_bind (wpAny_field S.zp rfl (x := .bool false) rfl ?_)
  show wpAny (model prog w) _ (field (.ref (I + 6)) 3 >>= _) _ _ _
  refine wpAny_bind (wpAny_field S.zp rfl (x := .ref (I + 4)) rfl ?_)
  refine wpAny_bind (wpAny_seqItems S.ti rfl ?_)
  show wpAny (model prog w) _ (Builtin.SmallTypes.ownedTupleIsFree (.ref (I + 6)) >>= _) _ _ _
  refine wpAny_bind ?_
  unfold Builtin.SmallTypes.ownedTupleIsFree
  refine wpAny_bind (wpAny_field S.zp rfl (x := .none) rfl (wpAny_pure ?_))
  simp only [if_true]
  refine wpAny_bind (wpAny_rule ?_)
  refine wpAny_bind (wpAny_field S.zp rfl (x := .ref (I + 5)) rfl ?_)
  refine wpAny_bind (wpAny_setField_rec S.zp (by simp) fun a z1 b1 => ?_)
  have S1 : Z4 I l old m a .ellipsis to n := S.zip b1 z1
  refine wpAny_bind ?_
  simp only [List.zipIdx_cons, List.zipIdx_nil, List.forIn_cons, List.forIn_nil]
  refine wpAny_bind (wpAny_bind (wpAny_onRaise ?_))
  show wpAny (model prog w) _ (Builtin.SmallTypes.nextOf (.ref (I + 0)) >>= _) _ _ ⟨a, g, d, tk, os⟩
  refine wpAny_bind (RZ.nextOf_tuple_end (s := ⟨a, g, d, tk, os⟩) calm (S1.it 0 (by decide)) (S1.tup (by decide) ht) hx fun b e be he => ?_)
  obtain ⟨oe, hoe, hce⟩ := he
  have zb : IsZip b (I + 6) (I + 4) (I + 5) .ellipsis := be _ _ (nn4 (by omega)) z1
  have hez : e ≠ I + 6 := fun z => by subst z; rw [zb] at hoe; cases hoe; simp at hce
  refine wpAny_setField_rec zb (by simp) fun c _ bc => q c e (fun x o c1 c2 c3 y => bc.extBut _ _ c1 (be _ _ (c3 0 (by decide)) (b1.extBut _ _ c1 y))) ⟨oe, bc.extBut _ _ hez hoe, hce⟩
theorem z4_item {x : Nat → Value} {Q : Option Value → Shared → Prop} (ht : ∀ k : Nat, k < 4 → old.IsTuple (l k) (xs k)) (S : Z4 I l old m hp .none to n) (hto : to.size = 4) (hx : ∀ k : Nat, k < 4 → (xs k)[n k]? = some (x k))
    (q : ∀ h', Z4 I l old (m + 1) h' (rawInt m) #[x 0, x 1, x 2, x 3] (fun k => n k + 1) → h'.get? m = some { cls := .type "tuple", data := .seq #[x 0, x 1, x 2, x 3] } → Q (some (.ref m)) ⟨h', g, d, tk, os⟩) :
    wpAny (model prog w) A (pyNext (.ref (I + 6))) Q E ⟨hp, g, d, tk, os⟩ := by
  have ty : Shared.TypeIs ⟨hp, g, d, tk, os⟩ (.ref (I + 6)) "zip" := ⟨_, S.zp, rfl⟩
  unfold pyNext
  exact wpAny_bind (wpAny_attempt (wpAny_callSpecial?_slot (name := Str.ofString "__next__") ty F.slot_zip_next
    (wpAny_call_entry F.slot_zip_next ty F.entry_zip_next (z4_next ht S hto hx fun h' a b => wpAny_pure (q h' a b)) (F.args_zip_next_1 _))))
theorem z4_done {Q : Option Value → Shared → Prop} (calm : A.handled = none) (ht : old.IsTuple (l 0) (xs 0)) (S : Z4 I l old m hp .none to n) (hx : (xs 0)[n 0]? = none)
    (q : ∀ h', (∀ c o, c ≠ I + 6 → c ≠ I + 5 → (∀ k : Nat, k < 4 → c ≠ I + k) → hp.get? c = some o → h'.get? c = some o) → Q none ⟨h', g, d, tk, os⟩) : wpAny (model prog w) A (pyNext (.ref (I + 6))) Q E ⟨hp, g, d, tk, os⟩ := by
  have ty : Shared.TypeIs ⟨hp, g, d, tk, os⟩ (.ref (I + 6)) "zip" := ⟨_, S.zp, rfl⟩
  unfold pyNext
  refine wpAny_bind (wpAny_attempt (wpAny_callSpecial?_slot (name := Str.ofString "__next__") ty F.slot_zip_next
    (wpAny_call_entry F.slot_zip_next ty F.entry_zip_next (z4_stop calm ht S hx fun h' e k he => ?_) (F.args_zip_next_1 _))))
  obtain ⟨o, ho, hc⟩ := he
  refine wpAny_bind (wpAny_isInstance (T := "StopIteration") (b := true) ⟨o, ho, hc⟩ isSubtype_stop ?_)
  exact wpAny_pure (q _ k)
end
/-! it begins -/
theorem z4_typeCall (a b c e : Value) : checkTypeCall "zip" ⟨[a, b, c, e], []⟩ = pure () := by kernel_rfl
theorem z4_newCall (a b c e : Value) : checkBuiltinCall "zip.__new__" ⟨[.type "zip", a, b, c, e], []⟩ = pure () := by kernel_rfl
theorem z4_initArgs (p a b c e : Value) : argsOk "object.__init__" ⟨[p, a, b, c, e], []⟩ := by unfold argsOk; kernel_rfl
abbrev itO (t : Nat) : Obj := { cls := .type "tuple_iterator", data := .fields #[.ref t, .int 0 0] }
abbrev z4A (h : Heap) (l : Nat → Nat) : Heap := (((h.push (itO (l 0))).push (itO (l 1))).push (itO (l 2))).push (itO (l 3))
abbrev z4B (h : Heap) (l : Nat → Nat) : Heap := (z4A h l).push { cls := .type "tuple", data := .seq #[.ref h.objs.size, .ref (h.push (itO (l 0))).objs.size, .ref ((h.push (itO (l 0))).push (itO (l 1))).objs.size, .ref (((h.push (itO (l 0))).push (itO (l 1))).push (itO (l 2))).objs.size] }
abbrev z4C (h : Heap) (l : Nat → Nat) : Heap := (z4B h l).push { cls := .type "tuple", data := .seq #[.none, .none, .none, .none] }
abbrev z4D (h : Heap) (l : Nat → Nat) : Heap := (z4C h l).push { cls := .type "zip", data := .fields #[.none, .bool false, .bool false, .ref (z4A h l).objs.size, .ref (z4B h l).objs.size] }
theorem z4_meets (l : Nat → Nat) (xs : Nat → Array Value) : Meets (Builtin.«zip.__new__» ⟨[.type "zip", .ref (l 0), .ref (l 1), .ref (l 2), .ref (l 3)], []⟩) (fun _ R s => (∀ k : Nat, k < 4 → s.heap.IsTuple (l k) (xs k)) ∧
      R (.ok (.ret (.ref (z4C s.heap l).objs.size))) { s with heap := z4D s.heap l }) :=
  .of_wp fun prog w A R s h => by
    obtain ⟨hp, g, d, tk, os⟩ := s
    obtain ⟨t, h⟩ := h
    have hsub := sub_zip
    have t0 : Heap.IsTuple (Shared.heap ⟨hp, g, d, tk, os⟩) (l 0) (xs 0) := t 0 (by decide)
    have t1 : Heap.IsTuple (Shared.heap ⟨hp.push (itO (l 0)), g, d, tk, os⟩) (l 1) (xs 1) := Heap.IsTuple.push (t 1 (by decide)) _
    have t2 : Heap.IsTuple (Shared.heap ⟨(hp.push (itO (l 0))).push (itO (l 1)), g, d, tk, os⟩) (l 2) (xs 2) := Heap.IsTuple.push (Heap.IsTuple.push (t 2 (by decide)) _) _
    have t3 : Heap.IsTuple (Shared.heap ⟨((hp.push (itO (l 0))).push (itO (l 1))).push (itO (l 2)), g, d, tk, os⟩) (l 3) (xs 3) := Heap.IsTuple.push (Heap.IsTuple.push (Heap.IsTuple.push (t 3 (by decide)) _) _) _
    wp_walk using wpAny_pyIter_tuple t0, wpAny_pyIter_tuple t1, wpAny_pyIter_tuple t2, wpAny_pyIter_tuple t3
    exact ⟨_, rfl, h⟩
theorem z4_call {prog : Program} {w : World} {A : Around} {E : Value → Shared → Prop} {s : Shared} {l : Nat → Nat} {xs : Nat → Array Value} {Q : Value → Shared → Prop} (ht : ∀ k : Nat, k < 4 → s.heap.IsTuple (l k) (xs k)) (lo : ∀ k : Nat, k < 4 → l k < s.heap.objs.size)
    (q : ∀ h', Z4 s.heap.objs.size l s.heap (s.heap.objs.size + 7) h' .none #[.none, .none, .none, .none] (fun _ => 0) → (∀ c o, s.heap.get? c = some o → h'.get? c = some o) → Q (.ref (s.heap.objs.size + 6)) { s with heap := h' }) :
    wpAny (model prog w) A (call (.type "zip") [.ref (l 0), .ref (l 1), .ref (l 2), .ref (l 3)]) Q E s := by
  refine callType_new F.called_zip (by decide) (z4_typeCall _ _ _ _) (z4_newCall _ _ _ _) (fun p => z4_initArgs p _ _ _ _) F.entry_zip_new (z4_meets l xs) ⟨ht, ?_⟩
  have e1 : (s.heap.push (itO (l 0))).objs.size = s.heap.objs.size + 1 := by rw [Heap.size_push]
  have e2 : ((s.heap.push (itO (l 0))).push (itO (l 1))).objs.size = s.heap.objs.size + 2 := by rw [Heap.size_push, e1]
  have e3 : (((s.heap.push (itO (l 0))).push (itO (l 1))).push (itO (l 2))).objs.size = s.heap.objs.size + 3 := by rw [Heap.size_push, e2]
  have eA : (z4A s.heap l).objs.size = s.heap.objs.size + 4 := by rw [Heap.size_push, e3]
  have eB : (z4B s.heap l).objs.size = s.heap.objs.size + 5 := by rw [Heap.size_push, eA]
  have eC : (z4C s.heap l).objs.size = s.heap.objs.size + 6 := by rw [Heap.size_push, eB]
  have eD : (z4D s.heap l).objs.size = s.heap.objs.size + 7 := by rw [Heap.size_push, eC]
  have g0 : (z4D s.heap l).get? s.heap.objs.size = some (itO (l 0)) := by
    refine Heap.get?_push_of_some _ (Heap.get?_push_of_some _ (Heap.get?_push_of_some _ (Heap.get?_push_of_some _ (Heap.get?_push_of_some _ (Heap.get?_push_of_some _ ?_)))))
    exact Heap.get?_push_size _ rfl
  have g1 : (z4D s.heap l).get? (s.heap.push (itO (l 0))).objs.size = some (itO (l 1)) := by
    refine Heap.get?_push_of_some _ (Heap.get?_push_of_some _ (Heap.get?_push_of_some _ (Heap.get?_push_of_some _ (Heap.get?_push_of_some _ ?_))))
    exact Heap.get?_push_size _ rfl
  have g2 : (z4D s.heap l).get? ((s.heap.push (itO (l 0))).push (itO (l 1))).objs.size = some (itO (l 2)) := by
    refine Heap.get?_push_of_some _ (Heap.get?_push_of_some _ (Heap.get?_push_of_some _ (Heap.get?_push_of_some _ ?_)))
    exact Heap.get?_push_size _ rfl
  have g3 : (z4D s.heap l).get? (((s.heap.push (itO (l 0))).push (itO (l 1))).push (itO (l 2))).objs.size = some (itO (l 3)) := by
    refine Heap.get?_push_of_some _ (Heap.get?_push_of_some _ (Heap.get?_push_of_some _ ?_))
    exact Heap.get?_push_size _ rfl
  have gA : (z4D s.heap l).get? (z4A s.heap l).objs.size = some { cls := .type "tuple", data := .seq #[.ref s.heap.objs.size, .ref (s.heap.push (itO (l 0))).objs.size, .ref ((s.heap.push (itO (l 0))).push (itO (l 1))).objs.size, .ref (((s.heap.push (itO (l 0))).push (itO (l 1))).push (itO (l 2))).objs.size] } := by
    refine Heap.get?_push_of_some _ (Heap.get?_push_of_some _ ?_)
    exact Heap.get?_push_size _ rfl
  have gB : (z4D s.heap l).get? (z4B s.heap l).objs.size = some { cls := .type "tuple", data := .seq #[.none, .none, .none, .none] } := by
    refine Heap.get?_push_of_some _ ?_
    exact Heap.get?_push_size _ rfl
  have gC : (z4D s.heap l).get? (z4C s.heap l).objs.size = some { cls := .type "zip", data := .fields #[.none, .bool false, .bool false, .ref (z4A s.heap l).objs.size, .ref (z4B s.heap l).objs.size] } := Heap.get?_push_size _ rfl
  rw [eC, eA, eB] at gC
  rw [eB] at gB
  rw [eA, e1, e2, e3] at gA
  rw [e1] at g1
  rw [e2] at g2
  rw [e3] at g3
  show _ ∧ _
  rw [eC]
  refine ⟨⟨_, gC, rfl⟩, q _ ⟨gC, gA, gB, fun k hk => ?_, lo, eD, ?_⟩ ?_⟩
  · match k, hk with
    | 0, _ => exact ⟨_, g0, rfl, rfl⟩
    | 1, _ => exact ⟨_, g1, rfl, rfl⟩
    | 2, _ => exact ⟨_, g2, rfl, rfl⟩
    | 3, _ => exact ⟨_, g3, rfl, rfl⟩
  · intro c o _ _ _ e
    exact Heap.get?_push_of_some _ (Heap.get?_push_of_some _ (Heap.get?_push_of_some _ (Heap.get?_push_of_some _ (Heap.get?_push_of_some _ (Heap.get?_push_of_some _ (Heap.get?_push_of_some _ e))))))
  · intro c o e
    exact Heap.get?_push_of_some _ (Heap.get?_push_of_some _ (Heap.get?_push_of_some _ (Heap.get?_push_of_some _ (Heap.get?_push_of_some _ (Heap.get?_push_of_some _ (Heap.get?_push_of_some _ e))))))
/-- four tuples as they stand at each turn, the items in new tuples -/
def Itq (K : PySem.W.Frag) (l : Nat → Nat) : It :=
  ⟨fun i H => ∃ (xs : Nat → List V) (x : Nat → V), ∀ k : Nat, k < 4 → SqT K H (l k) (xs k) ∧ (xs k)[i]? = some (x k),
    fun i H v H' => ∃ (T : Addr) (x : Nat → V), v = .ref T ∧ H T = none ∧ H' = upd H T (.tup [x 0, x 1, x 2, x 3]) ∧ ∀ k : Nat, k < 4 → ∀ ys, SqT K H (l k) ys → ys[i]? = some (x k),
    fun i H => ∃ ys, SqT K H (l 0) ys ∧ ys.length ≤ i⟩
def tnQ (I : Nat) (l : Nat → Nat) (i : Nat) (h : Heap) : Prop := ∃ to : Array Value, to.size = 4 ∧ IsZip h (I + 6) (I + 4) (I + 5) .none ∧
  h.get? (I + 4) = some { cls := .type "tuple", data := .seq #[.ref (I + 0), .ref (I + 1), .ref (I + 2), .ref (I + 3)] } ∧ h.get? (I + 5) = some { cls := .type "tuple", data := .seq to } ∧ ∀ k : Nat, k < 4 → h.IsTupleIter (I + k) (l k) i
abbrev fpQ (I : Nat) : List Addr := [I + 6, I + 5, I + 4, I + 3, I + 2, I + 1, I + 0]
theorem fp_it {I k : Nat} (hk : k < 4) : (I + k) ∈ fpQ I := by
  match k, hk with
  | 0, _ => simp [fpQ]
  | 1, _ => simp [fpQ]
  | 2, _ => simp [fpQ]
  | 3, _ => simp [fpQ]
theorem turn_q {P : Program} {w : World} {K : PySem.W.Frag} {elts : List Expr} {kk : Nat} {tpos : Pos} {I : Nat} {l : Nat → Nat} (lo : ∀ k : Nat, k < 4 → l k < I) :
    Turn P w K (.Tuple elts kk tpos) (Itq K l) (fpQ I) (I + 6) (tnQ I l) where
  mem := by simp
  obj := fun i h st b hb => by
    obtain ⟨to, hto, z, t1, t2, it⟩ := st
    have e' : b = I + 6 ∨ b = I + 5 ∨ b = I + 4 ∨ b = I + 3 ∨ b = I + 2 ∨ b = I + 1 ∨ b = I + 0 := by simpa using hb
    have cell : ∀ k : Nat, k < 4 → ∃ o, h.get? (I + k) = some o ∧ ∀ v, o.data ≠ .cell v := fun k hk => by
      obtain ⟨o, e, _, d⟩ := it k hk
      exact ⟨o, e, fun v q => by rw [d] at q; cases q⟩
    rcases e' with q | q | q | q | q | q | q
    · rw [q]; exact ⟨_, z, fun v q => nomatch q⟩
    · rw [q]; exact ⟨_, t2, fun v q => nomatch q⟩
    · rw [q]; exact ⟨_, t1, fun v q => nomatch q⟩
    · rw [q]; exact cell 3 (by decide)
    · rw [q]; exact cell 2 (by decide)
    · rw [q]; exact cell 1 (by decide)
    · rw [q]; exact cell 0 (by decide)
  keep := fun i h h' st k => by
    obtain ⟨to, hto, z, t1, t2, it⟩ := st
    exact ⟨to, hto, k _ (by simp) _ z, k _ (by simp) _ t1, k _ (by simp) _ t2, fun j hj => (it j hj).at fun o q => k _ (fp_it hj) o q⟩
  item := by
    intro X hP hw hK hc i pins s σ H E inv hf st hg
    subst hP hw hK
    obtain ⟨to, hto, z, t1, t2, it⟩ := st
    obtain ⟨xs, x, hx⟩ := hg
    have al : I + 6 < s.heap.objs.size := Heap.lt_size z
    have got : ∀ k : Nat, k < 4 → ∃ (its : Array Value) (u : Value), s.heap.IsTuple (l k) its ∧ its[i]? = some u ∧ RelV (x k) u := fun k hk => by
      obtain ⟨its, rv, p, _⟩ := inv.tuple (hx k hk).1
      obtain ⟨u, hu, ru⟩ := rv.get (hx k hk).2
      exact ⟨its.toArray, u, p, by simpa using hu, ru⟩
    obtain ⟨i0, u0, p0, q0, r0⟩ := got 0 (by decide)
    obtain ⟨i1, u1, p1, q1, r1⟩ := got 1 (by decide)
    obtain ⟨i2, u2, p2, q2, r2⟩ := got 2 (by decide)
    obtain ⟨i3, u3, p3, q3, r3⟩ := got 3 (by decide)
    obtain ⟨hp, g, d, tk, os⟩ := s
    have S : Z4 I l hp hp.objs.size hp .none to (fun _ => i) := ⟨z, t1, t2, it, lo, rfl, fun c o _ _ _ e => e⟩
    refine z4_item (xs := fun k => match k with | 0 => i0 | 1 => i1 | 2 => i2 | _ => i3) (x := fun k => match k with | 0 => u0 | 1 => u1 | 2 => u2 | _ => u3) (fun k hk => by
      match k, hk with
      | 0, _ => exact p0
      | 1, _ => exact p1
      | 2, _ => exact p2
      | 3, _ => exact p3) S hto (fun k hk => by
      match k, hk with
      | 0, _ => exact q0
      | 1, _ => exact q1
      | 2, _ => exact q2
      | 3, _ => exact q3) fun h' S' new => ?_
    refine ⟨_, rfl, wpAny_letOwnedTupleGo_zip (s := ⟨h', g, d, tk, os⟩) S'.zp fun h2 z2 b2 => ?_⟩
    have S2 := S'.zip b2 z2
    have new2 : h2.get? hp.objs.size = some { cls := .type "tuple", data := .seq #[u0, u1, u2, u3] } := (b2.2 _ (nn4 (by show hp.objs.size ≠ I + 6; exact Nat.ne_of_gt al))).trans new
    have ok : ObjOk X.prog X.w (upd H hp.objs.size (.tup [x 0, x 1, x 2, x 3])) h2 hp.objs.size (.tup [x 0, x 1, x 2, x 3]) :=
      ⟨by show 4 ≤ sizeLine; decide, [u0, u1, u2, u3], .cons r0 (.cons r1 (.cons r2 (.cons r3 .nil))), ⟨_, new2, rfl, _, rfl⟩⟩
    have I1 : Inv X pins σ (upd H hp.objs.size (.tup [x 0, x 1, x 2, x 3])) ⟨h2, g, d, tk, os⟩ :=
      inv.turnedNew (t' := tk) (ch := fpQ I) (fun c o hb q => S2.keep c o (fun e => hb (by rw [e]; simp)) (fun e => hb (by rw [e]; simp)) (fun k hk e => hb (by rw [e]; exact fp_it hk)) q) hf (Nat.le_refl _) ok
    refine ⟨.ref hp.objs.size, _, I1, rfl, ⟨_, x, rfl, inv.hok.fresh (Nat.le_refl _), rfl, fun k hk ys hy => by rw [inv.tuple_inj hy (hx k hk).1]; exact (hx k hk).2⟩, ⟨_, rfl, S2.zp, S2.ti, S2.tO, fun k hk => S2.it k hk⟩, fun c hc2 => ?_⟩
    have cl : c ≠ hp.objs.size := by
      have e' : c = I + 6 ∨ c = I + 5 ∨ c = I + 4 ∨ c = I + 3 ∨ c = I + 2 ∨ c = I + 1 ∨ c = I + 0 := by simpa using hc2
      have al2 : I + 6 < hp.objs.size := al
      intro q
      have al3 : I + 6 < c := by rw [q]; exact al2
      rcases e' with e | e | e | e | e | e | e <;> (rw [e] at al3; exact absurd al3 (by omega))
    rw [upd_ne cl]
    exact (hf c hc2).1
  done := by
    intro X hP hw hK hc i pins s σ H E inv hf st hg
    subst hP hw hK
    obtain ⟨to, hto, z, t1, t2, it⟩ := st
    obtain ⟨ys, hy, hend⟩ := hg
    obtain ⟨its, rv, p, _⟩ := inv.tuple hy
    have l1 := rv.length
    obtain ⟨hp, g, d, tk, os⟩ := s
    have S : Z4 I l hp hp.objs.size hp .none to (fun _ => i) := ⟨z, t1, t2, it, lo, rfl, fun c o _ _ _ e => e⟩
    refine z4_done (xs := fun _ => its.toArray) (inv.ok.hd hc) p S (by simp; omega) fun h' k => ⟨rfl, ?_⟩
    exact inv.turnedL (t' := tk) (ch := fpQ I) (fun c o hb q => k c o (fun e => hb (by rw [e]; simp)) (fun e => hb (by rw [e]; simp)) (fun j hj e => hb (by rw [e]; exact fp_it hj)) q) hf
  self := fun A i s Q E st h => by
    obtain ⟨to, hto, z, _⟩ := st
    exact wpAny_pyIter_zip z h
def iZipQ (K : PySem.W.Frag) (ta : TA) : TI := fun σ H R => ta σ H fun vs H1 => ∃ (l : Nat → Nat) (xs : Nat → List V), vs = [.ref (l 0), .ref (l 1), .ref (l 2), .ref (l 3)] ∧ (∀ k : Nat, k < 4 → SqT K H1 (l k) (xs k)) ∧ R (Itq K l) H1
theorem pi_zipQ {X : Cx} {K : PySem.W.Frag} {e e2 e3 e4 : Expr} {ta : TA} {p pos tpos : Pos} {elts : List Expr} {kk : Nat} (hk : X.K = K) (hg : Gl X "zip") (hm : X.mg "zip" = none) (ha : PA X [e, e2, e3, e4] ta)
    (hs : starEach [e, e2, e3, e4] X.env = (false, eval e X.env) :: starEach [e2, e3, e4] X.env := by rfl) (hpl : (backTo pos (starEach [e2, e3, e4] X.env)).any (·.1) = false := by rfl) :
    PI X (.Tuple elts kk tpos) (.Call (.Name "zip" p) [e, e2, e3, e4] [] pos) (iZipQ K ta) := by
  subst hk
  refine ⟨fun pins s σ H R I h => ?_⟩
  refine Call_ (ld_blt I hg hm PyProof.Rows.boot_zip (PyProof.Rows.callWith_type1 (thn (ha.run pos pins s σ H _ I h) fun us s1 ⟨vs, H1, I1, r1, q1⟩ => ?_) hs hpl))
  obtain ⟨l, xs, ex, sq, q1⟩ := q1
  subst ex
  have us4 : us = [.ref (l 0), .ref (l 1), .ref (l 2), .ref (l 3)] := by
    cases r1 with
    | cons ra rr =>
      cases rr with
      | cons rb rr =>
        cases rr with
        | cons rc rr =>
          cases rr with
          | cons rd rr =>
            cases rr
            cases ra
            cases rb
            cases rc
            cases rd
            rfl
  subst us4
  have tup : ∀ k : Nat, k < 4 → ∃ its : Array Value, s1.heap.IsTuple (l k) its ∧ l k < s1.heap.objs.size := fun k hk => by
    obtain ⟨its, rv, pt, _⟩ := I1.tuple (sq k hk)
    obtain ⟨o, ho, _⟩ := id pt
    exact ⟨its.toArray, pt, Heap.lt_size ho⟩
  obtain ⟨i0, p0, b0⟩ := tup 0 (by decide)
  obtain ⟨i1, p1, b1⟩ := tup 1 (by decide)
  obtain ⟨i2, p2, b2⟩ := tup 2 (by decide)
  obtain ⟨i3, p3, b3⟩ := tup 3 (by decide)
  have lo : ∀ k : Nat, k < 4 → l k < s1.heap.objs.size := fun k hk => by
    match k, hk with
    | 0, _ => exact b0
    | 1, _ => exact b1
    | 2, _ => exact b2
    | 3, _ => exact b3
  refine z4_call (xs := fun k => match k with | 0 => i0 | 1 => i1 | 2 => i2 | _ => i3) (fun k hk => by
      match k, hk with
      | 0, _ => exact p0
      | 1, _ => exact p1
      | 2, _ => exact p2
      | 3, _ => exact p3) lo fun h' S keep => wpAny_pyIter_zip S.zp ?_
  have fresh : ∀ c, c ∈ fpQ s1.heap.objs.size → FpOk X pins H1 c := fun c hc => by
    have e' : c = s1.heap.objs.size + 6 ∨ c = s1.heap.objs.size + 5 ∨ c = s1.heap.objs.size + 4 ∨ c = s1.heap.objs.size + 3 ∨ c = s1.heap.objs.size + 2 ∨ c = s1.heap.objs.size + 1 ∨ c = s1.heap.objs.size + 0 := by simpa using hc
    have hle : s1.heap.objs.size ≤ c := by
      rcases e' with z | z | z | z | z | z | z <;> (rw [z]; exact Nat.le_add_right _ _)
    exact I1.fpOk hle (I1.hok.fresh hle)
  have I2 : Inv X pins σ H1 { s1 with heap := h' } := I1.kept (t' := s1.toks) keep
  exact ⟨s1.heap.objs.size + 6, fpQ s1.heap.objs.size, _, _, H1, rfl, I2, turn_q lo, ⟨_, rfl, S.zp, S.ti, S.tO, S.it⟩, fresh, q1⟩
theorem walk_q {K : PySem.W.Frag} {l : Nat → Nat} {xs : Nat → List V} {n : Nat} (h : ∀ k : Nat, k < 4 → (xs k).length = n) : Walk (Itq K l) n (fun H => ∀ k : Nat, k < 4 → SqT K H (l k) (xs k))
    (fun i H v H' => ∃ (T : Addr) (x : Nat → V), v = .ref T ∧ H T = none ∧ H' = upd H T (.tup [x 0, x 1, x 2, x 3]) ∧ ∀ k : Nat, k < 4 → (xs k)[i]? = some (x k)) where
  goes := fun i H hi q => ⟨xs, fun k => (xs k)[i]?.getD .non, fun k hk => ⟨q k hk, by
    have : i < (xs k).length := by rw [h k hk]; exact hi
    have e := List.getElem?_eq_getElem this
    show (xs k)[i]? = some ((xs k)[i]?.getD .non)
    rw [e] <;> rfl⟩⟩
  stops := fun H q => ⟨xs 0, q 0 (by decide), Nat.le_of_eq (h 0 (by decide))⟩
  yields := fun i H v H' _ q y => by
    obtain ⟨T, x, e1, e2, e3, e4⟩ := y
    exact ⟨T, x, e1, e2, e3, fun k hk => e4 k hk _ (q k hk)⟩
end Pd
end
section
set_option Elab.async false
set_option linter.all false
set_option maxRecDepth 100000
set_option maxHeartbeats 4000000
namespace Pd
open PySem PySem.Spec PyProof.Rows L2
local macro_rules | `(tactic| walk_at "at") => `(tactic| first
  | assumption
  | exact upd_same
  | (refine (show Same _ _ by assumption) _ _ ?_; walk_at "at")
  | (refine (show But _ _ _ by assumption) _ _ (by assumption) ?_; assumption)
  | (refine Same.new (by assumption) _ _ ?_; walk_at "at")
  | (refine (upd_ne (ne_of (by assumption) (by assumption) (by intro z; cases z))).trans ?_; walk_at "at"))
local macro_rules | `(tactic| walk_at "go") => `(tactic| repeat (first
  | refine ⟨_, rfl, ?_⟩
  | refine ⟨_, _, rfl, rfl, ?_⟩
  | refine ⟨_, _, rfl, ?_⟩
  | refine ⟨_, _, _, rfl, ?_⟩
  | refine And.intro rfl ?_
  | refine And.intro (Or.inl ⟨by decide, by decide⟩) ?_
  | refine And.intro (Or.inr ⟨by decide, by decide⟩) ?_
  | refine And.intro ⟨by decide, by decide⟩ ?_
  | refine And.intro (Or.inl ⟨by omega, by omega⟩) ?_
  | refine And.intro (Or.inr ⟨by omega, by omega⟩) ?_
  | refine And.intro ⟨by omega, by omega⟩ ?_
  | refine And.intro trivial ?_
  | refine And.intro (by omega) ?_
  | refine And.intro (sz (Nat.le_of_ble_eq_true rfl)) ?_
  | refine And.intro (Or.inl ⟨rfl, _, SqL.of (by walk_at "at")⟩) ?_
  | refine ⟨_, _, _, _, rfl, rfl, SqT.of (by walk_at "at"), (by rfl), ?_⟩
  | refine ⟨_, _, _, _, rfl, rfl, SqL.of (by walk_at "at"), (by rfl), ?_⟩
  | refine ⟨_, _, _, _, _, rfl, (by walk_at "at"), (by assumption), (by assumption), Lk.h, ?_⟩
  | refine ⟨_, _, _, rfl, rfl, (by walk_at "at"), ?_⟩
  | refine ⟨_, _, _, rfl, (by walk_at "at"), LkN.h, ?_⟩
  | refine ⟨_, _, _, _, rfl, (by walk_at "at"), (by assumption), (by assumption), (by apply few_lt; decide), ?_⟩
  | refine ⟨_, _, (by walk_at "at"), (by apply few_lt; decide), ?_⟩
  | refine ⟨_, _, rfl, Or.inl (SqL.of (by walk_at "at")), ?_⟩))
/-- a picture shown: its object -/
def ShowAt (K : PySem.W.Frag) (H : Hp) (v : V) (pic : Vd.Picture) (six : List Int) (how smooth : Nat) : Prop := ∃ p dx pv ls, v = .ref p ∧ H p = some (.ins (He.ga K "Pictured") dx (fl_Pictured pv (.int (how : Int)) (.int (smooth : Int)) (.ref ls))) ∧ PicAt K H pv pic ∧ H ls = some (.lst (six.map V.int)) ∧
  six.length = 6 ∧ (∀ z ∈ six, -1073741824 ≤ z ∧ z ≤ 1073741824) ∧ how ≤ 3 ∧ smooth ≤ 1
theorem ShowAt.keep {K : PySem.W.Frag} {H H' : Hp} {v : V} {pic : Vd.Picture} {six : List Int} {how smooth : Nat} (s : Keep H H') (h : ShowAt K H v pic six how smooth) : ShowAt K H' v pic six how smooth :=
  let ⟨p, dx, pv, ls, a, b, c, d, e⟩ := h
  ⟨p, dx, pv, ls, a, s _ _ b rfl, c.keep s, s _ _ d rfl, e⟩
def fourC (A B C D : Vd.Col) (x y : Nat) : Vd.Col := ⟨Vd.four A.r B.r C.r D.r x y, Vd.four A.g B.g C.g D.g x y, Vd.four A.b B.b C.b D.b x y, Vd.four A.a B.a C.a D.a x y⟩
/-- the colour between four, by 256ths -/
def smAt (p : Vd.Picture) (how : Nat) (u v : Int) : Vd.Col := fourC (p.at_ how (u / 256) (v / 256)) (p.at_ how (u / 256 + 1) (v / 256)) (p.at_ how (u / 256) (v / 256 + 1)) (p.at_ how (u / 256 + 1) (v / 256 + 1)) (u % 256).toNat (v % 256).toNat
theorem smooth_is (p : Vd.Picture) (how : Nat) (m : Vd.Map) (q : Vd.Pt) : Vd.smoothAt p how m q = smAt p how (m.col q / 256 - 128) (m.row q / 256 - 128) := by
  have e1 : (256 * m.col q - 128 * Vd.WHOLE) / Vd.WHOLE = m.col q / 256 - 128 := by unfold Vd.WHOLE; omega
  have e2 : (256 * m.row q - 128 * Vd.WHOLE) / Vd.WHOLE = m.row q / 256 - 128 := by unfold Vd.WHOLE; omega
  have e3 : ∀ u : Int, u - 256 * (u / 256) = u % 256 := fun u => by omega
  unfold smAt
  rw [← e3, ← e3, ← e1, ← e2]
  rfl
theorem four_mono {A B C D A' B' C' D' x y : Nat} (h1 : A ≤ A') (h2 : B ≤ B') (h3 : C ≤ C') (h4 : D ≤ D') : Vd.four A B C D x y ≤ Vd.four A' B' C' D' x y := by
  unfold Vd.four
  have a := Nat.mul_le_mul_right (256 - y) (Nat.mul_le_mul_right (256 - x) h1)
  have b := Nat.mul_le_mul_right (256 - y) (Nat.mul_le_mul_right x h2)
  have c := Nat.mul_le_mul_right y (Nat.mul_le_mul_right (256 - x) h3)
  have d := Nat.mul_le_mul_right y (Nat.mul_le_mul_right x h4)
  omega
theorem four_255 {x y : Nat} (hx : x < 256) (hy : y < 256) : Vd.four 255 255 255 255 x y ≤ 255 := by
  unfold Vd.four
  obtain ⟨a, ha⟩ : ∃ a, a + x = 256 := ⟨256 - x, by omega⟩
  obtain ⟨b, hb⟩ : ∃ b, b + y = 256 := ⟨256 - y, by omega⟩
  have e1 : 256 - x = a := by omega
  have e2 : 256 - y = b := by omega
  rw [e1, e2]
  have s1 : a * b + x * b = 256 * b := by rw [← Nat.add_mul, ha]
  have s2 : a * y + x * y = 256 * y := by rw [← Nat.add_mul, ha]
  have t1 : 255 * a * b = 255 * (a * b) := Nat.mul_assoc _ _ _
  have t2 : 255 * x * b = 255 * (x * b) := Nat.mul_assoc _ _ _
  have t3 : 255 * a * y = 255 * (a * y) := Nat.mul_assoc _ _ _
  have t4 : 255 * x * y = 255 * (x * y) := Nat.mul_assoc _ _ _
  rw [t1, t2, t3, t4]
  omega
theorem smAt_pre {p : Vd.Picture} {how : Nat} {u v : Int} (h : PicOk p) : Pre (smAt p how u v) := by
  have hx : (u % 256).toNat < 256 := by omega
  have hy : (v % 256).toNat < 256 := by omega
  obtain ⟨a1, a2, a3, a4⟩ := pic_pre (how := how) (i := u / 256) (j := v / 256) h
  obtain ⟨b1, b2, b3, b4⟩ := pic_pre (how := how) (i := u / 256 + 1) (j := v / 256) h
  obtain ⟨c1, c2, c3, c4⟩ := pic_pre (how := how) (i := u / 256) (j := v / 256 + 1) h
  obtain ⟨d1, d2, d3, d4⟩ := pic_pre (how := how) (i := u / 256 + 1) (j := v / 256 + 1) h
  exact ⟨four_mono a1 b1 c1 d1, four_mono a2 b2 c2 d2, four_mono a3 b3 c3 d3, Nat.le_trans (four_mono a4 b4 c4 d4) (four_255 hx hy)⟩
theorem fourI {A B C D : Nat} {x y : Int} (hx : 0 ≤ x ∧ x < 256) (hy : 0 ≤ y ∧ y < 256) : ((A : Int) * ((256 - x) * (256 - y)) + B * (x * (256 - y)) + C * ((256 - x) * y) + D * (x * y) + 32768) / 65536 = ((Vd.four A B C D x.toNat y.toNat : Nat) : Int) := by
  obtain ⟨m, rfl⟩ : ∃ m : Nat, x = (m : Int) := ⟨x.toNat, by omega⟩
  obtain ⟨n, rfl⟩ : ∃ n : Nat, y = (n : Int) := ⟨y.toNat, by omega⟩
  have e1 : (256 : Int) - (m : Int) = ((256 - m : Nat) : Int) := by omega
  have e2 : (256 : Int) - (n : Int) = ((256 - n : Nat) : Int) := by omega
  rw [e1, e2, Int.toNat_natCast, Int.toNat_natCast]
  unfold Vd.four
  generalize 256 - m = m'
  generalize 256 - n = n'
  have e : (A * m' * n' + B * m * n' + C * m' * n + D * m * n + 32768) / 65536 = (A * (m' * n') + B * (m * n') + C * (m' * n) + D * (m * n) + 32768) / 65536 := by
    rw [Nat.mul_assoc A, Nat.mul_assoc B, Nat.mul_assoc C, Nat.mul_assoc D]
  rw [e]
  simp only [Int.natCast_ediv, Int.natCast_add, Int.natCast_mul]
  rfl
section
variable {P : Program} {w : World} {K : PySem.W.Frag} {mg : Str → Option Value} {base : Heap}
theorem sc_Pictured_smoothed : FnScope ["self", "u", "v", "i", "j", "x", "y", "near_a", "near_b", "near_c", "near_d", "of_a", "of_b", "of_c", "of_d", "a", "b", "c", "d"] ["self", "u", "v"] (defScope s_Pictured_smoothed) := ⟨rfl, rfl, rfl, by decide +kernel, rfl, by decide +kernel, by decide +kernel⟩
theorem bd_Pictured_smoothed : BindAll "smoothed" "Pictured.smoothed" s_Pictured_smoothed ["self", "u", "v"] := fun _ _ _ _ _ _ us hl => match us, hl with | [_, _, _], _ => rfl
theorem ok_Pictured_smoothed (T : Txt K mg) : Ok P w K mg base CX0 3 (He.fAd K ("Pictured", some "smoothed")) ["self", "u", "v"] (fun vs H Q _ => ∃ (v : V) (pic : Vd.Picture) (six : List Int) (how smooth : Nat) (u z : Int), vs = [v, .int u, .int z] ∧ ShowAt K H v pic six how smooth ∧ RetCol (smAt pic how u z) H Q) := by
  refine mk_ok T.f_Pictured_smoothed sc_Pictured_smoothed bd_Pictured_smoothed (fun _ _ _ _ ⟨_, _, _, _, _, _, _, e, _⟩ => by rw [e]; rfl) fun cdv A outer s H vs Q E hr h => ?_
  obtain ⟨v, pic, six, how, smooth, u, z, rfl, ⟨p, dx, pv, ls, rfl, hp, hpic, hls, h6, hb, hh, hs⟩, q⟩ := h
  obtain ⟨pa, pdx, plc, rfl, hpa, _⟩ := id hpic
  have fc_Group := T.c_Group
  have fc_Layer := T.c_Layer
  have fc_Mark := T.c_Mark
  have fc_Pictured := T.c_Pictured
  have fc_Shade := T.c_Shade
  have fn_Group_how := T.n_Group_how
  have fn_Layer_how := T.n_Layer_how
  have fn_Mark_how := T.n_Mark_how
  have fn_Pictured_how := T.n_Pictured_how
  have fn_Pictured_picture := T.n_Pictured_picture
  have fn_Shade_how := T.n_Shade_how
  refine ⟨_, (pss_cons (ps_set (i := 3) sc_Pictured_smoothed.nd rfl (Or.inl rfl) (pe_op op_fdiv (pv 1) pe_int))
      (pss_cons (ps_set (i := 4) sc_Pictured_smoothed.nd rfl (Or.inl rfl) (pe_op op_fdiv (pv 2) pe_int))
      (pss_cons (ps_set (i := 5) sc_Pictured_smoothed.nd rfl (Or.inl rfl) (pe_op op_mod (pv 1) pe_int))
      (pss_cons (ps_set (i := 6) sc_Pictured_smoothed.nd rfl (Or.inl rfl) (pe_op op_mod (pv 2) pe_int))
      (pss_cons (ps_set (i := 7) sc_Pictured_smoothed.nd rfl (Or.inl rfl) (c_meth (ok_Picture_colour_in (K := K) T) hr (by decide) T.c_Picture T.m_Picture_colour_in pass0 (kx_fld (K := K) rfl (pv 0) rfl) (pa_cons (pv 3) (pa_cons (pv 4) (pa_cons (kx_fld (K := K) rfl (pv 0) rfl) pa_nil)))))
      (pss_cons (ps_set (i := 8) sc_Pictured_smoothed.nd rfl (Or.inl rfl) (c_meth (ok_Picture_colour_in (K := K) T) hr (by decide) T.c_Picture T.m_Picture_colour_in pass0 (kx_fld (K := K) rfl (pv 0) rfl) (pa_cons (pe_op op_add (pv 3) pe_int) (pa_cons (pv 4) (pa_cons (kx_fld (K := K) rfl (pv 0) rfl) pa_nil)))))
      (pss_cons (ps_set (i := 9) sc_Pictured_smoothed.nd rfl (Or.inl rfl) (c_meth (ok_Picture_colour_in (K := K) T) hr (by decide) T.c_Picture T.m_Picture_colour_in pass0 (kx_fld (K := K) rfl (pv 0) rfl) (pa_cons (pv 3) (pa_cons (pe_op op_add (pv 4) pe_int) (pa_cons (kx_fld (K := K) rfl (pv 0) rfl) pa_nil)))))
      (pss_cons (ps_set (i := 10) sc_Pictured_smoothed.nd rfl (Or.inl rfl) (c_meth (ok_Picture_colour_in (K := K) T) hr (by decide) T.c_Picture T.m_Picture_colour_in pass0 (kx_fld (K := K) rfl (pv 0) rfl) (pa_cons (pe_op op_add (pv 3) pe_int) (pa_cons (pe_op op_add (pv 4) pe_int) (pa_cons (kx_fld (K := K) rfl (pv 0) rfl) pa_nil)))))
      (pss_cons (ps_set (i := 11) sc_Pictured_smoothed.nd rfl (Or.inr rfl) (pe_op op_mul (pe_op op_sub pe_int (pv 5)) (pe_op op_sub pe_int (pv 6))))
      (pss_cons (ps_set (i := 12) sc_Pictured_smoothed.nd rfl (Or.inr rfl) (pe_op op_mul (pv 5) (pe_op op_sub pe_int (pv 6))))
      (pss_cons (ps_set (i := 13) sc_Pictured_smoothed.nd rfl (Or.inr rfl) (pe_op op_mul (pe_op op_sub pe_int (pv 5)) (pv 6)))
      (Evl.pss_cut (ps_set (i := 14) sc_Pictured_smoothed.nd rfl (Or.inr rfl) (pe_op op_mul (pv 5) (pv 6)))
      (pss_one (ps_ret (pe_callTy (kx_tuple (K := K) rfl) (by rfl) T.z_tuple (by decide +kernel) (pa_cons (pe_lc (own := [("a", 15), ("b", 16), ("c", 17), ("d", 18)]) (by rfl) sc_Pictured_smoothed.nd (pi_zipQ (K := K) rfl (by rfl) T.z_zip (pa_cons (pv 7) (pa_cons (pv 8) (pa_cons (pv 9) (pa_cons (pv 10) pa_nil))))) (blkOk_by (own := [("a", 15), ("b", 16), ("c", 17), ("d", 18)]) (N := ["self", "u", "v", "i", "j", "x", "y", "near_a", "near_b", "near_c", "near_d", "of_a", "of_b", "of_c", "of_d", "a", "b", "c", "d"]) (sc := defScope s_Pictured_smoothed) (by decide +kernel)) (fun _ _ _ _ _ => (kx_tup (K := K) (n := 4) rfl rfl (pgs_cons (pg_name (i := 15) sc_Pictured_smoothed.nd rfl (Or.inl rfl)) (pgs_cons (pg_name (i := 16) sc_Pictured_smoothed.nd rfl (Or.inl rfl)) (pgs_cons (pg_name (i := 17) sc_Pictured_smoothed.nd rfl (Or.inl rfl)) (pgs_cons (pg_name (i := 18) sc_Pictured_smoothed.nd rfl (Or.inl rfl)) pgs_nil)))))) (fun _ _ _ _ _ => pts_nil) (fun _ _ _ _ _ => (pe_op op_fdiv (pe_op op_add (pe_op op_add (pe_op op_add (pe_op op_add (pe_op op_mul (pv 15) (pv 11)) (pe_op op_mul (pv 16) (pv 12))) (pe_op op_mul (pv 17) (pv 13))) (pe_op op_mul (pv 18) (pv 14))) pe_int) (c_int rfl T.i_WHOLE_pictures)))) pa_nil)))))))))))))))), ?_⟩
  walk_at "go"
  refine ⟨_, pic, _, _, how, rfl, hpic, hh, fun va H1 s1 ca => ?_⟩
  have hp1 := s1 _ _ hp
  have hpa1 := s1 _ _ hpa
  have hpic1 := hpic.keep (Keep.of s1)
  walk_at "go"
  refine ⟨_, pic, _, _, how, rfl, hpic1, hh, fun vb H2 s2 cb => ?_⟩
  have hp2 := s2 _ _ hp1
  have hpa2 := s2 _ _ hpa1
  have hpic2 := hpic1.keep (Keep.of s2)
  walk_at "go"
  refine ⟨_, pic, _, _, how, rfl, hpic2, hh, fun vc H3 s3 cc => ?_⟩
  have hp3 := s3 _ _ hp2
  have hpa3 := s3 _ _ hpa2
  have hpic3 := hpic2.keep (Keep.of s3)
  walk_at "go"
  refine ⟨_, pic, _, _, how, rfl, hpic3, hh, fun vd H4 s4 cd => ?_⟩
  have ca4 := ca.mono (s2.trans (s3.trans s4))
  have cb4 := cb.mono (s3.trans s4)
  have cc4 := cc.mono s4
  obtain ⟨ta, rfl, hta⟩ := ca4
  obtain ⟨tb, rfl, htb⟩ := cb4
  obtain ⟨tc, rfl, htc⟩ := cc4
  obtain ⟨td, rfl, htd⟩ := cd
  walk_at "go"
  refine ⟨fun σ2 H2 => H2 = H4 ∧ σ2 = [some (.ref p), some (.int u), some (.int z), some (.int (u / 256)), some (.int (z / 256)), some (.int (u % 256)), some (.int (z % 256)), some (.ref ta), some (.ref tb), some (.ref tc), some (.ref td),
    some (.int ((256 - u % 256) * (256 - z % 256))), some (.int (u % 256 * (256 - z % 256))), some (.int ((256 - u % 256) * (z % 256))), some (.int (u % 256 * (z % 256))), none, none, none, none], ?_, ?_⟩
  · walk_at "go"
    rfl
  rintro σ2 H2 ⟨rfl, rfl⟩
  walk_at "go"
  have colP : ∀ i j, Sml (pic.at_ how i j) := fun i j => Pre.sml (pic_pre (by obtain ⟨_, h⟩ := ‹ListOf ColAt H plc _ ∧ PicOk pic›; exact h))
  generalize hA : pic.at_ how (u / 256) (z / 256) = cA at hta
  generalize hB : pic.at_ how (u / 256 + 1) (z / 256) = cB at htb
  generalize hC : pic.at_ how (u / 256) (z / 256 + 1) = cC at htc
  generalize hDD : pic.at_ how (u / 256 + 1) (z / 256 + 1) = cD at htd
  have x0 : 0 ≤ u % 256 ∧ u % 256 < 256 := by omega
  have y0 : 0 ≤ z % 256 ∧ z % 256 < 256 := by omega
  replace q : RetCol (fourC (pic.at_ how (u / 256) (z / 256)) (pic.at_ how (u / 256 + 1) (z / 256)) (pic.at_ how (u / 256) (z / 256 + 1)) (pic.at_ how (u / 256 + 1) (z / 256 + 1)) (u % 256).toNat (z % 256).toNat) H Q := q
  rw [hA, hB, hC, hDD] at q
  refine ⟨fun k => match k with | 0 => ta | 1 => tb | 2 => tc | _ => td, fun k => match k with | 0 => colV cA | 1 => colV cB | 2 => colV cC | _ => colV cD, rfl, fun k hk => ?_, fun D hD => ?_⟩
  · match k, hk with
    | 0, _ => exact SqT.of hta
    | 1, _ => exact SqT.of htb
    | 2, _ => exact SqT.of htc
    | 3, _ => exact SqT.of htd
  refine lc_build (walk_q (xs := fun k => match k with | 0 => colV cA | 1 => colV cB | 2 => colV cC | _ => colV cD) (n := 4) (fun k hk => by
      match k, hk with
      | 0, _ => rfl
      | 1, _ => rfl
      | 2, _ => rfl
      | 3, _ => rfl)) (fun k y _ => ∃ a b c d : Nat, (colV cA)[k]? = some (.int (a : Int)) ∧ (colV cB)[k]? = some (.int (b : Int)) ∧ (colV cC)[k]? = some (.int (c : Int)) ∧ (colV cD)[k]? = some (.int (d : Int)) ∧ y = .int ((Vd.four a b c d (u % 256).toNat (z % 256).toNat : Nat) : Int))
    (fun _ _ _ _ _ _ _ e => e) hD (fun H' e k hk => by
      match k, hk with
      | 0, _ => exact SqT.of (e _ _ hta)
      | 1, _ => exact SqT.of (e _ _ htb)
      | 2, _ => exact SqT.of (e _ _ htc)
      | 3, _ => exact SqT.of (e _ _ htd)) (by decide) ?_ ?_
  · rintro k v H6 H7 F Bk hk s6 ⟨t, x, rfl, ht, rfl, hx⟩ hF
    have up : ∀ (c : Vd.Col) (x : V), Sml c → (colV c)[k]? = some x → ∃ m : Nat, x = .int (m : Int) ∧ m ≤ 255 := by
      rintro c x ⟨c1, c2, c3, c4⟩ h
      match k, h with
      | 0, h => exact ⟨c.r, (by simpa [colV] using h.symm), c1⟩
      | 1, h => exact ⟨c.g, (by simpa [colV] using h.symm), c2⟩
      | 2, h => exact ⟨c.b, (by simpa [colV] using h.symm), c3⟩
      | 3, h => exact ⟨c.a, (by simpa [colV] using h.symm), c4⟩
      | k + 4, h => simp [colV] at h
    obtain ⟨a, ea, la⟩ := up cA (x 0) (by rw [← hA]; exact colP _ _) (hx 0 (by decide))
    obtain ⟨b, eb, lb⟩ := up cB (x 1) (by rw [← hB]; exact colP _ _) (hx 1 (by decide))
    obtain ⟨c, ec, lc⟩ := up cC (x 2) (by rw [← hC]; exact colP _ _) (hx 2 (by decide))
    obtain ⟨d, ed, ld⟩ := up cD (x 3) (by rw [← hDD]; exact colP _ _) (hx 3 (by decide))
    have ha := (hx 0 (by decide)).trans (congrArg some ea)
    have hb := (hx 1 (by decide)).trans (congrArg some eb)
    have hc := (hx 2 (by decide)).trans (congrArg some ec)
    have hd := (hx 3 (by decide)).trans (congrArg some ed)
    rw [ea, eb, ec, ed]
    refine ⟨t, _, rfl, SqT.of upd_same, rfl, ?_⟩
    walk_at "go"
    exact hF _ _ (Same.new ht) ⟨a, b, c, d, ha, hb, hc, hd, congrArg V.int (fourI x0 y0)⟩
  · intro H6 ys s6 hy hl4 ho
    have ey : ys = colV (fourC cA cB cC cD (u % 256).toNat (z % 256).toNat) := by
      refine List.ext_getElem? fun k => ?_
      rcases Nat.lt_or_ge k 4 with c | c
      · obtain ⟨a, b, c', d, h1, h2, h3, h4, h5⟩ := ho k ys[k] (List.getElem?_eq_getElem (by omega))
        rw [List.getElem?_eq_getElem (by omega), h5]
        have nn : ∀ {p q : Nat}, some (V.int (p : Int)) = some (V.int (q : Int)) → p = q := fun e => Int.ofNat_inj.mp (V.int.inj (Option.some.inj e))
        match k, c, h1, h2, h3, h4 with
        | 0, _, h1, h2, h3, h4 =>
          obtain rfl := nn h1
          obtain rfl := nn h2
          obtain rfl := nn h3
          obtain rfl := nn h4
          rfl
        | 1, _, h1, h2, h3, h4 =>
          obtain rfl := nn h1
          obtain rfl := nn h2
          obtain rfl := nn h3
          obtain rfl := nn h4
          rfl
        | 2, _, h1, h2, h3, h4 =>
          obtain rfl := nn h1
          obtain rfl := nn h2
          obtain rfl := nn h3
          obtain rfl := nn h4
          rfl
        | 3, _, h1, h2, h3, h4 =>
          obtain rfl := nn h1
          obtain rfl := nn h2
          obtain rfl := nn h3
          obtain rfl := nn h4
          rfl
      · rw [List.getElem?_eq_none (by omega), List.getElem?_eq_none (by exact c)]
    rw [ey] at hy
    walk_at "go"
    refine ⟨D, _, rfl, .inl ⟨SqL.of hy, fun t ht => ?_⟩⟩
    exact q.new ((s1.trans (s2.trans (s3.trans s4))).trans s6) ht rfl
end
end Pd
end
section
set_option Elab.async false
set_option linter.all false
set_option maxRecDepth 100000
set_option maxHeartbeats 4000000
namespace Pd
open PySem PySem.Spec PyProof.Rows L2
local macro_rules | `(tactic| walk_at "at") => `(tactic| first
  | assumption
  | exact upd_same
  | (refine (show Same _ _ by assumption) _ _ ?_; walk_at "at")
  | (refine (show But _ _ _ by assumption) _ _ (by assumption) ?_; assumption)
  | (refine Same.new (by assumption) _ _ ?_; walk_at "at")
  | (refine (upd_ne (ne_of (by assumption) (by assumption) (by intro z; cases z))).trans ?_; walk_at "at"))
local macro_rules | `(tactic| walk_at "go") => `(tactic| repeat (first
  | refine ⟨_, rfl, ?_⟩
  | refine ⟨_, _, rfl, rfl, ?_⟩
  | refine ⟨_, _, rfl, ?_⟩
  | refine ⟨_, _, _, rfl, ?_⟩
  | refine And.intro rfl ?_
  | refine And.intro (Or.inl ⟨by decide, by decide⟩) ?_
  | refine And.intro (Or.inr ⟨by decide, by decide⟩) ?_
  | refine And.intro ⟨by decide, by decide⟩ ?_
  | refine And.intro (Or.inl ⟨by omega, by omega⟩) ?_
  | refine And.intro (Or.inr ⟨by omega, by omega⟩) ?_
  | refine And.intro ⟨by omega, by omega⟩ ?_
  | refine And.intro trivial ?_
  | refine And.intro (by omega) ?_
  | refine And.intro (sz (Nat.le_of_ble_eq_true rfl)) ?_
  | refine And.intro (Or.inl ⟨rfl, _, SqL.of (by walk_at "at")⟩) ?_
  | refine ⟨_, _, _, _, rfl, rfl, SqT.of (by walk_at "at"), (by rfl), ?_⟩
  | refine ⟨_, _, _, _, rfl, rfl, SqL.of (by walk_at "at"), (by rfl), ?_⟩
  | refine ⟨_, _, _, _, _, rfl, (by walk_at "at"), (by assumption), (by assumption), Lk.h, ?_⟩
  | refine ⟨_, _, _, rfl, rfl, (by walk_at "at"), ?_⟩
  | refine ⟨_, _, _, rfl, (by walk_at "at"), LkN.h, ?_⟩
  | refine ⟨_, _, _, _, rfl, (by walk_at "at"), (by assumption), (by assumption), (by apply few_lt; decide), ?_⟩
  | refine ⟨_, _, (by walk_at "at"), (by apply few_lt; decide), ?_⟩
  | refine ⟨_, _, rfl, Or.inl (SqL.of (by walk_at "at")), ?_⟩))
section
variable {P : Program} {w : World} {K : PySem.W.Frag} {mg : Str → Option Value} {base : Heap}
theorem sc_Pictured_gives : FnScope ["self", "x", "y", "column", "row"] ["self", "x", "y"] (defScope s_Pictured_gives) := ⟨rfl, rfl, rfl, by decide +kernel, rfl, by decide +kernel, by decide +kernel⟩
theorem bd_Pictured_gives : BindAll "gives" "Pictured.gives" s_Pictured_gives ["self", "x", "y"] := fun _ _ _ _ _ _ us hl => match us, hl with | [_, _, _], _ => rfl
theorem ok_Pictured_gives (T : Txt K mg) : Ok P w K mg base CX0 4 (He.fAd K ("Pictured", some "gives")) ["self", "x", "y"] (fun vs H Q _ => ∃ (v : V) (pic : Vd.Picture) (six : List Int) (how smooth : Nat) (z : Vd.Pt), vs = [v, .int z.1, .int z.2] ∧ ShowAt K H v pic six how smooth ∧ NearR z.1 ∧ NearR z.2 ∧
    RetCol ((Vd.Paint.picture pic (Wrvdot.mapOf six) how (smooth == 1)).gives z) H Q) := by
  refine mk_ok T.f_Pictured_gives sc_Pictured_gives bd_Pictured_gives (fun _ _ _ _ ⟨_, _, _, _, _, _, e, _⟩ => by rw [e]; rfl) fun cdv A outer s H vs Q E hr h => ?_
  obtain ⟨v, pic, six, how, smooth, z, rfl, ⟨p, dx, pv, ls, rfl, hp, hpic, hls, h6, hb, hh, hs⟩, ⟨z1, z2⟩, ⟨z3, z4⟩, q⟩ := h
  obtain ⟨a, b, c, d, e, f, rfl⟩ : ∃ a b c d e f, six = [a, b, c, d, e, f] := by
    match six, h6 with
    | [a, b, c, d, e, f], _ => exact ⟨a, b, c, d, e, f, rfl⟩
  obtain ⟨pa, pdx, plc, rfl, hpa, _⟩ := id hpic
  have hls2 : H ls = some (.lst [.int a, .int b, .int c, .int d, .int e, .int f]) := hls
  have fc_Group := T.c_Group
  have fc_Layer := T.c_Layer
  have fc_Mark := T.c_Mark
  have fc_Pictured := T.c_Pictured
  have fc_Shade := T.c_Shade
  have fn_Group_how := T.n_Group_how
  have fn_Layer_how := T.n_Layer_how
  have fn_Mark_how := T.n_Mark_how
  have fn_Pictured_how := T.n_Pictured_how
  have fn_Pictured_picture := T.n_Pictured_picture
  have fn_Pictured_six := T.n_Pictured_six
  have fn_Pictured_smooth := T.n_Pictured_smooth
  have fn_Shade_how := T.n_Shade_how
  refine ⟨_, (pss_cons (ps_set (i := 3) sc_Pictured_gives.nd rfl (Or.inl rfl) (pe_op op_add (pe_op op_add (pe_op op_mul (pe_ix (kx_ixl (K := K) rfl) (kx_fld (K := K) rfl (pv 0) rfl) pe_int (fun _ _ => rfl)) (pv 1)) (pe_op op_mul (pe_ix (kx_ixl (K := K) rfl) (kx_fld (K := K) rfl (pv 0) rfl) pe_int (fun _ _ => rfl)) (pv 2))) (pe_ix (kx_ixl (K := K) rfl) (kx_fld (K := K) rfl (pv 0) rfl) pe_int (fun _ _ => rfl))))
      (pss_cons (ps_set (i := 4) sc_Pictured_gives.nd rfl (Or.inl rfl) (pe_op op_add (pe_op op_add (pe_op op_mul (pe_ix (kx_ixl (K := K) rfl) (kx_fld (K := K) rfl (pv 0) rfl) pe_int (fun _ _ => rfl)) (pv 1)) (pe_op op_mul (pe_ix (kx_ixl (K := K) rfl) (kx_fld (K := K) rfl (pv 0) rfl) pe_int (fun _ _ => rfl)) (pv 2))) (pe_ix (kx_ixl (K := K) rfl) (kx_fld (K := K) rfl (pv 0) rfl) pe_int (fun _ _ => rfl))))
      (pss_cons (ps_if (pt_cmpR op_eq (kx_fld (K := K) rfl (pv 0) rfl) pe_int (nomark _)) (pss_one (ps_ret (c_meth (ok_Picture_colour_in (K := K) T) hr (by decide) T.c_Picture T.m_Picture_colour_in pass0 (kx_fld (K := K) rfl (pv 0) rfl) (pa_cons (pe_op op_fdiv (pv 3) (c_int rfl T.i_WHOLE_pictures)) (pa_cons (pe_op op_fdiv (pv 4) (c_int rfl T.i_WHOLE_pictures)) (pa_cons (kx_fld (K := K) rfl (pv 0) rfl) pa_nil)))))) pss_nil)
      (pss_one (ps_ret (c_meth (ok_Pictured_smoothed (K := K) T) hr (by decide) T.c_Pictured T.m_Pictured_smoothed pass0 (pv 0) (pa_cons (pe_op op_sub (pe_op op_fdiv (pv 3) pe_int) pe_int) (pa_cons (pe_op op_sub (pe_op op_fdiv (pv 4) pe_int) pe_int) pa_nil)))))))), ?_⟩
  walk_at "go"
  refine ite2 (fun c0 => ?_) (fun c0 => ?_)
  · have c1 : (smooth : Int) = 0 := dint c0
    have c2 : smooth = 0 := by omega
    subst c2
    walk_at "go"
    refine ⟨_, pic, _, _, how, rfl, hpic, hh, ?_⟩
    exact q
  · have c1 : ¬ (smooth : Int) = 0 := dint_not c0
    have c2 : smooth = 1 := by omega
    subst c2
    walk_at "go"
    refine ⟨_, pic, [a, b, c, d, e, f], how, 1, _, _, rfl, ⟨p, dx, _, ls, rfl, hp, hpic, hls, h6, hb, hh, hs⟩, ?_⟩
    have q2 : RetCol (Vd.smoothAt pic how (Wrvdot.mapOf [a, b, c, d, e, f]) z) H Q := q
    rw [smooth_is] at q2
    exact q2
end
end Pd
end
section
set_option Elab.async false
set_option linter.all false
set_option maxRecDepth 100000
set_option maxHeartbeats 4000000
namespace Pd
open PySem PySem.Spec PyProof.Rows L2
local macro_rules | `(tactic| walk_at "at") => `(tactic| first
  | assumption
  | exact upd_same
  | (refine (show Same _ _ by assumption) _ _ ?_; walk_at "at")
  | (refine (show But _ _ _ by assumption) _ _ (by assumption) ?_; assumption)
  | (refine Same.new (by assumption) _ _ ?_; walk_at "at")
  | (refine (upd_ne (ne_of (by assumption) (by assumption) (by intro z; cases z))).trans ?_; walk_at "at"))
local macro_rules | `(tactic| walk_at "go") => `(tactic| repeat (first
  | refine ⟨_, rfl, ?_⟩
  | refine ⟨_, _, rfl, rfl, ?_⟩
  | refine ⟨_, _, rfl, ?_⟩
  | refine ⟨_, _, _, rfl, ?_⟩
  | refine And.intro rfl ?_
  | refine And.intro (Or.inl ⟨by decide, by decide⟩) ?_
  | refine And.intro (Or.inr ⟨by decide, by decide⟩) ?_
  | refine And.intro ⟨by decide, by decide⟩ ?_
  | refine And.intro (Or.inl ⟨by omega, by omega⟩) ?_
  | refine And.intro (Or.inr ⟨by omega, by omega⟩) ?_
  | refine And.intro ⟨by omega, by omega⟩ ?_
  | refine And.intro trivial ?_
  | refine And.intro (by omega) ?_
  | refine And.intro (sz (Nat.le_of_ble_eq_true rfl)) ?_
  | refine And.intro (Or.inl ⟨rfl, _, SqL.of (by walk_at "at")⟩) ?_
  | refine ⟨_, _, _, _, rfl, rfl, SqT.of (by walk_at "at"), (by rfl), ?_⟩
  | refine ⟨_, _, _, _, rfl, rfl, SqL.of (by walk_at "at"), (by rfl), ?_⟩
  | refine ⟨_, _, _, _, _, rfl, (by walk_at "at"), (by assumption), (by assumption), Lk.h, ?_⟩
  | refine ⟨_, _, _, rfl, rfl, (by walk_at "at"), ?_⟩
  | refine ⟨_, _, _, rfl, (by walk_at "at"), LkN.h, ?_⟩
  | refine ⟨_, _, _, _, rfl, (by walk_at "at"), (by assumption), (by assumption), (by apply few_lt; decide), ?_⟩
  | refine ⟨_, _, (by walk_at "at"), (by apply few_lt; decide), ?_⟩
  | refine ⟨_, _, rfl, Or.inl (SqL.of (by walk_at "at")), ?_⟩))
/-! ### paints -/
def PaintAt (K : PySem.W.Frag) (G : Gh) (H : Hp) (v : V) : Vd.Paint → Prop
  | .plain c => ∃ p dx lv, v = .ref p ∧ H p = some (.ins (He.ga K "Plain") dx (fl_Plain lv)) ∧ ColAt H lv c.laid ∧ Sml c
  | .linear a b how l => LinAt K G H v a b how l
  | .radial m r how l => RadAt K G H v m r how l
  | .picture pic m how s => ∃ six smooth, ShowAt K H v pic six how smooth ∧ m = Wrvdot.mapOf six ∧ s = (smooth == 1)
theorem PaintAt.grow {K : PySem.W.Frag} {G : Gh} {H H' : Hp} {v : V} {p : Vd.Paint} (g : Grow G H H') (h : PaintAt K G H v p) : PaintAt K G H' v p := by
  cases p with
  | plain c =>
    obtain ⟨p, dx, lv, a, b, d, e⟩ := h
    exact ⟨p, dx, lv, a, g.1 _ _ b rfl, d.keep g.1, e⟩
  | linear a b how l =>
    obtain ⟨p, dx, sv, e, f, n1, n2, s⟩ := h
    exact ⟨p, dx, sv, e, g.1 _ _ f rfl, n1, n2, s.grow g⟩
  | radial m r how l =>
    obtain ⟨p, dx, sv, e, f, n1, n2, s⟩ := h
    exact ⟨p, dx, sv, e, g.1 _ _ f rfl, n1, n2, s.grow g⟩
  | picture pic m how s =>
    obtain ⟨six, smooth, a, b, c⟩ := h
    exact ⟨six, smooth, a.keep g.1, b, c⟩
theorem ShadeAt.good {K : PySem.W.Frag} {G : Gh} {H : Hp} {v : V} {how : Nat} {l : List Vd.Stop} (h : ShadeAt K G H v how l) : StopsG l := by
  obtain ⟨_, _, _, _, _, _, _, _, _, a, _⟩ := h
  exact a
theorem paint_pre {K : PySem.W.Frag} {G : Gh} {H : Hp} {v : V} {p : Vd.Paint} {z : Vd.Pt} (h : PaintAt K G H v p) : Pre (p.gives z) := by
  cases p with
  | plain c =>
    obtain ⟨_, _, _, _, _, _, e⟩ := h
    exact e.laid
  | linear a b how l =>
    obtain ⟨_, _, _, _, _, _, _, s⟩ := h
    exact (shade_sml s.good).laid
  | radial m r how l =>
    obtain ⟨_, _, _, _, _, _, _, s⟩ := h
    exact (shade_sml s.good).laid
  | picture pic m how s =>
    obtain ⟨six, smooth, ⟨_, _, _, _, _, _, ⟨_, _, _, _, _, _, po⟩, _⟩, b, c⟩ := h
    show Pre (if s = true then Vd.smoothAt pic how m z else Vd.plainAt pic how m z)
    split
    · rw [smooth_is]
      exact smAt_pre po
    · exact pic_pre po
/-! ### sums of colours -/
def partK (k : Nat) (c : Vd.Col) : Nat := match k with
  | 0 => c.r
  | 1 => c.g
  | 2 => c.b
  | _ => c.a
theorem colV_at {k : Nat} {c : Vd.Col} (h : k < 4) : (colV c)[k]? = some (.int (partK k c : Int)) := by
  match k, h with
  | 0, _ => rfl
  | 1, _ => rfl
  | 2, _ => rfl
  | 3, _ => rfl
theorem colV_ext {ys : List V} {c : Vd.Col} (hl : ys.length = 4) (h : ∀ (k : Nat) y, ys[k]? = some y → y = .int (partK k c : Int)) : ys = colV c := by
  refine List.ext_getElem? fun k => ?_
  rcases Nat.lt_or_ge k 4 with d | d
  · rw [colV_at d, List.getElem?_eq_getElem (by omega), h k _ (List.getElem?_eq_getElem (by omega))]
  · rw [List.getElem?_eq_none (by omega), List.getElem?_eq_none (by exact d)]
def sumK (k : Nat) (cs : List Vd.Col) : Nat := (cs.map (partK k)).sum
/-- the colours at the first m places that are within -/
def seen (i j : Int) (zs : List Vd.Shape) (p : Vd.Paint) (m : Nat) : List Vd.Col := (((List.range m).map (Vd.placeOf i j)).filter (Vd.inAll zs)).map p.gives
theorem seen_more (i j : Int) (zs : List Vd.Shape) (p : Vd.Paint) (m : Nat) : seen i j zs p (m + 1) = seen i j zs p m ++ (if Vd.inAll zs (Vd.placeOf i j m) = true then [p.gives (Vd.placeOf i j m)] else []) := by
  unfold seen
  rw [List.range_succ, List.map_append, List.filter_append, List.map_append]
  congr 1
  show (List.filter _ [Vd.placeOf i j m]).map _ = _
  rw [List.filter_cons]
  split <;> rfl
theorem seen_len (i j : Int) (zs : List Vd.Shape) (p : Vd.Paint) (m : Nat) : (seen i j zs p m).length ≤ m := by
  unfold seen
  rw [List.length_map]
  refine Nat.le_trans (List.length_filter_le _ _) ?_
  rw [List.length_map, List.length_range]
  exact Nat.le_refl _
theorem grid_is (i j : Int) (r n : Nat) (h : n < 16) : gridP (placeI i 0) (placeI j r) n = Vd.placeOf i j (16 * r + n) := by
  have e1 : (16 * r + n) % 16 = n := by omega
  have e2 : (16 * r + n) / 16 = r := by omega
  unfold gridP Vd.placeOf placeI
  rw [e1, e2]
  exact Prod.ext (by show 64 * i + 4 * 0 + 2 + 4 * (n : Int) = 64 * i + 4 * (n : Int) + 2; omega) rfl
theorem brings_fold (P : Vd.Pt → Bool) (g : Vd.Pt → Vd.Col) : ∀ (l : List Vd.Pt) (s : Vd.Col), l.foldl (fun (s : Vd.Col) (p : Vd.Pt) => if P p = true then Vd.plus s (g p) else s) s =
    ⟨s.r + sumK 0 ((l.filter P).map g), s.g + sumK 1 ((l.filter P).map g), s.b + sumK 2 ((l.filter P).map g), s.a + sumK 3 ((l.filter P).map g)⟩
  | [], s => rfl
  | p :: l, s => by
    rw [List.foldl_cons, brings_fold P g l, List.filter_cons]
    by_cases c : P p = true
    · rw [if_pos c, if_pos c]
      simp only [Vd.plus, List.map_cons, sumK, List.sum_cons, Nat.add_assoc]
      rfl
    · rw [if_neg c, if_neg c]
theorem brings_is (i j : Int) (s : Vd.Shape) (cs : List Vd.Shape) (p : Vd.Paint) : Vd.brings i j s cs p = ⟨Vd.near (sumK 0 (seen i j (s :: cs) p 256)), Vd.near (sumK 1 (seen i j (s :: cs) p 256)), Vd.near (sumK 2 (seen i j (s :: cs) p 256)), Vd.near (sumK 3 (seen i j (s :: cs) p 256))⟩ := by
  have e : (fun (c : Vd.Col) (z : Vd.Pt) => if s.has z = true ∧ Vd.inAll cs z = true then Vd.plus c (p.gives z) else c) = fun (c : Vd.Col) (z : Vd.Pt) => if Vd.inAll (s :: cs) z = true then Vd.plus c (p.gives z) else c := by
    funext c z
    refine ite_iff ?_ rfl rfl
    unfold Vd.inAll
    rw [List.all_cons, Bool.and_eq_true]
  unfold Vd.brings
  rw [e, brings_fold]
  show (⟨Vd.near (0 + _), Vd.near (0 + _), Vd.near (0 + _), Vd.near (0 + _)⟩ : Vd.Col) = _
  simp only [Nat.zero_add]
  rfl
theorem sum_le {f g : Vd.Col → Nat} : ∀ {cs : List Vd.Col}, (∀ c ∈ cs, f c ≤ g c) → (cs.map f).sum ≤ (cs.map g).sum
  | [], _ => Nat.le_refl _
  | c :: cs, h => by
    rw [List.map_cons, List.map_cons, List.sum_cons, List.sum_cons]
    exact Nat.add_le_add (h c (List.mem_cons_self ..)) (sum_le fun d m => h d (List.mem_cons_of_mem _ m))
theorem sum_255 {f : Vd.Col → Nat} : ∀ {cs : List Vd.Col}, (∀ c ∈ cs, f c ≤ 255) → (cs.map f).sum ≤ 255 * cs.length
  | [], _ => Nat.le_refl _
  | c :: cs, h => by
    rw [List.map_cons, List.sum_cons, List.length_cons]
    have := h c (List.mem_cons_self ..)
    have := sum_255 fun d m => h d (List.mem_cons_of_mem c m)
    omega
theorem brings_pre {K : PySem.W.Frag} {G : Gh} {H : Hp} {v : V} {p : Vd.Paint} {i j : Int} {s : Vd.Shape} {cs : List Vd.Shape} (h : PaintAt K G H v p) : Pre (Vd.brings i j s cs p) := by
  rw [brings_is]
  have all_ : ∀ c ∈ seen i j (s :: cs) p 256, Pre c := fun c hc => by
    obtain ⟨z, _, rfl⟩ := List.mem_map.mp hc
    exact paint_pre h
  refine ⟨near_mono (sum_le fun c m => (all_ c m).1), near_mono (sum_le fun c m => (all_ c m).2.1), near_mono (sum_le fun c m => (all_ c m).2.2.1), ?_⟩
  have h1 := sum_255 (f := partK 3) fun c m => (all_ c m).2.2.2
  have h2 := seen_len i j (s :: cs) p 256
  show (sumK 3 _ + 128) / 256 ≤ 255
  unfold sumK
  omega
section
variable {P : Program} {w : World} {K : PySem.W.Frag} {mg : Str → Option Value} {base : Heap}
theorem sc_mean_part : FnScope ["colours", "part", "colour"] ["colours", "part"] (defScope s_mean_part) := ⟨rfl, rfl, rfl, by decide +kernel, rfl, by decide +kernel, by decide +kernel⟩
theorem bd_mean_part : BindAll "mean_part" "mean_part" s_mean_part ["colours", "part"] := fun _ _ _ _ _ _ us hl => match us, hl with | [_, _], _ => rfl
theorem ok_mean_part (T : Txt K mg) : Ok P w K mg base CX0 1 (He.fAd K ("mean_part", none)) ["colours", "part"] (fun vs H Q _ => ∃ (a : Addr) (cs : List Vd.Col) (k : Nat), vs = [.ref a, .int (k : Int)] ∧ ListOf ColAt H a cs ∧ k < 4 ∧ cs.length ≤ 300 ∧ ∀ H', Same H H' → Q (.int (Vd.near (sumK k cs) : Nat)) H') := by
  refine mk_ok T.f_mean_part sc_mean_part bd_mean_part (fun _ _ _ _ ⟨_, _, _, e, _⟩ => by rw [e]; rfl) fun cdv A outer s H vs Q E hr h => ?_
  obtain ⟨a, cs, k, rfl, ⟨us, ha, au⟩, hk, hz, q⟩ := h
  refine ⟨_, (pss_one (ps_ret (pe_op op_fdiv (pe_op op_add (pe_callB (kx_sum (K := K) rfl rfl) (by rfl) T.z_sum (by decide +kernel) (pa_cons (pe_lc (own := [("colour", 2)]) (by rfl) sc_mean_part.nd (kx_list (K := K) rfl (pv 0)) (blkOk_by (own := [("colour", 2)]) (N := ["colours", "part", "colour"]) (sc := defScope s_mean_part) (by decide +kernel)) (fun _ _ _ _ _ => (pg_name (i := 2) sc_mean_part.nd rfl (Or.inl rfl))) (fun _ _ _ _ _ => pts_nil) (fun _ _ _ _ _ => (pe_ix (kx_ixt (K := K) rfl) (pv 2) (pv 1) (fun _ _ => rfl)))) pa_nil)) pe_int) pe_int))), ?_⟩
  have lu := au.1
  walk_at "go"
  refine ⟨⟨_, SqL.of ha⟩, fun D hD => lc_build walk_list (fun n y _ => ∃ c, cs[n]? = some c ∧ y = .int (partK k c : Int)) (fun _ _ _ _ _ _ _ e => e) hD (fun H' s1 => SqL.of (s1 _ _ ha)) (by omega) ?_ ?_⟩
  · rintro n x H2 H3 F B hn s2 ⟨rfl, hx⟩ hF
    obtain ⟨c, hc, t, rfl, ht⟩ := au.get hx
    have ht2 := s2 _ _ ht
    walk_at "go"
    refine ⟨_, _, _, _, rfl, rfl, SqT.of ht2, at_of (j := k) rfl (colV_at hk), ?_⟩
    exact hF _ _ (Same.refl _) ⟨c, hc, rfl⟩
  · intro H2 ys s2 hy hl ho
    have ey : ys = (cs.map fun c => (partK k c : Int)).map V.int := by
      rw [List.map_map]
      refine eq_map (hl.trans lu) fun n y c h1 h2 => ?_
      obtain ⟨c2, e1, e2⟩ := ho n y h1
      rw [h2] at e1
      cases e1
      exact e2
    rw [ey] at hy
    have es : (cs.map fun c => (partK k c : Int)).sum = (sumK k cs : Int) := by
      unfold sumK
      clear ey hy au lu hz q ho hl
      induction cs with
      | nil => rfl
      | cons c cs ih => rw [List.map_cons, List.sum_cons, ih, List.map_cons, List.sum_cons]; push_cast; rfl
    walk_at "go"
    refine ⟨_, _, rfl, SqL.of hy, ?_⟩
    walk_at "go"
    refine qi_of ?_ (q _ s2)
    rw [es]
    rfl
end
end Pd
end
section
set_option Elab.async false
set_option linter.all false
set_option maxRecDepth 100000
set_option maxHeartbeats 4000000
namespace Pd
open PySem PySem.Spec PyProof.Rows L2
local macro_rules | `(tactic| walk_at "at") => `(tactic| first
  | assumption
  | exact upd_same
  | (refine (show Same _ _ by assumption) _ _ ?_; walk_at "at")
  | (refine (show But _ _ _ by assumption) _ _ (by assumption) ?_; assumption)
  | (refine Same.new (by assumption) _ _ ?_; walk_at "at")
  | (refine (upd_ne (ne_of (by assumption) (by assumption) (by intro z; cases z))).trans ?_; walk_at "at"))
local macro_rules | `(tactic| walk_at "go") => `(tactic| repeat (first
  | refine ⟨_, rfl, ?_⟩
  | refine ⟨_, _, rfl, rfl, ?_⟩
  | refine ⟨_, _, rfl, ?_⟩
  | refine ⟨_, _, _, rfl, ?_⟩
  | refine And.intro rfl ?_
  | refine And.intro (Or.inl ⟨by decide, by decide⟩) ?_
  | refine And.intro (Or.inr ⟨by decide, by decide⟩) ?_
  | refine And.intro ⟨by decide, by decide⟩ ?_
  | refine And.intro (Or.inl ⟨by omega, by omega⟩) ?_
  | refine And.intro (Or.inr ⟨by omega, by omega⟩) ?_
  | refine And.intro ⟨by omega, by omega⟩ ?_
  | refine And.intro trivial ?_
  | refine And.intro (by omega) ?_
  | refine And.intro (sz (Nat.le_of_ble_eq_true rfl)) ?_
  | refine And.intro (Or.inl ⟨rfl, _, SqL.of (by walk_at "at")⟩) ?_
  | refine ⟨_, _, _, _, rfl, rfl, SqT.of (by walk_at "at"), (by rfl), ?_⟩
  | refine ⟨_, _, _, _, rfl, rfl, SqL.of (by walk_at "at"), (by rfl), ?_⟩
  | refine ⟨_, _, _, _, _, rfl, (by walk_at "at"), (by assumption), (by assumption), Lk.h, ?_⟩
  | refine ⟨_, _, _, rfl, rfl, (by walk_at "at"), ?_⟩
  | refine ⟨_, _, _, rfl, (by walk_at "at"), LkN.h, ?_⟩
  | refine ⟨_, _, _, _, rfl, (by walk_at "at"), (by assumption), (by assumption), (by apply few_lt; decide), ?_⟩
  | refine ⟨_, _, (by walk_at "at"), (by apply few_lt; decide), ?_⟩
  | refine ⟨_, _, rfl, Or.inl (SqL.of (by walk_at "at")), ?_⟩))
def MarkAt (K : PySem.W.Frag) (G : Gh) (H : Hp) (v : V) (z : Vd.Shape) (cs : List Vd.Shape) (p : Vd.Paint) (how : Nat) : Prop := ∃ m dx ls qv, v = .ref m ∧ H m = some (.ins (He.ga K "Mark") dx (fl_Mark (.ref ls) qv (.int (how : Int)))) ∧ ListOf (ShRef K) H ls (z :: cs) ∧ PaintAt K G H qv p ∧ how ≤ 7 ∧ cs.length ≤ 30
theorem MarkAt.grow {K : PySem.W.Frag} {G : Gh} {H H' : Hp} {v : V} {z : Vd.Shape} {cs : List Vd.Shape} {p : Vd.Paint} {how : Nat} (g : Grow G H H') (h : MarkAt K G H v z cs p how) : MarkAt K G H' v z cs p how :=
  let ⟨m, dx, ls, qv, a, b, c, d, e⟩ := h
  ⟨m, dx, ls, qv, a, g.1 _ _ b rfl, c.keep (R := ShRef K) (fun _ _ _ _ e h => ShRef.keep e h) g.1, d.grow g, e⟩
section
variable {P : Program} {w : World} {K : PySem.W.Frag} {mg : Str → Option Value} {base : Heap}
theorem sc_Mark_init : FnScope ["self", "shape", "clips", "paint", "how"] ["self", "shape", "clips", "paint", "how"] (defScope s_Mark_init) := ⟨rfl, rfl, rfl, by decide +kernel, rfl, by decide +kernel, by decide +kernel⟩
theorem bd_Mark_init : BindAll "__init__" "Mark.__init__" s_Mark_init ["self", "shape", "clips", "paint", "how"] := fun _ _ _ _ _ _ us hl => match us, hl with | [_, _, _, _, _], _ => rfl
theorem ok_Mark_init (T : Txt K mg) : Ok P w K mg base CX0 1 (He.fAd K ("Mark", some "__init__")) ["self", "shape", "clips", "paint", "how"] (fun vs H Q _ => ∃ (p dx ca : Addr) (u qv hv : V) (us : List V), vs = [.ref p, u, .ref ca, qv, hv] ∧ H p = some (.ins (He.ga K "Mark") dx []) ∧ H ca = some (.lst us) ∧ us.length ≤ 30 ∧
    ∀ H' ls, But p H H' → H ls = none → H' ls = some (.lst (u :: us)) → H' p = some (.ins (He.ga K "Mark") dx (fl_Mark (.ref ls) qv hv)) → Q .non H') := by
  refine mk_ok T.f_Mark_init sc_Mark_init bd_Mark_init (fun _ _ _ _ ⟨_, _, _, _, _, _, _, e, _⟩ => by rw [e]; rfl) fun cdv A outer s H vs Q E hr h => ?_
  obtain ⟨p, dx, ca, u, qv, hv, us, rfl, hp, hca, hz, q⟩ := h
  have fc_Group := T.c_Group
  have fc_Layer := T.c_Layer
  have fc_Mark := T.c_Mark
  have fc_Pictured := T.c_Pictured
  have fc_Shade := T.c_Shade
  have fn_Group_how := T.n_Group_how
  have fn_Layer_how := T.n_Layer_how
  have fn_Mark_how := T.n_Mark_how
  have fn_Mark_paint := T.n_Mark_paint
  have fn_Mark_shapes := T.n_Mark_shapes
  have fn_Pictured_how := T.n_Pictured_how
  have fn_Shade_how := T.n_Shade_how
  refine ⟨_, (pss_cons (kx_sfld (K := K) rfl (pv 0) (pe_op op_cat (pe_lst (pa_cons (pv 1) pa_nil)) (pv 2)) rfl)
      (pss_cons (kx_sfld (K := K) rfl (pv 0) (pv 3) rfl)
      (pss_one (kx_sfld (K := K) rfl (pv 0) (pv 4) rfl)))), ?_⟩
  walk_at "go"
  intro l0 hl0
  walk_at "go"
  have s1 := Same.new (o := .lst [u]) hl0
  have l1 : (upd H l0 (.lst [u])) l0 = some (.lst [u]) := upd_same
  generalize upd H l0 (.lst [u]) = H1 at s1 l1
  have hca1 := s1 _ _ hca
  have hp1 := s1 _ _ hp
  have lz : ([u] : List V).length + us.length ≤ sizeLine := by
    refine sz ?_
    show 1 + us.length ≤ _
    omega
  refine ⟨l0, ca, _, us, rfl, rfl, l1, hca1, lz, fun ls hls => ?_⟩
  have s2 := s1.trans (Same.new (o := .lst ([u] ++ us)) hls)
  have l2 : (upd H1 ls (.lst ([u] ++ us))) ls = some (.lst (u :: us)) := upd_same
  generalize upd H1 ls (.lst ([u] ++ us)) = H2 at s2 l2
  have hp2 := s2 _ _ hp
  have ne : ls ≠ p := fun e => by
    rw [e, hp2] at l2
    cases l2
  walk_at "go"
  rw [new_Mark]
  refine q _ ls ((But.of s2).trans ((But.trans But.at_ But.at_).trans But.at_)) (s1.free hls) ?_ upd_same
  rw [upd_ne ne, upd_ne ne, upd_ne ne]
  exact l2
theorem sc_Mark_brings : FnScope ["self", "i", "j", "colours", "number", "row", "y", "across", "covered", "part"] ["self", "i", "j"] (defScope s_Mark_brings) := ⟨rfl, rfl, rfl, by decide +kernel, rfl, by decide +kernel, by decide +kernel⟩
theorem bd_Mark_brings : BindAll "brings" "Mark.brings" s_Mark_brings ["self", "i", "j"] := fun _ _ _ _ _ _ us hl => match us, hl with | [_, _, _], _ => rfl
theorem ok_Mark_brings (T : Txt K mg) : Ok P w K mg base CX0 5 (He.fAd K ("Mark", some "brings")) ["self", "i", "j"] (fun vs H Q _ => ∃ (G : Gh) (v : V) (z : Vd.Shape) (cs : List Vd.Shape) (p : Vd.Paint) (how : Nat) (i j : Int), vs = [v, .int i, .int j] ∧ MarkAt K G H v z cs p how ∧ (-1100000 ≤ i ∧ i ≤ 1100000) ∧ (-1100000 ≤ j ∧ j ≤ 1100000) ∧ GiveCol G (Vd.brings i j z cs p) H Q) := by
  refine mk_ok T.f_Mark_brings sc_Mark_brings bd_Mark_brings (fun _ _ _ _ ⟨_, _, _, _, _, _, _, _, e, _⟩ => by rw [e]; rfl) fun cdv A outer s H vs Q E hr h => ?_
  obtain ⟨G, v, z, cs, p, how, i, j, rfl, ⟨m, dx, ls, qv, rfl, hm, hls, hpt, hh, hcl⟩, ⟨i1, i2⟩, ⟨j1, j2⟩, q⟩ := h
  have fc_Mark := T.c_Mark
  have fn_Mark_paint := T.n_Mark_paint
  have fn_Mark_shapes := T.n_Mark_shapes
  refine ⟨_, (pss_cons (ps_set (i := 3) sc_Mark_brings.nd rfl (Or.inr rfl) (pe_lst pa_nil))
      (pss_cons (ps_for PassesOwn.never rfl (kx_enum (K := K) rfl (by rfl) T.z_enumerate (pa_cons (c_call (ok_covered_rows (K := K) T) hr (by decide) rfl T.g_covered_rows pass0 (pa_cons (kx_fld (K := K) rfl (pv 0) rfl) (pa_cons (pv 1) (pa_cons (pv 2) pa_nil)))) pa_nil)) (kx_tup (K := K) (n := 2) rfl rfl (pgs_cons (pg_name (i := 4) sc_Mark_brings.nd rfl (Or.inl rfl)) (pgs_cons (pg_name (i := 5) sc_Mark_brings.nd rfl (Or.inl rfl)) pgs_nil))) (pss_cons (ps_set (i := 6) sc_Mark_brings.nd rfl (Or.inl rfl) (c_call (ok_place_at (K := K) T) hr (by decide) rfl T.g_place_at pass0 (pa_cons (pv 2) (pa_cons (pv 4) pa_nil))))
      (pss_one (ps_for PassesOwn.never rfl (kx_enum (K := K) rfl (by rfl) T.z_enumerate (pa_cons (pv 5) pa_nil)) (kx_tup (K := K) (n := 2) rfl rfl (pgs_cons (pg_name (i := 7) sc_Mark_brings.nd rfl (Or.inl rfl)) (pgs_cons (pg_name (i := 8) sc_Mark_brings.nd rfl (Or.inl rfl)) pgs_nil))) (pss_one (ps_if (pt_cmpR op_eq (pv 8) pe_int (nomark _)) (pss_one (ps_expr (kx_bm (K := K) rfl PySem.F.plainAttrs_list PySem.F.slot_list_append PySem.F.type_list_append mt_append (pv 3) (pa_cons (pe_alt (c_meth (ok_Plain_gives (K := K) T) hr (by decide) T.c_Plain T.m_Plain_gives pass0 (kx_fld (K := K) rfl (pv 0) rfl) (pa_cons (c_call (ok_place_at (K := K) T) hr (by decide) rfl T.g_place_at pass0 (pa_cons (pv 1) (pa_cons (pv 7) pa_nil))) (pa_cons (pv 6) pa_nil))) (pe_alt (c_meth (ok_Linear_gives (K := K) T) hr (by decide) T.c_Linear T.m_Linear_gives pass0 (kx_fld (K := K) rfl (pv 0) rfl) (pa_cons (c_call (ok_place_at (K := K) T) hr (by decide) rfl T.g_place_at pass0 (pa_cons (pv 1) (pa_cons (pv 7) pa_nil))) (pa_cons (pv 6) pa_nil))) (pe_alt (c_meth (ok_Radial_gives (K := K) T) hr (by decide) T.c_Radial T.m_Radial_gives pass0 (kx_fld (K := K) rfl (pv 0) rfl) (pa_cons (c_call (ok_place_at (K := K) T) hr (by decide) rfl T.g_place_at pass0 (pa_cons (pv 1) (pa_cons (pv 7) pa_nil))) (pa_cons (pv 6) pa_nil))) (c_meth (ok_Pictured_gives (K := K) T) hr (by decide) T.c_Pictured T.m_Pictured_gives pass0 (kx_fld (K := K) rfl (pv 0) rfl) (pa_cons (c_call (ok_place_at (K := K) T) hr (by decide) rfl T.g_place_at pass0 (pa_cons (pv 1) (pa_cons (pv 7) pa_nil))) (pa_cons (pv 6) pa_nil)))))) pa_nil)))) pss_nil))))))
      (pss_one (ps_ret (pe_callTy (kx_tuple (K := K) rfl) (by rfl) T.z_tuple (by decide +kernel) (pa_cons (pe_lc (own := [("part", 9)]) (by rfl) sc_Mark_brings.nd (pi_range1 rfl T.z_range (pa_cons pe_int pa_nil)) (blkOk_by (own := [("part", 9)]) (N := ["self", "i", "j", "colours", "number", "row", "y", "across", "covered", "part"]) (sc := defScope s_Mark_brings) (by decide +kernel)) (fun _ _ _ _ _ => (pg_name (i := 9) sc_Mark_brings.nd rfl (Or.inl rfl))) (fun _ _ _ _ _ => pts_nil) (fun _ _ _ _ _ => (c_call (ok_mean_part (K := K) T) hr (by decide) rfl T.g_mean_part pass0 (pa_cons (pv 3) (pa_cons (pv 9) pa_nil))))) pa_nil)))))), ?_⟩
  walk_at "go"
  intro C hC
  have s1 := Same.new (o := .lst []) hC
  have C1 : (upd H C (.lst [])) C = some (.lst []) := upd_same
  generalize upd H C (.lst []) = H1 at s1 C1
  have hm1 := s1 _ _ hm
  have nls := hls
  obtain ⟨us, hus, aus⟩ := hls
  walk_at "go"
  refine ⟨ls, z :: cs, i, j, rfl, ListOf.mono (R := ShRef K) (fun _ _ _ _ e h => ShRef.mono e h) s1 nls, by rw [List.length_cons]; omega, ⟨i1, i2⟩, ⟨j1, j2⟩, fun H2 R s2 hR hrows => ?_⟩
  obtain ⟨rs, hrs, ar⟩ := hrows
  have lr := ar.1
  rw [List.length_map, List.length_range] at lr
  have C2 := s2 _ _ C1
  have s12 := s1.trans s2
  have eCR : C ≠ R := ne_of_none C1 hR
  have rowC : ∀ p, V.ref p ∈ rs → p ≠ C := by
    intro p mp e
    obtain ⟨k, hk, ek⟩ := List.mem_iff_getElem.mp mp
    obtain ⟨f, hf, p', e', hp'⟩ := ar.get (List.getElem?_eq_getElem hk)
    rw [ek] at e'
    cases e'
    rw [e, C2] at hp'
    have := congrArg List.length (HO.lst.inj (Option.some.inj hp'))
    rw [lineV_len] at this
    cases this
  walk_at "go"
  refine ⟨R, rs, rfl, SqL.of hrs, ?_⟩
  refine for_it (walk_enum (xs := rs)) (fun r σ H' => (∃ l : Option V × Option V × Option V × Option V × Option V × Option V, σ = [some (.ref m), some (.int i), some (.int j), some (.ref C), l.1, l.2.1, l.2.2.1, l.2.2.2.1, l.2.2.2.2.1, l.2.2.2.2.2]) ∧ Grow G H H' ∧ H' R = some (.lst rs) ∧ All (RowAt H') rs ((List.range 16).map fun r => inI (z :: cs) i j r) ∧ ListOf ColAt H' C (seen i j (z :: cs) p (16 * r)))
    ⟨⟨(none, none, none, none, none, none), rfl⟩, Grow.of s12, hrs, ar, [], C2, All.nil⟩ (fun r σ H' _ h => SqL.of h.2.2.1) ?_ ?_
  · rintro r x σ H3 H4 hr16 ⟨⟨l, rfl⟩, g3, R3, ar3, c3⟩ ⟨t, x1, x2, rfl, ht, rfl, hx1, hx2⟩
    obtain rfl : V.int (r : Int) = x1 := Option.some.inj hx1
    rw [lr] at hr16
    obtain ⟨ra, rfl, hra⟩ : ∃ ra, x2 = .ref ra ∧ H3 ra = some (.lst (lineV 16 (inI (z :: cs) i j r))) := by
      obtain ⟨f, hf, ra, e, h⟩ := ar3.get hx2
      rw [List.getElem?_map, List.getElem?_range hr16] at hf
      cases hf
      exact ⟨ra, e, h⟩
    have s4 := Same.new (o := .tup [.int (r : Int), .ref ra]) ht
    have t4 : (upd H3 t (.tup [.int (r : Int), .ref ra])) t = _ := upd_same
    generalize upd H3 t (.tup [.int (r : Int), .ref ra]) = H4 at s4 t4
    have g4 := g3.trans (Grow.of s4)
    have ra4 := s4 _ _ hra
    have R4 := s4 _ _ R3
    have ar4 := ar3.imp fun v f h => RowAt.mono s4 h
    have c4 := ListOf.mono (R := ColAt) (fun _ _ _ _ e h => ColAt.mono e h) s4 c3
    refine ⟨t, _, rfl, SqT.of t4, rfl, ?_⟩
    walk_at "go"
    refine ⟨ra, _, rfl, SqL.of ra4, ?_⟩
    refine for_it (walk_enum (xs := lineV 16 (inI (z :: cs) i j r))) (fun n σ H' => (∃ l : Option V × Option V × Option V, σ = [some (.ref m), some (.int i), some (.int j), some (.ref C), some (.int (r : Int)), some (.ref ra), some (.int (placeI j r)), l.1, l.2.1, l.2.2]) ∧ Grow G H H' ∧ H' R = some (.lst rs) ∧ All (RowAt H') rs ((List.range 16).map fun r => inI (z :: cs) i j r) ∧
        H' ra = some (.lst (lineV 16 (inI (z :: cs) i j r))) ∧ ListOf ColAt H' C (seen i j (z :: cs) p (16 * r + n)))
      ⟨⟨(_, _, _), rfl⟩, g4, R4, ar4, ra4, c4⟩ (fun n σ H' _ h => SqL.of h.2.2.2.2.1) ?_ ?_
    · rintro n x σ H5 H6 hn ⟨⟨l, rfl⟩, g5, R5, ar5, ra5, c5⟩ ⟨t', x1, x2, rfl, ht', rfl, hx1, hx2⟩
      obtain rfl : V.int (n : Int) = x1 := Option.some.inj hx1
      rw [lineV_len] at hn
      obtain rfl : V.int (inI (z :: cs) i j r n) = x2 := Option.some.inj ((lineV_at hn).symm.trans hx2)
      have s6 := Same.new (o := .tup [.int (n : Int), .int (inI (z :: cs) i j r n)]) ht'
      have t6 : (upd H5 t' (.tup [.int (n : Int), .int (inI (z :: cs) i j r n)])) t' = _ := upd_same
      generalize upd H5 t' (.tup [.int (n : Int), .int (inI (z :: cs) i j r n)]) = H6 at s6 t6
      have g6 := g5.trans (Grow.of s6)
      have ra6 := s6 _ _ ra5
      have R6 := s6 _ _ R5
      have ar6 := ar5.imp fun v f h => RowAt.mono s6 h
      have c6 := ListOf.mono (R := ColAt) (fun _ _ _ _ e h => ColAt.mono e h) s6 c5
      have hm6 := g6.1 _ _ hm rfl
      have pt6 := hpt.grow g6
      have more := seen_more i j (z :: cs) p (16 * r + n)
      rw [← grid_is i j r n hn] at more
      refine ⟨t', _, rfl, SqT.of t6, rfl, ?_⟩
      walk_at "go"
      refine ite2 (fun c => ?_) (fun c => ?_)
      · have c1 : Vd.inAll (z :: cs) (gridP (placeI i 0) (placeI j r) n) = true := by
          have := dint c
          unfold inI at this
          split at this
          · assumption
          · cases this
        rw [if_pos c1] at more
        obtain ⟨ws, hws, aw⟩ := c6
        have lw := aw.1
        have lse := seen_len i j (z :: cs) p (16 * r + n)
        have lws : ws.length < sizeLine := szl (by omega)
        have gp : gridP (placeI i 0) (placeI j r) n = (placeI i n, placeI j r) := by
          unfold gridP placeI
          exact Prod.ext (by show 64 * i + 4 * 0 + 2 + 4 * (n : Int) = 64 * i + 4 * (n : Int) + 2; omega) rfl
        rw [gp] at more
        have nr : NearR (placeI i n) ∧ NearR (placeI j r) := by
          unfold placeI NearR
          omega
        have fin : ∀ v H7, Grow G H6 H7 → ColAt H7 v (p.gives (placeI i n, placeI j r)) → H7 C = some (.lst ws) → Grow G H (upd H7 C (.lst (ws ++ [v]))) ∧ (upd H7 C (.lst (ws ++ [v]))) R = some (.lst rs) ∧ All (RowAt (upd H7 C (.lst (ws ++ [v])))) rs ((List.range 16).map fun r => inI (z :: cs) i j r) ∧
            (upd H7 C (.lst (ws ++ [v]))) ra = some (.lst (lineV 16 (inI (z :: cs) i j r))) ∧ ListOf ColAt (upd H7 C (.lst (ws ++ [v]))) C (seen i j (z :: cs) p (16 * r + (n + 1))) := by
          intro v H7 g7 cv C7
          have g07 := g6.trans g7
          have nra : ra ≠ C := rowC ra (List.mem_of_getElem? (by assumption))
          refine ⟨g07.mut hC C7, ?_, ⟨ar6.1, fun k v f hv hf => ?_⟩, ?_, ws ++ [v], upd_same, ?_⟩
          · rw [upd_ne (Ne.symm eCR)]
            exact g7.1 _ _ R6 rfl
          · obtain ⟨pk, rfl, hk⟩ := ar6.2 k v f hv hf
            refine ⟨pk, rfl, ?_⟩
            rw [upd_ne (rowC pk (List.mem_of_getElem? hv))]
            exact g7.1 _ _ hk rfl
          · rw [upd_ne nra]
            exact g7.1 _ _ ra6 rfl
          · rw [← Nat.add_assoc, more]
            have st : ∀ u c, ColAt H7 u c → ColAt (upd H7 C (.lst (ws ++ [v]))) u c := fun u c ⟨tt, e, h⟩ => ⟨tt, e, by rw [upd_ne (ne_of h C7 (by intro z; cases z))]; exact h⟩
            exact All.snoc (aw.imp fun u c h => st _ _ (h.keep g7.1)) (st _ _ cv)
        cases p with
        | plain col =>
          obtain ⟨op, odx, lv, rfl, hop, hlv, sml⟩ := id pt6
          walk_at "go"
          left
          walk_at "go"
          refine ⟨op, odx, lv, _, _, rfl, hop, ?_⟩
          walk_at "go"
          exact ⟨⟨(_, _, _), rfl⟩, fin _ _ (Grow.refl _ _) hlv hws⟩
        | linear a b hw l0 =>
          obtain ⟨op, odx, sv, rfl, hop, rest⟩ := id pt6
          walk_at "go"
          right
          left
          walk_at "go"
          refine ⟨G, _, a, b, hw, l0, (placeI i n, placeI j r), rfl, pt6, nr.1, nr.2, fun v H7 g7 cv => ?_⟩
          have C7 := g7.1 _ _ hws rfl
          walk_at "go"
          exact ⟨⟨(_, _, _), rfl⟩, fin _ _ g7 cv C7⟩
        | radial mm rr hw l0 =>
          obtain ⟨op, odx, sv, rfl, hop, rest⟩ := id pt6
          walk_at "go"
          right
          right
          left
          walk_at "go"
          refine ⟨G, _, mm, rr, hw, l0, (placeI i n, placeI j r), rfl, pt6, nr.1, nr.2, fun v H7 g7 cv => ?_⟩
          have C7 := g7.1 _ _ hws rfl
          walk_at "go"
          exact ⟨⟨(_, _, _), rfl⟩, fin _ _ g7 cv C7⟩
        | picture pic mm hw sm =>
          obtain ⟨six, smooth, sho, rfl, rfl⟩ := id pt6
          obtain ⟨op, odx, opv, ols, rfl, hop, rest⟩ := id sho
          walk_at "go"
          right
          right
          right
          walk_at "go"
          refine ⟨_, pic, six, hw, smooth, (placeI i n, placeI j r), rfl, sho, nr.1, nr.2, fun v H7 g7 cv => ?_⟩
          have C7 := g7 _ _ hws
          walk_at "go"
          exact ⟨⟨(_, _, _), rfl⟩, fin _ _ (Grow.of g7) cv C7⟩
      · have c1 : ¬ Vd.inAll (z :: cs) (gridP (placeI i 0) (placeI j r) n) = true := by
          intro e
          have := dint_not c
          unfold inI at this
          exact this (if_pos e)
        rw [if_neg c1, List.append_nil] at more
        walk_at "go"
        refine ⟨⟨(_, _, _), rfl⟩, g6, R6, ar6, ra6, ?_⟩
        rw [← Nat.add_assoc, more]
        exact c6
    · rintro σ H5 ⟨⟨l, rfl⟩, g5, R5, ar5, ra5, c5⟩
      rw [lineV_len] at c5
      exact ⟨⟨(_, _, _, _, _, _), rfl⟩, g5, R5, ar5, by rw [show 16 * (r + 1) = 16 * r + 16 by omega]; exact c5⟩
  · rintro σ H3 ⟨⟨l, rfl⟩, g3, R3, ar3, c3⟩
    rw [lr] at c3
    walk_at "go"
    have lse := seen_len i j (z :: cs) p (16 * 16)
    refine fun D hD => lc_build walk_range (fun k y _ => y = .int (Vd.near (sumK k (seen i j (z :: cs) p 256)) : Nat)) (fun _ _ _ _ _ _ _ e => e) hD (fun _ _ => trivial) (by decide) ?_ ?_
    · rintro k x H4 H5 F B hk s4 ⟨rfl, rfl⟩ hF
      have k4 : k < 4 := hk
      walk_at "go"
      refine ⟨C, _, k, congrArg (fun z => [V.ref C, V.int z]) (Int.zero_add _), ListOf.mono (R := ColAt) (fun _ _ _ _ e h => ColAt.mono e h) s4 c3, k4, by omega, fun H6 s6 => ?_⟩
      exact hF _ _ s6 rfl
    · intro H4 ys s4 hy hl ho
      have ey : ys = colV (Vd.brings i j z cs p) := colV_ext hl fun k y hy => by
        have lk : k < 4 := by
          have := (List.getElem?_eq_some_iff.mp hy).1
          rw [hl] at this
          exact this
        rw [ho k y hy, brings_is]
        match k, lk with
        | 0, _ => rfl
        | 1, _ => rfl
        | 2, _ => rfl
        | 3, _ => rfl
      rw [ey] at hy
      walk_at "go"
      refine ⟨D, _, rfl, .inl ⟨SqL.of hy, fun t ht => ?_⟩⟩
      have sn := Same.new (o := .tup (colV (Vd.brings i j z cs p))) ht
      exact q _ _ (g3.trans (Grow.of (s4.trans sn))) ⟨t, rfl, upd_same⟩
end
end Pd
end
section
set_option Elab.async false
set_option linter.all false
set_option maxRecDepth 100000
set_option maxHeartbeats 4000000
namespace Pd
open PySem PySem.Spec PyProof.Rows L2
local macro_rules | `(tactic| walk_at "at") => `(tactic| first
  | assumption
  | exact upd_same
  | (refine (show Same _ _ by assumption) _ _ ?_; walk_at "at")
  | (refine (show But _ _ _ by assumption) _ _ (by assumption) ?_; assumption)
  | (refine Same.new (by assumption) _ _ ?_; walk_at "at")
  | (refine (upd_ne (ne_of (by assumption) (by assumption) (by intro z; cases z))).trans ?_; walk_at "at"))
local macro_rules | `(tactic| walk_at "go") => `(tactic| repeat (first
  | refine ⟨_, rfl, ?_⟩
  | refine ⟨_, _, rfl, rfl, ?_⟩
  | refine ⟨_, _, rfl, ?_⟩
  | refine ⟨_, _, _, rfl, ?_⟩
  | refine And.intro rfl ?_
  | refine And.intro (Or.inl ⟨by decide, by decide⟩) ?_
  | refine And.intro (Or.inr ⟨by decide, by decide⟩) ?_
  | refine And.intro ⟨by decide, by decide⟩ ?_
  | refine And.intro (Or.inl ⟨by omega, by omega⟩) ?_
  | refine And.intro (Or.inr ⟨by omega, by omega⟩) ?_
  | refine And.intro ⟨by omega, by omega⟩ ?_
  | refine And.intro trivial ?_
  | refine And.intro (by omega) ?_
  | refine And.intro (sz (Nat.le_of_ble_eq_true rfl)) ?_
  | refine And.intro (Or.inl ⟨rfl, _, SqL.of (by walk_at "at")⟩) ?_
  | refine ⟨_, _, _, _, rfl, rfl, SqT.of (by walk_at "at"), (by rfl), ?_⟩
  | refine ⟨_, _, _, _, rfl, rfl, SqL.of (by walk_at "at"), (by rfl), ?_⟩
  | refine ⟨_, _, _, _, _, rfl, (by walk_at "at"), (by assumption), (by assumption), Lk.h, ?_⟩
  | refine ⟨_, _, _, rfl, rfl, (by walk_at "at"), ?_⟩
  | refine ⟨_, _, _, rfl, (by walk_at "at"), LkN.h, ?_⟩
  | refine ⟨_, _, _, _, rfl, (by walk_at "at"), (by assumption), (by assumption), (by apply few_lt; decide), ?_⟩
  | refine ⟨_, _, (by walk_at "at"), (by apply few_lt; decide), ?_⟩
  | refine ⟨_, _, rfl, Or.inl (SqL.of (by walk_at "at")), ?_⟩))
open Vd (painted)
abbrev Ent := List Vd.Entry × Nat
def MarkE (K : PySem.W.Frag) (G : Gh) (H : Hp) (v : V) (e : Ent) : Prop := ∃ z cs p how, MarkAt K G H v z cs p how ∧ e = ([.mark z cs p how], how)
def GrpE (K : PySem.W.Frag) (H : Hp) (R : V → Ent → Prop) (v : V) (e : Ent) : Prop := ∃ (g dx lm lc : Addr) (vs : List V) (es : List Ent) (cs : List Vd.Shape) (o how : Nat), v = .ref g ∧ H g = some (.ins (He.ga K "Group") dx (fl_Group (.ref lm) (.ref lc) (.int (o : Int)) (.int (how : Int)))) ∧
  H lm = some (.lst vs) ∧ All R vs es ∧ ListOf (ShRef K) H lc cs ∧ o ≤ 255 ∧ how ≤ 7 ∧ cs.length ≤ 30 ∧ vs.length ≤ 40 ∧ e = (.begins :: ((es.map Prod.fst).flatten ++ [.ends cs o how]), how)
/-- a member of at most so many groups within one another -/
def MemAt (K : PySem.W.Frag) (G : Gh) (H : Hp) : Nat → V → Ent → Prop
  | 0, v, e => MarkE K G H v e
  | n + 1, v, e => MarkE K G H v e ∨ GrpE K H (MemAt K G H n) v e
theorem MemAt.grow {K : PySem.W.Frag} {G : Gh} {H H' : Hp} (g : Grow G H H') : ∀ {n : Nat} {v : V} {e : Ent}, MemAt K G H n v e → MemAt K G H' n v e
  | 0, v, e, ⟨z, cs, p, how, a, b⟩ => ⟨z, cs, p, how, a.grow g, b⟩
  | n + 1, v, e, .inl ⟨z, cs, p, how, a, b⟩ => .inl ⟨z, cs, p, how, a.grow g, b⟩
  | n + 1, v, e, .inr ⟨q, dx, lm, lc, vs, es, cs, o, how, a, b, c, d, f, r⟩ =>
    .inr ⟨q, dx, lm, lc, vs, es, cs, o, how, a, g.1 _ _ b rfl, g.1 _ _ c rfl, d.imp fun _ _ h => MemAt.grow g h, f.keep (R := ShRef K) (fun _ _ _ _ e h => ShRef.keep e h) g.1, r⟩
theorem MemAt.up {K : PySem.W.Frag} {G : Gh} {H : Hp} : ∀ {n : Nat} {v : V} {e : Ent}, MemAt K G H n v e → MemAt K G H (n + 1) v e
  | 0, v, e, h => .inl h
  | n + 1, v, e, .inl h => .inl h
  | n + 1, v, e, .inr ⟨q, dx, lm, lc, vs, es, cs, o, how, a, b, c, d, r⟩ => .inr ⟨q, dx, lm, lc, vs, es, cs, o, how, a, b, c, d.imp fun _ _ h => MemAt.up h, r⟩
theorem MemAt.split {K : PySem.W.Frag} {G : Gh} {H : Hp} : ∀ {n : Nat} {v : V} {e : Ent}, MemAt K G H n v e → MarkE K G H v e ∨ (n ≠ 0 ∧ GrpE K H (MemAt K G H (n - 1)) v e)
  | 0, v, e, h => .inl h
  | n + 1, v, e, .inl h => .inl h
  | n + 1, v, e, .inr h => .inr ⟨Nat.succ_ne_zero n, h⟩
/-- what a member of these entries brings: X, mixed so -/
def Brings (i j : Int) (e : Ent) (X : Vd.Col) : Prop := ∀ rest c l, painted i j (e.1 ++ rest) (c :: l) = painted i j rest (Vd.mix e.2 X c :: l)
def GiveMem (G : Gh) (i j : Int) (e : Ent) (H : Hp) (Q : VK) : Prop := ∀ v H' X, Grow G H H' → ColAt H' v X → Pre X → Brings i j e X → Q v H'
abbrev NearD (i : Int) : Prop := -1100000 ≤ i ∧ i ≤ 1100000
section
variable {P : Program} {w : World} {K : PySem.W.Frag} {mg : Str → Option Value} {base : Heap}
def spOnto (K : PySem.W.Frag) (n : Nat) : Sp := fun vs H Q _ => ∃ (G : Gh) (u : V) (c : Vd.Col) (lm : Addr) (us : List V) (es : List Ent) (i j : Int), vs = [u, .ref lm, .int i, .int j] ∧ ColAt H u c ∧ Pre c ∧ H lm = some (.lst us) ∧ All (MemAt K G H n) us es ∧ us.length ≤ 40 ∧ NearD i ∧ NearD j ∧
  ∀ v H' X, Grow G H H' → ColAt H' v X → Pre X → (∀ rest l, painted i j ((es.map Prod.fst).flatten ++ rest) (c :: l) = painted i j rest (X :: l)) → Q v H'
def spGrp (K : PySem.W.Frag) (n : Nat) : Sp := fun vs H Q _ => ∃ (G : Gh) (v : V) (e : Ent) (i j : Int), vs = [v, .int i, .int j] ∧ n ≠ 0 ∧ GrpE K H (MemAt K G H (n - 1)) v e ∧ NearD i ∧ NearD j ∧ GiveMem G i j e H Q
theorem sc_members_onto : FnScope ["ground", "members", "i", "j", "mixture", "member"] ["ground", "members", "i", "j"] (defScope s_members_onto) := ⟨rfl, rfl, rfl, by decide +kernel, rfl, by decide +kernel, by decide +kernel⟩
theorem bd_members_onto : BindAll "members_onto" "members_onto" s_members_onto ["ground", "members", "i", "j"] := fun _ _ _ _ _ _ us hl => match us, hl with | [_, _, _, _], _ => rfl
theorem onto_of (T : Txt K mg) (n : Nat) (hG : Ok P w K mg base CX0 (2 * n + 5) (He.fAd K ("Group", some "brings")) ["self", "i", "j"] (spGrp K n)) :
    Ok P w K mg base CX0 (2 * n + 6) (He.fAd K ("members_onto", none)) ["ground", "members", "i", "j"] (spOnto K n) := by
  refine mk_ok T.f_members_onto sc_members_onto bd_members_onto (fun _ _ _ _ ⟨_, _, _, _, _, _, _, _, e, _⟩ => by rw [e]; rfl) fun cdv A outer s H vs Q E hr h => ?_
  obtain ⟨G, u, c, lm, us, es, i, j, rfl, hu, hpre, hlm, au, hz, ni, nj, q⟩ := h
  have fc_Group := T.c_Group
  have fc_Layer := T.c_Layer
  have fc_Mark := T.c_Mark
  have fc_Pictured := T.c_Pictured
  have fc_Shade := T.c_Shade
  have fn_Group_how := T.n_Group_how
  have fn_Layer_how := T.n_Layer_how
  have fn_Mark_how := T.n_Mark_how
  have fn_Pictured_how := T.n_Pictured_how
  have fn_Shade_how := T.n_Shade_how
  refine ⟨_, (pss_cons (ps_set (i := 4) sc_members_onto.nd rfl (Or.inl rfl) (pv 0))
      (pss_cons (ps_for PassesOwn.never rfl (kx_list (K := K) rfl (pv 1)) (pg_name (i := 5) sc_members_onto.nd rfl (Or.inl rfl)) (pss_one (ps_set (i := 4) sc_members_onto.nd rfl (Or.inl rfl) (c_call (ok_mixed (K := K) T) hr (by omega) rfl T.g_mixed pass0 (pa_cons (pe_alt (c_meth (ok_Mark_brings (K := K) T) hr (by omega) T.c_Mark T.m_Mark_brings pass0 (pv 5) (pa_cons (pv 2) (pa_cons (pv 3) pa_nil))) (c_meth (hG) hr (by omega) T.c_Group T.m_Group_brings pass0 (pv 5) (pa_cons (pv 2) (pa_cons (pv 3) pa_nil)))) (pa_cons (pv 4) (pa_cons (kx_fld (K := K) rfl (pv 5) rfl) pa_nil)))))))
      (pss_one (ps_ret (pv 4))))), ?_⟩
  walk_at "go"
  have lu := au.1
  refine ⟨⟨_, SqL.of hlm⟩, for_list (xs := us) (fun k σ H' => Grow G H H' ∧ ∃ (mv : V) (o : Option V) (X : Vd.Col), σ = [some u, some (.ref lm), some (.int i), some (.int j), some mv, o] ∧ ColAt H' mv X ∧ Pre X ∧ ∀ rest l, painted i j (((es.take k).map Prod.fst).flatten ++ rest) (c :: l) = painted i j rest (X :: l))
    ⟨Grow.refl _ _, u, none, c, rfl, hu, hpre, fun _ _ => rfl⟩ (fun k σ H' _ h => SqL.of (h.1.1 _ _ hlm rfl)) ?_ ?_⟩
  · rintro k x σ H1 hx ⟨g1, mv, o, X, rfl, hmv, preX, eqX⟩
    obtain ⟨e, he, me⟩ := au.get hx
    have me1 := MemAt.grow g1 me
    have fin : ∀ v2 H2 X2, Grow G H1 H2 → ColAt H2 v2 X2 → Pre X2 → Brings i j e X2 → ∀ v3 H3, Same H2 H3 → ColAt H3 v3 (Vd.mix e.2 X2 X) → Grow G H H3 ∧ ∃ (mv : V) (o : Option V) (X : Vd.Col), [some u, some (V.ref lm), some (V.int i), some (V.int j), some v3, some x] = [some u, some (.ref lm), some (.int i), some (.int j), some mv, o] ∧ ColAt H3 mv X ∧ Pre X ∧
        ∀ rest l, painted i j (((es.take (k + 1)).map Prod.fst).flatten ++ rest) (c :: l) = painted i j rest (X :: l) := by
      intro v2 H2 X2 g2 c2 p2 b2 v3 H3 s3 c3
      refine ⟨(g1.trans g2).trans (Grow.of s3), v3, _, _, rfl, c3, mix_pre p2 preX, fun rest l => ?_⟩
      rw [List.take_add_one, he, Option.toList_some, List.map_append, List.flatten_append, List.append_assoc, eqX]
      show painted i j ([e.1].flatten ++ rest) (X :: l) = _
      rw [List.flatten_singleton]
      exact b2 rest X l
    rcases MemAt.split me1 with hmk | ⟨n0, hgr⟩
    · obtain ⟨z, cs, p, how, mk, rfl⟩ := hmk
      obtain ⟨m, dx, ls, qv, rfl, hm, rest⟩ := id mk
      obtain ⟨_, hpt, _⟩ := id rest
      refine Or.inl ?_
      walk_at "go"
      refine ⟨G, _, z, cs, p, how, i, j, rfl, mk, ni, nj, fun v2 H2 g2 c2 => ?_⟩
      have hm2 := g2.1 _ _ hm rfl
      have p2 : Pre (Vd.brings i j z cs p) := brings_pre hpt
      walk_at "go"
      refine ⟨v2, mv, how, _, X, rfl, c2, hmv.keep g2.1, p2, preX, fun v3 H3 s3 c3 => ?_⟩
      exact fin v2 H2 _ g2 c2 p2 (fun rest c l => rfl) v3 H3 s3 c3
    · obtain ⟨g, dx, lm', lc, vs, es', cs, o', how, rfl, hg, rest⟩ := id hgr
      obtain ⟨_, _, _, _, _, _, _, ee⟩ := id rest
      refine Or.inr ?_
      walk_at "go"
      refine ⟨G, _, e, i, j, rfl, n0, hgr, ni, nj, fun v2 H2 X2 g2 c2 p2 b2 => ?_⟩
      have hg2 := g2.1 _ _ hg rfl
      have eh : how = e.2 := by rw [ee]
      walk_at "go"
      refine ⟨v2, mv, how, _, X, rfl, c2, hmv.keep g2.1, p2, preX, fun v3 H3 s3 c3 => ?_⟩
      rw [eh] at c3
      exact fin v2 H2 _ g2 c2 p2 b2 v3 H3 s3 c3
  · rintro σ H1 ⟨g1, mv, o, X, rfl, hmv, preX, eqX⟩
    rw [lu, List.take_length] at eqX
    walk_at "go"
    exact q _ _ X g1 hmv preX eqX
/-! ### how many of a dot's places are within -/
def rowSum (cs : List Vd.Shape) (i j : Int) (r : Nat) : Int := ((List.range 16).map (inI cs i j r)).sum
def cntTo (cs : List Vd.Shape) (i j : Int) (m : Nat) : Nat := (((List.range m).map (Vd.placeOf i j)).filter (Vd.inAll cs)).length
theorem cnt_more (cs : List Vd.Shape) (i j : Int) (r n : Nat) (h : n < 16) : (cntTo cs i j (16 * r + n + 1) : Int) = cntTo cs i j (16 * r + n) + inI cs i j r n := by
  unfold cntTo inI
  rw [List.range_succ, List.map_append, List.filter_append, List.length_append, grid_is i j r n h]
  show ((_ + (List.filter _ [Vd.placeOf i j (16 * r + n)]).length : Nat) : Int) = _
  rw [List.filter_cons]
  split
  · push_cast
    rfl
  · push_cast
    rfl
theorem cnt_row (cs : List Vd.Shape) (i j : Int) (r : Nat) : ∀ n, n ≤ 16 → (cntTo cs i j (16 * r + n) : Int) = cntTo cs i j (16 * r) + ((List.range n).map (inI cs i j r)).sum
  | 0, _ => by simp
  | n + 1, h => by
    rw [← Nat.add_assoc, cnt_more cs i j r n (by omega), cnt_row cs i j r n (by omega), List.range_succ, List.map_append, List.sum_append]
    simp
    omega
theorem cnt_all (cs : List Vd.Shape) (i j : Int) : ∀ r, ((List.range r).map (rowSum cs i j)).sum = (cntTo cs i j (16 * r) : Int)
  | 0 => by simp [cntTo]
  | r + 1 => by
    rw [List.range_succ, List.map_append, List.sum_append, cnt_all cs i j r, show 16 * (r + 1) = 16 * r + 16 by omega, cnt_row cs i j r 16 (Nat.le_refl _)]
    simp [rowSum]
theorem cnt_le (cs : List Vd.Shape) (i j : Int) (m : Nat) : cntTo cs i j m ≤ m := by
  unfold cntTo
  refine Nat.le_trans (List.length_filter_le _ _) ?_
  rw [List.length_map, List.length_range]
  exact Nat.le_refl _
theorem grouped_pre {i j : Int} {cs : List Vd.Shape} {o : Nat} {c : Vd.Col} (ho : o ≤ 255) (h : Pre c) : Pre (Vd.grouped i j cs o c) := by
  obtain ⟨h1, h2, h3, h4⟩ := h
  have mo : ∀ {x y : Nat}, x ≤ y → Vd.mul (Vd.near (x * Vd.counted i j cs)) o ≤ Vd.mul (Vd.near (y * Vd.counted i j cs)) o := fun h => mul_mono (near_mono (Nat.mul_le_mul_right _ h)) (Nat.le_refl _)
  refine ⟨mo h1, mo h2, mo h3, ?_⟩
  have lc : Vd.counted i j cs ≤ 256 := cnt_le cs i j 256
  have a := Nat.mul_le_mul h4 lc
  have b : Vd.near (c.a * Vd.counted i j cs) ≤ 255 := by
    unfold Vd.near
    omega
  exact Nat.le_trans (mul_le_left ho) b
theorem sc_Group_brings : FnScope ["self", "i", "j", "mixture", "count", "row", "part"] ["self", "i", "j"] (defScope s_Group_brings) := ⟨rfl, rfl, rfl, by decide +kernel, rfl, by decide +kernel, by decide +kernel⟩
theorem bd_Group_brings : BindAll "brings" "Group.brings" s_Group_brings ["self", "i", "j"] := fun _ _ _ _ _ _ us hl => match us, hl with | [_, _, _], _ => rfl
theorem grp_of (T : Txt K mg) (n : Nat) (hM : Ok P w K mg base CX0 (2 * n + 6) (He.fAd K ("members_onto", none)) ["ground", "members", "i", "j"] (spOnto K n)) :
    Ok P w K mg base CX0 (2 * n + 7) (He.fAd K ("Group", some "brings")) ["self", "i", "j"] (spGrp K (n + 1)) := by
  refine mk_ok T.f_Group_brings sc_Group_brings bd_Group_brings (fun _ _ _ _ ⟨_, _, _, _, _, e, _⟩ => by rw [e]; rfl) fun cdv A outer s H vs Q E hr h => ?_
  obtain ⟨G, v, e, i, j, rfl, _, hgr, ni, nj, q⟩ := h
  obtain ⟨g, dx, lm, lc, us, es, cs, o, how, rfl, hg, hlm, au, hlc, ho, hh, hcz, huz, ee⟩ := hgr
  have fc_Group := T.c_Group
  have fc_Layer := T.c_Layer
  have fn_Group_clips := T.n_Group_clips
  have fn_Group_members := T.n_Group_members
  have fn_Group_opacity := T.n_Group_opacity
  have fn_Layer_clips := T.n_Layer_clips
  have fn_Layer_members := T.n_Layer_members
  have fn_Layer_opacity := T.n_Layer_opacity
  refine ⟨_, (pss_cons (ps_set (i := 3) sc_Group_brings.nd rfl (Or.inl rfl) (c_call (hM) hr (by omega) rfl T.g_members_onto pass0 (pa_cons (c_call0 (ok_nothing (K := K) T) hr (by omega) rfl T.g_nothing pass0) (pa_cons (kx_fld (K := K) rfl (pv 0) rfl) (pa_cons (pv 1) (pa_cons (pv 2) pa_nil))))))
      (pss_cons (ps_set (i := 4) sc_Group_brings.nd rfl (Or.inr rfl) (pe_callB (kx_sum (K := K) rfl rfl) (by rfl) T.z_sum (by decide +kernel) (pa_cons (pe_lc (own := [("row", 5)]) (by rfl) sc_Group_brings.nd (kx_list (K := K) rfl (c_call (ok_covered_rows (K := K) T) hr (by omega) rfl T.g_covered_rows pass0 (pa_cons (kx_fld (K := K) rfl (pv 0) rfl) (pa_cons (pv 1) (pa_cons (pv 2) pa_nil))))) (blkOk_by (own := [("row", 5)]) (N := ["self", "i", "j", "mixture", "count", "row", "part"]) (sc := defScope s_Group_brings) (by decide +kernel)) (fun _ _ _ _ _ => (pg_name (i := 5) sc_Group_brings.nd rfl (Or.inl rfl))) (fun _ _ _ _ _ => pts_nil) (fun _ _ _ _ _ => (pe_callB (kx_sum (K := K) rfl rfl) (by rfl) T.z_sum (by decide +kernel) (pa_cons (pv 5) pa_nil)))) pa_nil)))
      (pss_one (ps_ret (pe_callTy (kx_tuple (K := K) rfl) (by rfl) T.z_tuple (by decide +kernel) (pa_cons (pe_lc (own := [("part", 6)]) (by rfl) sc_Group_brings.nd (kx_tupi (K := K) rfl (pv 3)) (blkOk_by (own := [("part", 6)]) (N := ["self", "i", "j", "mixture", "count", "row", "part"]) (sc := defScope s_Group_brings) (by decide +kernel)) (fun _ _ _ _ _ => (pg_name (i := 6) sc_Group_brings.nd rfl (Or.inl rfl))) (fun _ _ _ _ _ => pts_nil) (fun _ _ _ _ _ => (c_call (ok_mul (K := K) T) hr (by omega) rfl T.g_mul pass0 (pa_cons (pe_op op_fdiv (pe_op op_add (pe_op op_mul (pv 6) (pv 4)) pe_int) pe_int) (pa_cons (kx_fld (K := K) rfl (pv 0) rfl) pa_nil))))) pa_nil)))))), ?_⟩
  walk_at "go"
  intro v0 H1 s1 c1
  have hg1 := s1 _ _ hg
  have hlm1 := s1 _ _ hlm
  walk_at "go"
  refine ⟨G, v0, Vd.nothing, lm, us, es, i, j, rfl, c1, nothing_pre, hlm1, au.imp fun _ _ h => MemAt.grow (Grow.of s1) h, huz, ni, nj, fun v1 H2 X g2 cX pX eX => ?_⟩
  have g02 := (Grow.of (G := G) s1).trans g2
  have hg2 := g02.1 _ _ hg rfl
  have hlc2 := hlc.keep (R := ShRef K) (fun _ _ _ _ e h => ShRef.keep e h) g02.1
  walk_at "go"
  refine ⟨lc, cs, i, j, rfl, hlc2, by omega, ni, nj, fun H3 R s3 hR hrows => ?_⟩
  obtain ⟨rs, hrs, ar⟩ := hrows
  have lr := ar.1
  rw [List.length_map, List.length_range] at lr
  have hg3 := s3 _ _ hg2
  walk_at "go"
  refine ⟨⟨_, SqL.of hrs⟩, fun D hD => lc_build walk_list (fun k y _ => y = .int (rowSum cs i j k)) (fun _ _ _ _ _ _ _ e => e) hD (fun H' e => SqL.of (e _ _ hrs)) (by omega) ?_ ?_⟩
  · rintro k x H4 H5 F B hk s4 ⟨rfl, hx⟩ hF
    obtain ⟨f, hf, ra, rfl, hra⟩ := ar.get hx
    have k16 : k < 16 := by omega
    rw [List.getElem?_map, List.getElem?_range k16] at hf
    cases hf
    have hra4 := s4 _ _ hra
    walk_at "go"
    refine ⟨ra, (List.range 16).map (inI cs i j k), rfl, SqL.of (by rw [hra4, lineV_ints]), ?_⟩
    exact hF _ _ (Same.refl _) rfl
  · intro H4 ys s4 hy hl hoo
    have ey : ys = ((List.range 16).map (rowSum cs i j)).map V.int := by
      rw [List.map_map]
      refine eq_map (by rw [hl, lr, List.length_range]) fun k y x h1 h2 => ?_
      have lk : k < 16 := by
        have := (List.getElem?_eq_some_iff.mp h2).1
        rwa [List.length_range] at this
      rw [List.getElem?_range lk] at h2
      cases h2
      exact hoo k y h1
    rw [ey] at hy
    have tot := cnt_all cs i j 16
    have le := cnt_le cs i j 256
    have hg4 := s4 _ _ hg3
    obtain ⟨tX, rfl, htX⟩ := cX
    have tX4 := s4 _ _ (s3 _ _ htX)
    walk_at "go"
    refine ⟨D, _, rfl, SqL.of hy, ?_⟩
    rw [tot]
    replace le : cntTo cs i j (16 * 16) ≤ 256 := le
    walk_at "go"
    refine ⟨⟨_, SqT.of tX4⟩, fun D2 hD2 => lc_build walk_tup (fun k y _ => y = .int ((Vd.mul (Vd.near (partK k X * cntTo cs i j 256)) o : Nat) : Int)) (fun _ _ _ _ _ _ _ e => e) hD2 (fun H' e => SqT.of (e _ _ tX4)) (by show 4 < 1000000; decide) ?_ ?_⟩
    · rintro k x H5 H6 F B hk s5 ⟨rfl, hx⟩ hF
      have k4 : k < 4 := hk
      obtain rfl : V.int (partK k X : Int) = x := Option.some.inj ((colV_at k4).symm.trans hx)
      have hg5 := s5 _ _ hg4
      have pk : partK k X ≤ 255 := by
        obtain ⟨a1, a2, a3, a4⟩ := pX.sml
        match k, k4 with
        | 0, _ => exact a1
        | 1, _ => exact a2
        | 2, _ => exact a3
        | 3, _ => exact a4
      have pm : (partK k X : Int) * (cntTo cs i j (16 * 16) : Int) = ((partK k X * cntTo cs i j 256 : Nat) : Int) := (Int.natCast_mul _ _).symm
      have pz : partK k X * cntTo cs i j 256 ≤ 255 * 256 := Nat.mul_le_mul pk le
      have wz : -(2 ^ 64) < ((partK k X : Int) * (cntTo cs i j (16 * 16) : Int) + 128) / 256 ∧ ((partK k X : Int) * (cntTo cs i j (16 * 16) : Int) + 128) / 256 < 2 ^ 64 := by
        rw [pm]
        omega
      walk_at "go"
      refine hF _ _ (Same.refl _) (congrArg V.int ?_)
      show mulI (((partK k X : Int) * (cntTo cs i j (16 * 16) : Int) + 128) / 256) o = _
      rw [pm]
      exact mulI_nat (Vd.near (partK k X * cntTo cs i j 256)) o
    · intro H5 ys s5 hy hl hoo
      have ey : ys = colV (Vd.grouped i j cs o X) := colV_ext hl fun k y hy => by
        have lk : k < 4 := by
          have := (List.getElem?_eq_some_iff.mp hy).1
          rw [hl] at this
          exact this
        rw [hoo k y hy]
        match k, lk with
        | 0, _ => rfl
        | 1, _ => rfl
        | 2, _ => rfl
        | 3, _ => rfl
      rw [ey] at hy
      walk_at "go"
      refine ⟨D2, _, rfl, .inl ⟨SqL.of hy, fun t ht => ?_⟩⟩
      have sn := Same.new (o := .tup (colV (Vd.grouped i j cs o X))) ht
      refine q _ _ (Vd.grouped i j cs o X) (g02.trans (Grow.of (((s3.trans s4).trans s5).trans sn))) ⟨t, rfl, upd_same⟩ (grouped_pre ho pX) fun rest c l => ?_
      rw [ee]
      show painted i j (((es.map Prod.fst).flatten ++ [.ends cs o how]) ++ rest) (Vd.nothing :: c :: l) = _
      rw [List.append_assoc, eX]
      rfl
theorem ok_false {x qual : Str} {st : Stmt} {f : Addr} {N ps : List Str} {k : Nat} (F : ∃ fd, FunD K x qual (defArgs st) (defBody st) (defScope st) [] [] f fd) (S : FnScope N ps (defScope st)) (b : BindAll x qual st ps) :
    Ok P w K mg base CX0 (k + 1) f ps (fun _ _ _ _ => False) := mk_ok F S b (fun _ _ _ _ h => h.elim) fun _ _ _ _ _ _ _ _ _ h => h.elim
theorem onto_all (T : Txt K mg) : ∀ n, Ok P w K mg base CX0 (2 * n + 6) (He.fAd K ("members_onto", none)) ["ground", "members", "i", "j"] (spOnto K n)
  | 0 => onto_of T 0 ((ok_false (k := 4) T.f_Group_brings sc_Group_brings bd_Group_brings).imp fun vs H Q E h => by
    obtain ⟨_, _, _, _, _, _, n0, _⟩ := h
    exact n0 rfl)
  | n + 1 => onto_of T (n + 1) (grp_of T n (onto_all T n))
end
end Pd
end
section
set_option Elab.async false
set_option linter.all false
set_option maxRecDepth 100000
set_option maxHeartbeats 4000000
namespace Pd
open PySem PySem.Spec PyProof.Rows L2
local macro_rules | `(tactic| walk_at "at") => `(tactic| first
  | assumption
  | exact upd_same
  | (refine (show Same _ _ by assumption) _ _ ?_; walk_at "at")
  | (refine (show But _ _ _ by assumption) _ _ (by assumption) ?_; assumption)
  | (refine Same.new (by assumption) _ _ ?_; walk_at "at")
  | (refine (upd_ne (ne_of (by assumption) (by assumption) (by intro z; cases z))).trans ?_; walk_at "at"))
local macro_rules | `(tactic| walk_at "go") => `(tactic| repeat (first
  | refine ⟨_, rfl, ?_⟩
  | refine ⟨_, _, rfl, rfl, ?_⟩
  | refine ⟨_, _, rfl, ?_⟩
  | refine ⟨_, _, _, rfl, ?_⟩
  | refine And.intro rfl ?_
  | refine And.intro (Or.inl ⟨by decide, by decide⟩) ?_
  | refine And.intro (Or.inr ⟨by decide, by decide⟩) ?_
  | refine And.intro ⟨by decide, by decide⟩ ?_
  | refine And.intro (Or.inl ⟨by omega, by omega⟩) ?_
  | refine And.intro (Or.inr ⟨by omega, by omega⟩) ?_
  | refine And.intro ⟨by omega, by omega⟩ ?_
  | refine And.intro trivial ?_
  | refine And.intro (by omega) ?_
  | refine And.intro (sz (Nat.le_of_ble_eq_true rfl)) ?_
  | refine And.intro (Or.inl ⟨rfl, _, SqL.of (by walk_at "at")⟩) ?_
  | refine ⟨_, _, _, _, rfl, rfl, SqT.of (by walk_at "at"), (by rfl), ?_⟩
  | refine ⟨_, _, _, _, rfl, rfl, SqL.of (by walk_at "at"), (by rfl), ?_⟩
  | refine ⟨_, _, _, _, _, rfl, (by walk_at "at"), (by assumption), (by assumption), Lk.h, ?_⟩
  | refine ⟨_, _, _, rfl, rfl, (by walk_at "at"), ?_⟩
  | refine ⟨_, _, _, rfl, (by walk_at "at"), LkN.h, ?_⟩
  | refine ⟨_, _, _, _, rfl, (by walk_at "at"), (by assumption), (by assumption), (by apply few_lt; decide), ?_⟩
  | refine ⟨_, _, (by walk_at "at"), (by apply few_lt; decide), ?_⟩
  | refine ⟨_, _, rfl, Or.inl (SqL.of (by walk_at "at")), ?_⟩))
open Vd (painted)
section
variable {P : Program} {w : World} {K : PySem.W.Frag} {mg : Str → Option Value} {base : Heap}
theorem sc_Group_init : FnScope ["self", "members", "clips", "opacity", "how"] ["self", "members", "clips", "opacity", "how"] (defScope s_Group_init) := ⟨rfl, rfl, rfl, by decide +kernel, rfl, by decide +kernel, by decide +kernel⟩
theorem bd_Group_init : BindAll "__init__" "Group.__init__" s_Group_init ["self", "members", "clips", "opacity", "how"] := fun _ _ _ _ _ _ us hl => match us, hl with | [_, _, _, _, _], _ => rfl
theorem ok_Group_init (T : Txt K mg) : Ok P w K mg base CX0 1 (He.fAd K ("Group", some "__init__")) ["self", "members", "clips", "opacity", "how"] (fun vs H Q _ => ∃ (p dx : Addr) (u1 u2 u3 u4 : V), vs = [.ref p, u1, u2, u3, u4] ∧ H p = some (.ins (He.ga K "Group") dx []) ∧ Made K "Group" p dx (fl_Group u1 u2 u3 u4) H Q) := by
  refine mk_ok T.f_Group_init sc_Group_init bd_Group_init (fun _ _ _ _ ⟨_, _, _, _, _, _, e, _⟩ => by rw [e]; rfl) fun cdv A outer s H vs Q E hr h => ?_
  obtain ⟨p, dx, u1, u2, u3, u4, rfl, hp, q⟩ := h
  have fc_Group := T.c_Group
  have fc_Layer := T.c_Layer
  have fc_Mark := T.c_Mark
  have fc_Pictured := T.c_Pictured
  have fc_Shade := T.c_Shade
  have fn_Group_clips := T.n_Group_clips
  have fn_Group_how := T.n_Group_how
  have fn_Group_members := T.n_Group_members
  have fn_Group_opacity := T.n_Group_opacity
  have fn_Layer_clips := T.n_Layer_clips
  have fn_Layer_how := T.n_Layer_how
  have fn_Layer_members := T.n_Layer_members
  have fn_Layer_opacity := T.n_Layer_opacity
  have fn_Mark_how := T.n_Mark_how
  have fn_Pictured_how := T.n_Pictured_how
  have fn_Shade_how := T.n_Shade_how
  refine ⟨_, (pss_cons (kx_sfld (K := K) rfl (pv 0) (pv 1) rfl)
      (pss_cons (kx_sfld (K := K) rfl (pv 0) (pv 2) rfl)
      (pss_cons (kx_sfld (K := K) rfl (pv 0) (pv 3) rfl)
      (pss_one (kx_sfld (K := K) rfl (pv 0) (pv 4) rfl))))), ?_⟩
  walk_at "go"
  rw [new_Group]
  exact q _ (((But.trans But.at_ But.at_).trans But.at_).trans But.at_) upd_same
theorem sc_dot_of : FnScope ["members", "ground", "i", "j", "at_first", "shown"] ["members", "ground", "i", "j"] (defScope s_dot_of) := ⟨rfl, rfl, rfl, by decide +kernel, rfl, by decide +kernel, by decide +kernel⟩
theorem bd_dot_of : BindAll "dot_of" "dot_of" s_dot_of ["members", "ground", "i", "j"] := fun _ _ _ _ _ _ us hl => match us, hl with | [_, _, _, _], _ => rfl
theorem ok_dot_of (T : Txt K mg) : Ok P w K mg base CX0 23 (He.fAd K ("dot_of", none)) ["members", "ground", "i", "j"] (fun vs H Q _ => ∃ (G : Gh) (lm : Addr) (us : List V) (es : List Ent) (gr : Nat) (i j : Int), vs = [.ref lm, .int (gr : Int), .int i, .int j] ∧ gr < 16777216 ∧ H lm = some (.lst us) ∧ All (MemAt K G H 8) us es ∧ us.length ≤ 40 ∧ NearD i ∧ NearD j ∧
    ∀ H', Grow G H H' → Q (.int (Wrvdot.told (Vd.dot (es.map Prod.fst).flatten (Vd.colOf gr) i j) : Nat)) H') := by
  refine mk_ok T.f_dot_of sc_dot_of bd_dot_of (fun _ _ _ _ ⟨_, _, _, _, _, _, _, e, _⟩ => by rw [e]; rfl) fun cdv A outer s H vs Q E hr h => ?_
  obtain ⟨G, lm, us, es, gr, i, j, rfl, hgr, hlm, au, hz, ni, nj, q⟩ := h
  refine ⟨_, (pss_cons (ps_set (i := 4) sc_dot_of.nd rfl (Or.inl rfl) (pe_tup (pa_cons (pe_op op_mod (pv 1) pe_int) (pa_cons (pe_op op_mod (pe_op op_fdiv (pv 1) pe_int) pe_int) (pa_cons (pe_op op_fdiv (pv 1) pe_int) (pa_cons pe_int pa_nil))))))
      (pss_cons (ps_set (i := 5) sc_dot_of.nd rfl (Or.inl rfl) (c_call (onto_all (K := K) T 8) hr (by decide) rfl T.g_members_onto pass0 (pa_cons (pv 4) (pa_cons (pv 0) (pa_cons (pv 2) (pa_cons (pv 3) pa_nil))))))
      (pss_one (ps_ret (pe_op op_add (pe_op op_add (pe_ix (kx_ixt (K := K) rfl) (pv 5) pe_int (fun _ _ => rfl)) (pe_op op_mul pe_int (pe_ix (kx_ixt (K := K) rfl) (pv 5) pe_int (fun _ _ => rfl)))) (pe_op op_mul pe_int (pe_ix (kx_ixt (K := K) rfl) (pv 5) pe_int (fun _ _ => rfl)))))))), ?_⟩
  walk_at "go"
  intro t ht
  have s1 := Same.new (o := .tup [.int (gr % 256 : Int), .int (gr / 256 % 256 : Int), .int (gr / 65536 : Int), .int 255]) ht
  have t1 : (upd H t (.tup [.int (gr % 256 : Int), .int (gr / 256 % 256 : Int), .int (gr / 65536 : Int), .int 255])) t = _ := upd_same
  walk_at "go"
  generalize upd H t (.tup [.int (gr % 256 : Int), .int (gr / 256 % 256 : Int), .int (gr / 65536 : Int), .int 255]) = H1 at s1 t1
  have e3 : (gr : Int) / 65536 = ((gr / 65536 % 256 : Nat) : Int) := by omega
  have c1 : ColAt H1 (.ref t) ⟨(Vd.colOf gr).r, (Vd.colOf gr).g, (Vd.colOf gr).b, 255⟩ := ⟨t, rfl, by
    rw [t1, e3]
    rfl⟩
  have pc : Pre ⟨(Vd.colOf gr).r, (Vd.colOf gr).g, (Vd.colOf gr).b, 255⟩ := by
    obtain ⟨a, b, c, _⟩ := colOf_sml gr
    exact ⟨a, b, c, Nat.le_refl _⟩
  refine ⟨G, _, _, lm, us, es, i, j, rfl, c1, pc, s1 _ _ hlm, au.imp fun _ _ h => MemAt.grow (Grow.of s1) h, hz, ni, nj, fun v2 H2 X g2 cX pX eX => ?_⟩
  obtain ⟨tX, rfl, htX⟩ := cX
  have ed : Vd.dot (es.map Prod.fst).flatten (Vd.colOf gr) i j = X := by
    unfold Vd.dot
    have := eX [] []
    rw [List.append_nil] at this
    rw [this]
    rfl
  rw [ed] at q
  walk_at "go"
  refine qi_of ?_ (q H2 ((Grow.of s1).trans g2))
  unfold Wrvdot.told
  simp only [Int.natCast_add, Int.natCast_mul]
  rfl
end
end Pd
end
section
set_option Elab.async false
set_option linter.all false
set_option maxRecDepth 100000
set_option maxHeartbeats 4000000
namespace Pd
open PySem PySem.Spec PyProof.Rows L2
local macro_rules | `(tactic| walk_at "at") => `(tactic| first
  | assumption
  | exact upd_same
  | (refine (show Same _ _ by assumption) _ _ ?_; walk_at "at")
  | (refine (show But _ _ _ by assumption) _ _ (by assumption) ?_; assumption)
  | (refine Same.new (by assumption) _ _ ?_; walk_at "at")
  | (refine (upd_ne (ne_of (by assumption) (by assumption) (by intro z; cases z))).trans ?_; walk_at "at"))
local macro_rules | `(tactic| walk_at "go") => `(tactic| repeat (first
  | refine ⟨_, rfl, ?_⟩
  | refine ⟨_, _, rfl, rfl, ?_⟩
  | refine ⟨_, _, rfl, ?_⟩
  | refine ⟨_, _, _, rfl, ?_⟩
  | refine And.intro rfl ?_
  | refine And.intro (Or.inl ⟨by decide, by decide⟩) ?_
  | refine And.intro (Or.inr ⟨by decide, by decide⟩) ?_
  | refine And.intro ⟨by decide, by decide⟩ ?_
  | refine And.intro (Or.inl ⟨by omega, by omega⟩) ?_
  | refine And.intro (Or.inr ⟨by omega, by omega⟩) ?_
  | refine And.intro ⟨by omega, by omega⟩ ?_
  | refine And.intro trivial ?_
  | refine And.intro (by omega) ?_
  | refine And.intro (sz (Nat.le_of_ble_eq_true rfl)) ?_
  | refine And.intro (Or.inl ⟨rfl, _, SqL.of (by walk_at "at")⟩) ?_
  | refine ⟨_, _, _, _, rfl, rfl, SqT.of (by walk_at "at"), (by rfl), ?_⟩
  | refine ⟨_, _, _, _, rfl, rfl, SqL.of (by walk_at "at"), (by rfl), ?_⟩
  | refine ⟨_, _, _, _, _, rfl, (by walk_at "at"), (by assumption), (by assumption), Lk.h, ?_⟩
  | refine ⟨_, _, _, rfl, rfl, (by walk_at "at"), ?_⟩
  | refine ⟨_, _, _, rfl, (by walk_at "at"), LkN.h, ?_⟩
  | refine ⟨_, _, _, _, rfl, (by walk_at "at"), (by assumption), (by assumption), (by apply few_lt; decide), ?_⟩
  | refine ⟨_, _, (by walk_at "at"), (by apply few_lt; decide), ?_⟩
  | refine ⟨_, _, rfl, Or.inl (SqL.of (by walk_at "at")), ?_⟩))
/-! ### a heap without what changes -/
def hide (M : List Addr) (H : Hp) : Hp := fun a => if a ∈ M then none else H a
theorem hide_at {M : List Addr} {H : Hp} {a : Addr} (h : a ∉ M) : hide M H a = H a := if_neg h
theorem hide_in {M : List Addr} {H : Hp} {a : Addr} (h : a ∈ M) : hide M H a = none := if_pos h
theorem hide_some {M : List Addr} {H : Hp} {a : Addr} {o : HO} (h : hide M H a = some o) : a ∉ M ∧ H a = some o := by
  unfold hide at h
  split at h
  · cases h
  · exact ⟨‹_›, h⟩
theorem hide_sub (M : List Addr) (H : Hp) : Same (hide M H) H := fun a o h => (hide_some h).2
theorem hide_upd {M : List Addr} {H : Hp} {p : Addr} {o : HO} (h : p ∈ M) : hide M (upd H p o) = hide M H := by
  funext a
  unfold hide
  split
  · rfl
  · rename_i n
    rw [upd_ne (fun e => n (by rw [e]; exact h))]
theorem hide_same {M : List Addr} {H H' : Hp} (s : Same H H') : Same (hide M H) (hide M H') := fun a o h => by
  obtain ⟨n, e⟩ := hide_some h
  rw [hide_at n]
  exact s _ _ e
/-- what changes afterwards changed ahead or was not there -/
theorem hide_step {M M' : List Addr} {H H' : Hp} (s : ∀ a o, a ∉ M → H a = some o → H' a = some o) (f : ∀ a ∈ M', a ∈ M ∨ H a = none) : Same (hide M H) (hide M' H') := fun a o h => by
  obtain ⟨n, e⟩ := hide_some h
  rw [hide_at (fun m => by
    rcases f a m with z | z
    · exact n z
    · rw [z] at e; cases e)]
  exact s a o n e
/-! ### labels of dicts, more of them -/
section
variable {K : PySem.W.Frag} {G G' : Gh} {H : Hp}
theorem ShadeAt.rg {v : V} {how : Nat} {l : List Vd.Stop} (e : ∀ a, H a ≠ none → G' a = G a) (h : ShadeAt K G H v how l) : ShadeAt K G' H v how l := by
  obtain ⟨p, dx, ls, d, a, b, c, g, f, k⟩ := h
  refine ⟨p, dx, ls, d, a, b, c, ?_, f, k⟩
  obtain ⟨kvs, hd, _⟩ := f
  rw [e d (by rw [hd]; intro z; cases z)]
  exact g
theorem PaintAt.rg {v : V} {p : Vd.Paint} (e : ∀ a, H a ≠ none → G' a = G a) (h : PaintAt K G H v p) : PaintAt K G' H v p := by
  cases p with
  | plain c => exact h
  | linear a b how l =>
    obtain ⟨p, dx, sv, x, f, n1, n2, s⟩ := h
    exact ⟨p, dx, sv, x, f, n1, n2, s.rg e⟩
  | radial m r how l =>
    obtain ⟨p, dx, sv, x, f, n1, n2, s⟩ := h
    exact ⟨p, dx, sv, x, f, n1, n2, s.rg e⟩
  | picture pic m how s => exact h
theorem MemAt.rg (e : ∀ a, H a ≠ none → G' a = G a) : ∀ {n : Nat} {v : V} {x : Ent}, MemAt K G H n v x → MemAt K G' H n v x
  | 0, v, x, ⟨z, cs, p, how, ⟨m, dx, ls, qv, a, b, c, d, f⟩, y⟩ => ⟨z, cs, p, how, ⟨m, dx, ls, qv, a, b, c, d.rg e, f⟩, y⟩
  | n + 1, v, x, .inl ⟨z, cs, p, how, ⟨m, dx, ls, qv, a, b, c, d, f⟩, y⟩ => .inl ⟨z, cs, p, how, ⟨m, dx, ls, qv, a, b, c, d.rg e, f⟩, y⟩
  | n + 1, v, x, .inr ⟨q, dx, lm, lc, vs, es, cs, o, how, a, b, c, d, r⟩ => .inr ⟨q, dx, lm, lc, vs, es, cs, o, how, a, b, c, d.imp fun _ _ h => MemAt.rg e h, r⟩
end
/-! ### the state -/
/-- a layer: itself, its list of members, its list of clips; its members, what they stand for -/
structure Lay where
  a : Addr
  lm : Addr
  lc : Addr
  us : List V
  es : List Ent
def entsOf (l : Lay) : List Vd.Entry := (l.es.map Prod.fst).flatten
def LayH (K : PySem.W.Frag) (G : Gh) (M : List Addr) (H : Hp) (l : Lay) (o how : Nat) (clips : List Vd.Shape) (d : Nat) : Prop :=
  (∃ dx, hide M H l.a = some (.ins (He.ga K "Layer") dx (fl_Layer (.int (o : Int)) (.int (how : Int)) (.ref l.lm) (.ref l.lc)))) ∧ H l.lm = some (.lst l.us) ∧ All (MemAt K G (hide M H) d) l.us l.es ∧
  (∃ vs, H l.lc = some (.lst vs) ∧ All (ShRef K (hide M H)) vs clips) ∧ clips.length ≤ 4 ∧ o ≤ 255 ∧ how ≤ 7
/-- the layers, the innermost first -/
def LaysAt (K : PySem.W.Frag) (G : Gh) (M : List Addr) (H : Hp) : List Lay → List Wrvdot.Level → List Vd.Shape → List Vd.Entry → Prop
  | [l], [], page, list => (∃ o how, LayH K G M H l o how page 8) ∧ list = entsOf l
  | l :: k :: ls, v :: vs, page, list => LayH K G M H l v.opacity v.how v.clips (7 - vs.length) ∧ ∃ list', list = list' ++ (.begins :: entsOf l) ∧ LaysAt K G M H (k :: ls) vs page list'
  | _, _, _, _ => False
structure Cv where
  dx : Addr
  Lp : Addr
  La : Addr
  Ll : Addr
  lays : List Lay
def Cv.own (c : Cv) (cv : Addr) : List Addr := cv :: c.Lp :: c.La :: c.Ll :: c.lays.flatMap fun l => [l.lm, l.lc]
def memCount (ls : List Lay) : Nat := (ls.map fun l => l.us.length).sum
def isT : HO → Bool
  | .tup _ => true
  | _ => false
structure CanvasAt (K : PySem.W.Frag) (G : Gh) (X : List Addr) (H : Hp) (cv : Addr) (c : Cv) (s : Wrvdot.State) : Prop where
  obj : H cv = some (.ins (He.ga K "Canvas") c.dx (fl_Canvas (.ref c.Lp) (.ref c.La) (.ref c.Ll) (.int (s.marks : Int)) (.int (s.pieces : Int))))
  pics : ∃ vs, H c.Lp = some (.lst vs) ∧ All (PicAt K (hide (X ++ c.own cv) H)) vs s.pictures
  paints : ∃ vs, H c.La = some (.lst vs) ∧ All (PaintAt K G (hide (X ++ c.own cv) H)) vs s.paints
  lst : H c.Ll = some (.lst (c.lays.map fun l => V.ref l.a).reverse)
  lays : LaysAt K G (X ++ c.own cv) H c.lays s.levels s.page s.list
  nd : (c.own cv).Nodup
  xs : ∀ a ∈ X, a ∉ c.own cv ∧ ∃ o, H a = some o ∧ isT o = false ∧ isD o = false
  few : s.pictures.length ≤ 8 ∧ Wrvdot.colours s ≤ 1024 ∧ s.paints.length ≤ 32 ∧ s.marks ≤ 32 ∧ s.pieces ≤ 256 ∧ s.levels.length ≤ 8 ∧ memCount c.lays + s.levels.length ≤ s.marks
theorem LayH.go {K : PySem.W.Frag} {G G' : Gh} {M M' : List Addr} {H H' : Hp} {l : Lay} {o how d : Nat} {clips : List Vd.Shape} (e : ∀ a, hide M H a ≠ none → G' a = G a) (g : Grow G' (hide M H) (hide M' H')) (e1 : H' l.lm = H l.lm) (e2 : H' l.lc = H l.lc) (h : LayH K G M H l o how clips d) : LayH K G' M' H' l o how clips d := by
  obtain ⟨⟨dx, a⟩, b, c, ⟨vs, f, k⟩, r⟩ := h
  exact ⟨⟨dx, g.1 _ _ a rfl⟩, e1.trans b, c.imp fun _ _ h => MemAt.grow g (MemAt.rg e h), ⟨vs, e2.trans f, k.imp fun _ _ h => h.keep g.1⟩, r⟩
theorem LaysAt.go {K : PySem.W.Frag} {G G' : Gh} {M M' : List Addr} {H H' : Hp} (e : ∀ a, hide M H a ≠ none → G' a = G a) (g : Grow G' (hide M H) (hide M' H')) : ∀ {ls : List Lay} {vs : List Wrvdot.Level} {page : List Vd.Shape} {list : List Vd.Entry},
    (∀ l ∈ ls, H' l.lm = H l.lm ∧ H' l.lc = H l.lc) → LaysAt K G M H ls vs page list → LaysAt K G' M' H' ls vs page list
  | [l], [], page, list, k, ⟨⟨o, how, h⟩, x⟩ => ⟨⟨o, how, h.go e g (k l (by simp)).1 (k l (by simp)).2⟩, x⟩
  | l :: m :: ls, v :: vs, page, list, k, ⟨h, list', x, t⟩ => ⟨h.go e g (k l (by simp)).1 (k l (by simp)).2, list', x, LaysAt.go e g (fun q mq => k q (List.mem_cons_of_mem _ mq)) t⟩
  | [], [], _, _, _, h => h
  | [], _ :: _, _, _, _, h => h
  | [_], _ :: _, _, _, _, h => h
  | _ :: _ :: _, [], _, _, _, h => h
theorem Grow.refl' {G : Gh} {H H' : Hp} (e : H = H') : Grow G H H' := e ▸ Grow.refl G H
theorem LaysAt.each {K : PySem.W.Frag} {G : Gh} {M : List Addr} {H : Hp} : ∀ {ls : List Lay} {vs : List Wrvdot.Level} {page : List Vd.Shape} {list : List Vd.Entry}, LaysAt K G M H ls vs page list → ∀ l ∈ ls, ∃ o how clips d, LayH K G M H l o how clips d
  | [l], [], page, list, ⟨⟨o, how, h⟩, _⟩, q, m => by
    rw [List.mem_singleton.mp m]
    exact ⟨o, how, _, _, h⟩
  | l :: k :: ls, v :: vs, page, list, ⟨h, list', _, t⟩, q, m => by
    rcases List.mem_cons.mp m with z | z
    · rw [z]
      exact ⟨_, _, _, _, h⟩
    · exact LaysAt.each t q z
  | [], [], _, _, h, _, _ => h.elim
  | [], _ :: _, _, _, h, _, _ => h.elim
  | [_], _ :: _, _, _, h, _, _ => h.elim
  | _ :: _ :: _, [], _, _, h, _, _ => h.elim
/-- the state stands where what it hides alone changes, but its own -/
theorem CanvasAt.keep {K : PySem.W.Frag} {G : Gh} {X X' : List Addr} {H H' : Hp} {cv : Addr} {c : Cv} {s : Wrvdot.State} (g : Grow G (hide (X ++ c.own cv) H) (hide (X' ++ c.own cv) H')) (e : ∀ a ∈ c.own cv, H' a = H a)
    (xs : ∀ a ∈ X', a ∉ c.own cv ∧ ∃ o, H' a = some o ∧ isT o = false ∧ isD o = false) (h : CanvasAt K G X H cv c s) : CanvasAt K G X' H' cv c s := by
  obtain ⟨o, ⟨v1, p1, p2⟩, ⟨v2, q1, q2⟩, l, ls, nd, _, few⟩ := h
  have m : cv ∈ c.own cv ∧ c.Lp ∈ c.own cv ∧ c.La ∈ c.own cv ∧ c.Ll ∈ c.own cv := by simp [Cv.own]
  have m2 : ∀ l ∈ c.lays, l.lm ∈ c.own cv ∧ l.lc ∈ c.own cv := by
    intro l hl
    unfold Cv.own
    simp only [List.mem_cons, List.mem_flatMap]
    exact ⟨.inr (.inr (.inr (.inr ⟨l, hl, by simp⟩))), .inr (.inr (.inr (.inr ⟨l, hl, by simp⟩)))⟩
  exact ⟨by rw [e _ m.1]; exact o, ⟨v1, by rw [e _ m.2.1]; exact p1, p2.imp fun _ _ h => h.keep g.1⟩, ⟨v2, by rw [e _ m.2.2.1]; exact q1, q2.imp fun _ _ h => h.grow g⟩, by rw [e _ m.2.2.2]; exact l,
    ls.go (fun _ _ => rfl) g (fun l hl => ⟨e _ (m2 l hl).1, e _ (m2 l hl).2⟩), nd, xs, few⟩
/-- what the state owns: lists, the canvas -/
theorem CanvasAt.owns {K : PySem.W.Frag} {G : Gh} {X : List Addr} {H : Hp} {cv : Addr} {c : Cv} {s : Wrvdot.State} (h : CanvasAt K G X H cv c s) : ∀ a ∈ c.own cv, ∃ o, H a = some o ∧ isT o = false ∧ isD o = false := by
  obtain ⟨o, ⟨v1, p1, p2⟩, ⟨v2, q1, q2⟩, l, ls, nd, _, few⟩ := h
  intro a ha
  unfold Cv.own at ha
  simp only [List.mem_cons, List.mem_flatMap, List.not_mem_nil, or_false] at ha
  rcases ha with e | e | e | e | ⟨q, hq, e⟩
  · exact ⟨_, by rw [e]; exact o, rfl, rfl⟩
  · exact ⟨_, by rw [e]; exact p1, rfl, rfl⟩
  · exact ⟨_, by rw [e]; exact q1, rfl, rfl⟩
  · exact ⟨_, by rw [e]; exact l, rfl, rfl⟩
  · obtain ⟨o, how, clips, d, _, b, _, ⟨vs, f, _⟩, _⟩ := ls.each q hq
    rcases e with e | e
    · exact ⟨_, by rw [e]; exact b, rfl, rfl⟩
    · exact ⟨_, by rw [e]; exact f, rfl, rfl⟩
theorem CanvasAt.same {K : PySem.W.Frag} {G : Gh} {X : List Addr} {H H' : Hp} {cv : Addr} {c : Cv} {s : Wrvdot.State} (e : Same H H') (h : CanvasAt K G X H cv c s) : CanvasAt K G X H' cv c s := by
  refine h.keep (Grow.of (hide_same e)) (fun a ha => ?_) fun a ha => ?_
  · obtain ⟨o, k, _⟩ := h.owns a ha
    rw [k, e _ _ k]
  · obtain ⟨n, o, k, t⟩ := h.xs a ha
    exact ⟨n, o, e _ _ k, t⟩
/-- what is new is not hidden; a tuple neither -/
theorem CanvasAt.fresh {K : PySem.W.Frag} {G : Gh} {X : List Addr} {H : Hp} {cv : Addr} {c : Cv} {s : Wrvdot.State} (h : CanvasAt K G X H cv c s) {a : Addr} (f : H a = none) : a ∉ X ++ c.own cv := fun m => by
  rcases List.mem_append.mp m with z | z
  · obtain ⟨_, o, k, _⟩ := h.xs a z
    rw [f] at k
    cases k
  · obtain ⟨o, k, _⟩ := h.owns a z
    rw [f] at k
    cases k
theorem CanvasAt.tups {K : PySem.W.Frag} {G : Gh} {X : List Addr} {H : Hp} {cv : Addr} {c : Cv} {s : Wrvdot.State} (h : CanvasAt K G X H cv c s) {a : Addr} {xs : List V} (f : H a = some (.tup xs)) : a ∉ X ++ c.own cv := fun m => by
  rcases List.mem_append.mp m with z | z
  · obtain ⟨_, o, k, t, _⟩ := h.xs a z
    rw [f] at k
    cases k
    cases t
  · obtain ⟨o, k, t, _⟩ := h.owns a z
    rw [f] at k
    cases k
    cases t
/-- no tuple is hidden -/
def NoT (M : List Addr) (H : Hp) : Prop := ∀ a xs, H a = some (.tup xs) → a ∉ M
theorem CanvasAt.noT {K : PySem.W.Frag} {G : Gh} {X : List Addr} {H : Hp} {cv : Addr} {c : Cv} {s : Wrvdot.State} (h : CanvasAt K G X H cv c s) : NoT (X ++ c.own cv) H := fun _ _ f => h.tups f
section
variable {M : List Addr} {H : Hp} (n : NoT M H)
include n
theorem TupI.hid {v : V} {xs : List Int} (h : TupI H v xs) : TupI (hide M H) v xs := let ⟨t, a, b⟩ := h; ⟨t, a, (hide_at (n _ _ b)).trans b⟩
theorem ColAt.hid {v : V} {c : Vd.Col} (h : ColAt H v c) : ColAt (hide M H) v c := let ⟨t, a, b⟩ := h; ⟨t, a, (hide_at (n _ _ b)).trans b⟩
theorem StAt.hid {v : V} {s : Vd.Stop} (h : StAt H v s) : StAt (hide M H) v s := let ⟨t, c, a, b, d⟩ := h; ⟨t, c, a, (hide_at (n _ _ b)).trans b, d.hid n⟩
theorem ShapeW.hid {K : PySem.W.Frag} {p ls ll : Addr} {s : Vd.Shape} (h : ShapeW K H p ls ll s) (h1 : p ∉ M) (h2 : ls ∉ M) (h3 : ll ∉ M) : ShapeAt K (hide M H) p s :=
  let ⟨⟨dx, a⟩, ⟨v1, b, b2⟩, ⟨v2, c, c2⟩, d⟩ := h
  ⟨dx, ls, ll, (hide_at h1).trans a, ⟨v1, (hide_at h2).trans b, b2.imp fun _ _ h => TupI.hid n h⟩, ⟨v2, (hide_at h3).trans c, c2.imp fun _ _ h => TupI.hid n h⟩, d⟩
theorem DOk.hid {d : Addr} {l : List Vd.Stop} (h : DOk H d l) (hd : d ∉ M) : DOk (hide M H) d l := let ⟨kvs, a, b, c, e⟩ := h; ⟨kvs, (hide_at hd).trans a, b, c, fun m v hv => (e m v hv).hid n⟩
end
section
variable {P : Program} {w : World} {K : PySem.W.Frag} {mg : Str → Option Value} {base : Heap}
theorem sc_Layer_init : FnScope ["self", "opacity", "how"] ["self", "opacity", "how"] (defScope s_Layer_init) := ⟨rfl, rfl, rfl, by decide +kernel, rfl, by decide +kernel, by decide +kernel⟩
theorem bd_Layer_init : BindAll "__init__" "Layer.__init__" s_Layer_init ["self", "opacity", "how"] := fun _ _ _ _ _ _ us hl => match us, hl with | [_, _, _], _ => rfl
theorem ok_Layer_init (T : Txt K mg) : Ok P w K mg base CX0 1 (He.fAd K ("Layer", some "__init__")) ["self", "opacity", "how"] (fun vs H Q _ => ∃ (p dx : Addr) (u v : V), vs = [.ref p, u, v] ∧ H p = some (.ins (He.ga K "Layer") dx []) ∧
    ∀ H' lm lc, But p H H' → H lm = none → H lc = none → lm ≠ lc → H' lm = some (.lst []) → H' lc = some (.lst []) → H' p = some (.ins (He.ga K "Layer") dx (fl_Layer u v (.ref lm) (.ref lc))) → Q .non H') := by
  refine mk_ok T.f_Layer_init sc_Layer_init bd_Layer_init (fun _ _ _ _ ⟨_, _, _, _, e, _⟩ => by rw [e]; rfl) fun cdv A outer s H vs Q E hr h => ?_
  obtain ⟨p, dx, u, v, rfl, hp, q⟩ := h
  have fc_Group := T.c_Group
  have fc_Layer := T.c_Layer
  have fc_Mark := T.c_Mark
  have fc_Pictured := T.c_Pictured
  have fc_Shade := T.c_Shade
  have fn_Group_clips := T.n_Group_clips
  have fn_Group_how := T.n_Group_how
  have fn_Group_members := T.n_Group_members
  have fn_Group_opacity := T.n_Group_opacity
  have fn_Layer_clips := T.n_Layer_clips
  have fn_Layer_how := T.n_Layer_how
  have fn_Layer_members := T.n_Layer_members
  have fn_Layer_opacity := T.n_Layer_opacity
  have fn_Mark_how := T.n_Mark_how
  have fn_Pictured_how := T.n_Pictured_how
  have fn_Shade_how := T.n_Shade_how
  refine ⟨_, (pss_cons (kx_sfld (K := K) rfl (pv 0) (pv 1) rfl)
      (pss_cons (kx_sfld (K := K) rfl (pv 0) (pv 2) rfl)
      (pss_cons (kx_sfld (K := K) rfl (pv 0) (pe_lst pa_nil) rfl)
      (pss_one (kx_sfld (K := K) rfl (pv 0) (pe_lst pa_nil) rfl))))), ?_⟩
  walk_at "go"
  have b1 : But p H (upd (upd H p (.ins (He.ga K "Layer") dx (putF "opacity" u []))) p (.ins (He.ga K "Layer") dx (putF "how" v (putF "opacity" u [])))) := But.trans But.at_ But.at_
  have p1 : (upd (upd H p (.ins (He.ga K "Layer") dx (putF "opacity" u []))) p (.ins (He.ga K "Layer") dx (putF "how" v (putF "opacity" u [])))) p = some (.ins (He.ga K "Layer") dx (putF "how" v (putF "opacity" u []))) := upd_same
  generalize upd (upd H p (.ins (He.ga K "Layer") dx (putF "opacity" u []))) p (.ins (He.ga K "Layer") dx (putF "how" v (putF "opacity" u []))) = H1 at b1 p1
  intro lm hlm
  walk_at "go"
  have n1 : p ≠ lm := ne_of_none p1 hlm
  have b2 := b1.trans ((But.of (Same.new (o := .lst []) hlm)).trans (But.at_ (p := p) (o := .ins (He.ga K "Layer") dx (putF "members" (.ref lm) (putF "how" v (putF "opacity" u []))))))
  have p2 : (upd (upd H1 lm (.lst [])) p (.ins (He.ga K "Layer") dx (putF "members" (.ref lm) (putF "how" v (putF "opacity" u []))))) p = some (.ins (He.ga K "Layer") dx (putF "members" (.ref lm) (putF "how" v (putF "opacity" u [])))) := upd_same
  have m2 : (upd (upd H1 lm (.lst [])) p (.ins (He.ga K "Layer") dx (putF "members" (.ref lm) (putF "how" v (putF "opacity" u []))))) lm = some (.lst []) := by rw [upd_ne (Ne.symm n1), upd_same]
  have f1 : H lm = none := by
    cases z : H lm with
    | none => rfl
    | some o =>
      have := b1 _ _ (Ne.symm n1) z
      rw [hlm] at this
      cases this
  generalize upd (upd H1 lm (.lst [])) p (.ins (He.ga K "Layer") dx (putF "members" (.ref lm) (putF "how" v (putF "opacity" u [])))) = H2 at b2 p2 m2
  intro lc hlc
  walk_at "go"
  have n2 : p ≠ lc := ne_of_none p2 hlc
  have n3 : lm ≠ lc := ne_of_none m2 hlc
  have f2 : H lc = none := by
    cases z : H lc with
    | none => rfl
    | some o =>
      have := b2 _ _ (Ne.symm n2) z
      rw [hlc] at this
      cases this
  rw [new_Layer]
  refine q _ lm lc (b2.trans ((But.of (Same.new hlc)).trans But.at_)) f1 f2 n3 ?_ ?_ upd_same
  · rw [upd_ne (Ne.symm n1), upd_ne n3]
    exact m2
  · rw [upd_ne (Ne.symm n2), upd_same]
end
end Pd
end
section
set_option Elab.async false
set_option linter.all false
set_option maxRecDepth 100000
set_option maxHeartbeats 4000000
namespace Pd
open PySem PySem.Spec PyProof.Rows L2
local macro_rules | `(tactic| walk_at "at") => `(tactic| first
  | assumption
  | exact upd_same
  | (refine (show Same _ _ by assumption) _ _ ?_; walk_at "at")
  | (refine (show But _ _ _ by assumption) _ _ (by assumption) ?_; assumption)
  | (refine Same.new (by assumption) _ _ ?_; walk_at "at")
  | (refine (upd_ne (ne_of (by assumption) (by assumption) (by intro z; cases z))).trans ?_; walk_at "at"))
local macro_rules | `(tactic| walk_at "go") => `(tactic| repeat (first
  | refine ⟨_, rfl, ?_⟩
  | refine ⟨_, _, rfl, rfl, ?_⟩
  | refine ⟨_, _, rfl, ?_⟩
  | refine ⟨_, _, _, rfl, ?_⟩
  | refine And.intro rfl ?_
  | refine And.intro (Or.inl ⟨by decide, by decide⟩) ?_
  | refine And.intro (Or.inr ⟨by decide, by decide⟩) ?_
  | refine And.intro ⟨by decide, by decide⟩ ?_
  | refine And.intro (Or.inl ⟨by omega, by omega⟩) ?_
  | refine And.intro (Or.inr ⟨by omega, by omega⟩) ?_
  | refine And.intro ⟨by omega, by omega⟩ ?_
  | refine And.intro trivial ?_
  | refine And.intro (by omega) ?_
  | refine And.intro (sz (Nat.le_of_ble_eq_true rfl)) ?_
  | refine And.intro (Or.inl ⟨rfl, _, SqL.of (by walk_at "at")⟩) ?_
  | refine ⟨_, _, _, _, rfl, rfl, SqT.of (by walk_at "at"), (by rfl), ?_⟩
  | refine ⟨_, _, _, _, rfl, rfl, SqL.of (by walk_at "at"), (by rfl), ?_⟩
  | refine ⟨_, _, _, _, _, rfl, (by walk_at "at"), (by assumption), (by assumption), Lk.h, ?_⟩
  | refine ⟨_, _, _, rfl, rfl, (by walk_at "at"), ?_⟩
  | refine ⟨_, _, _, rfl, (by walk_at "at"), LkN.h, ?_⟩
  | refine ⟨_, _, _, _, rfl, (by walk_at "at"), (by assumption), (by assumption), (by apply few_lt; decide), ?_⟩
  | refine ⟨_, _, (by walk_at "at"), (by apply few_lt; decide), ?_⟩
  | refine ⟨_, _, rfl, Or.inl (SqL.of (by walk_at "at")), ?_⟩))
theorem rise_of : ∀ l : List (Nat × Nat), Wrvdot.rising l = true → Rise (l.map Wrvdot.stopOf) := fun l h => by
  have := (rising_is l).mp h
  unfold Rise
  rw [List.pairwise_map] at this ⊢
  exact this.imp fun h => by
    unfold Wrvdot.stopOf
    exact Int.ofNat_le.mp h
theorem stopsG_of {l : List (Nat × Nat)} (h : Wrvdot.stopsOk l = true) : StopsG (l.map Wrvdot.stopOf) := by
  unfold Wrvdot.stopsOk at h
  rw [Bool.and_eq_true, Bool.and_eq_true, Bool.and_eq_true, decide_eq_true_iff, decide_eq_true_iff, List.all_eq_true] at h
  obtain ⟨h1, h2, h3, h4⟩ := h
  refine ⟨by rw [List.length_map]; exact h1, by rw [List.length_map]; exact h2, rise_of l h4, fun s hs => ?_⟩
  obtain ⟨z, hz, rfl⟩ := List.mem_map.mp hs
  exact ⟨by have := h3 z hz; rw [decide_eq_true_iff] at this; exact this, colOf_sml _⟩
def ShadeW (K : PySem.W.Frag) (H : Hp) (p ls d : Addr) (how : Nat) (l : List Vd.Stop) : Prop := (∃ dx, H p = some (.ins (He.ga K "Shade") dx (fl_Shade (.int (how : Int)) (.ref ls) (.ref d)))) ∧ ListOf StAt H ls l ∧ DOk H d l ∧ StopsG l ∧ how ≤ 2
theorem ShadeW.hid {K : PySem.W.Frag} {G : Gh} {M : List Addr} {H : Hp} (n : NoT M H) {p ls d : Addr} {how : Nat} {l : List Vd.Stop} (h : ShadeW K H p ls d how l) (h1 : p ∉ M) (h2 : ls ∉ M) (h3 : d ∉ M) (hG : G d = l) : ShadeAt K G (hide M H) (.ref p) how l :=
  let ⟨⟨dx, a⟩, ⟨vs, b, b2⟩, c, e⟩ := h
  ⟨p, dx, ls, d, rfl, (hide_at h1).trans a, ⟨vs, (hide_at h2).trans b, b2.imp fun _ _ h => StAt.hid n h⟩, hG, c.hid n h3, e⟩
theorem ShadeW.same {K : PySem.W.Frag} {H H' : Hp} (e : Same H H') {p ls d : Addr} {how : Nat} {l : List Vd.Stop} (h : ShadeW K H p ls d how l) : ShadeW K H' p ls d how l :=
  let ⟨⟨dx, a⟩, b, c, r⟩ := h
  ⟨⟨dx, e _ _ a⟩, b.keep (R := StAt) (fun _ _ _ _ e h => StAt.keep e h) (Keep.of e), c.same e, r⟩
theorem made_same {H H' : Hp} {x dx : Addr} {o1 o2 : HO} (h1 : H x = none) (h2 : H dx = none) (b : But x (upd (upd H dx o1) x o2) H') : Same H H' := fun a o e => b a o (ne_of_none e h1) (by rw [upd_ne (ne_of_none e h1), upd_ne (ne_of_none e h2)]; exact e)
/-- a new object q, then a store at p -/
theorem own_new {H H1 : Hp} {p q : Addr} {o o' u : HO} (b : But p H H1) (hp : H1 p = some u) (hq : H1 q = none) : But p H (upd (upd H1 q o) p o') ∧ (upd (upd H1 q o) p o') q = some o ∧ (upd (upd H1 q o) p o') p = some o' ∧ H q = none ∧ q ≠ p := by
  have ne : p ≠ q := ne_of_none hp hq
  refine ⟨b.trans ((But.of (Same.new hq)).trans But.at_), by rw [upd_ne (Ne.symm ne), upd_same], upd_same, ?_, Ne.symm ne⟩
  cases z : H q with
  | none => rfl
  | some o =>
    have := b _ _ (Ne.symm ne) z
    rw [hq] at this
    cases this
section
variable {P : Program} {w : World} {K : PySem.W.Frag} {mg : Str → Option Value} {base : Heap}
theorem sc_shade_of : FnScope ["how", "stops", "place", "colour"] ["how", "stops"] (defScope s_shade_of) := ⟨rfl, rfl, rfl, by decide +kernel, rfl, by decide +kernel, by decide +kernel⟩
theorem bd_shade_of : BindAll "shade_of" "shade_of" s_shade_of ["how", "stops"] := fun _ _ _ _ _ _ us hl => match us, hl with | [_, _], _ => rfl
theorem ok_shade_of (T : Txt K mg) : Ok P w K mg base CX0 3 (He.fAd K ("shade_of", none)) ["how", "stops"] (fun vs H Q _ => ∃ (ls : Addr) (l : List (Nat × Nat)) (how : Nat), vs = [.int (how : Int), .ref ls] ∧ ListOf SpAt H ls l ∧ Wrvdot.stopsOk l = true ∧ (∀ z ∈ l, z.2 < 4294967296) ∧ how ≤ 2 ∧
    ∀ H' p ls d, Same H H' → H p = none → H ls = none → H d = none → ShadeW K H' p ls d how (l.map Wrvdot.stopOf) → Q (.ref p) H') := by
  refine mk_ok T.f_shade_of sc_shade_of bd_shade_of (fun _ _ _ _ ⟨_, _, _, e, _⟩ => by rw [e]; rfl) fun cdv A outer s H vs Q E hr h => ?_
  obtain ⟨ls, l, how, rfl, ⟨us, hls, au⟩, hok, hb, hh, q⟩ := h
  have sg := stopsG_of hok
  have sgl := sg.2.1
  rw [List.length_map] at sgl
  refine ⟨_, (pss_one (ps_ret (c_make (ok_Shade_init (K := K) T) T.k_Shade hr (by decide) rfl T.g_Shade (fun _ => pass0) (pa_cons (pv 0) (pa_cons (pe_lc (own := [("place", 2), ("colour", 3)]) (by rfl) sc_shade_of.nd (kx_list (K := K) rfl (pv 1)) (blkOk_by (own := [("place", 2), ("colour", 3)]) (N := ["how", "stops", "place", "colour"]) (sc := defScope s_shade_of) (by decide +kernel)) (fun _ _ _ _ _ => (kx_tup (K := K) (n := 2) rfl rfl (pgs_cons (pg_name (i := 2) sc_shade_of.nd rfl (Or.inl rfl)) (pgs_cons (pg_name (i := 3) sc_shade_of.nd rfl (Or.inl rfl)) pgs_nil)))) (fun _ _ _ _ _ => pts_nil) (fun _ _ _ _ _ => (pe_tup (pa_cons (pv 2) (pa_cons (c_call (ok_parts_of (K := K) T) hr (by decide) rfl T.g_parts_of pass0 (pa_cons (pv 3) pa_nil)) pa_nil))))) pa_nil))))), ?_⟩
  have lu := au.1
  walk_at "go"
  refine ⟨⟨_, SqL.of hls⟩, fun D hD => lc_build walk_list (fun n y H' => ∃ z, l[n]? = some z ∧ StAt H' y (Wrvdot.stopOf z)) ?_ hD (fun H' s1 => SqL.of (s1 _ _ hls)) (by omega) ?_ ?_⟩
  · rintro n y H1 H2 zs hz b ⟨z, e, t, c, rfl, ht, t2, rfl, ht2⟩
    exact ⟨z, e, t, _, rfl, b _ _ (ne_of ht hz (by intro z; cases z)) ht, t2, rfl, b _ _ (ne_of ht2 hz (by intro z; cases z)) ht2⟩
  · rintro n x H2 H3 F B hn s2 ⟨rfl, hx⟩ hF
    obtain ⟨z, hz, t, rfl, ht⟩ := au.get hx
    have ht2 := s2 _ _ ht
    have zb := hb z (List.mem_of_getElem? hz)
    refine ⟨t, _, rfl, SqT.of ht2, rfl, ?_⟩
    walk_at "go"
    intro v H4 s4 cv
    walk_at "go"
    intro t2 ht4
    have sn := Same.new (o := .tup [.int (z.1 : Int), v]) ht4
    exact hF _ _ (s4.trans sn) ⟨z, hz, t2, v, rfl, upd_same, cv.mono sn⟩
  · intro H2 ys s2 hy hl ho
    walk_at "go"
    intro x dx hx hdx ne
    refine ⟨x, dx, _, _, rfl, upd_same, fun H3 d b3 hd hd3 hx3 => ?_⟩
    have sx := made_same hx hdx b3
    have s03 := s2.trans sx
    have dH : H d = none := by
      cases z : H d with
      | none => rfl
      | some o =>
        have e := s2 _ _ z
        rw [upd_ne (ne_of_none e hx), upd_ne (ne_of_none e hdx), e] at hd
        cases hd
    have hls3 : ListOf StAt H3 D (l.map Wrvdot.stopOf) := by
      refine ⟨ys, sx _ _ hy, by rw [List.length_map]; omega, fun n v z hv hz => ?_⟩
      obtain ⟨z0, e0, hst⟩ := ho n v hv
      rw [List.getElem?_map, e0] at hz
      cases hz
      exact hst.keep (Keep.of sx)
    exact ⟨rfl, q H3 x D d s03 (s2.free hx) hD dH ⟨⟨dx, hx3⟩, hls3, ⟨[], hd3, List.nodup_nil, by simp, fun n v e => by cases e⟩, sg, hh⟩⟩
theorem sc_Canvas_init : FnScope ["self"] ["self"] (defScope s_Canvas_init) := ⟨rfl, rfl, rfl, by decide +kernel, rfl, by decide +kernel, by decide +kernel⟩
theorem bd_Canvas_init : BindAll "__init__" "Canvas.__init__" s_Canvas_init ["self"] := fun _ _ _ _ _ _ us hl => match us, hl with | [_], _ => rfl
theorem ok_Canvas_init (T : Txt K mg) : Ok P w K mg base CX0 3 (He.fAd K ("Canvas", some "__init__")) ["self"] (fun vs H Q _ => ∃ (p dx : Addr), vs = [.ref p] ∧ H p = some (.ins (He.ga K "Canvas") dx []) ∧
    ∀ H' G c, But p H H' → (∀ a ∈ c.own p, a = p ∨ H a = none) → CanvasAt K G [] H' p c Wrvdot.start → Q .non H') := by
  refine mk_ok T.f_Canvas_init sc_Canvas_init bd_Canvas_init (fun _ _ _ _ ⟨_, _, e, _⟩ => by rw [e]; rfl) fun cdv A outer s H vs Q E hr h => ?_
  obtain ⟨p, dx, rfl, hp, q⟩ := h
  have fc_Canvas := T.c_Canvas
  have fn_Canvas_layers := T.n_Canvas_layers
  have fn_Canvas_numbered := T.n_Canvas_numbered
  have fn_Canvas_paints := T.n_Canvas_paints
  have fn_Canvas_pictures := T.n_Canvas_pictures
  have fn_Canvas_pieces := T.n_Canvas_pieces
  refine ⟨_, (pss_cons (kx_sfld (K := K) rfl (pv 0) (pe_lst pa_nil) rfl)
      (pss_cons (kx_sfld (K := K) rfl (pv 0) (pe_lst pa_nil) rfl)
      (pss_cons (kx_sfld (K := K) rfl (pv 0) (pe_lst (pa_cons (c_make (ok_Layer_init (K := K) T) T.k_Layer hr (by decide) rfl T.g_Layer (fun _ => pass0) (pa_cons pe_int (pa_cons pe_int pa_nil))) pa_nil)) rfl)
      (pss_cons (kx_sfld (K := K) rfl (pv 0) pe_int rfl)
      (pss_one (kx_sfld (K := K) rfl (pv 0) pe_int rfl)))))), ?_⟩
  walk_at "go"
  intro Lp hLp
  walk_at "go"
  obtain ⟨b1, p1, o1, f1, n1⟩ := own_new (o := .lst []) (o' := .ins (He.ga K "Canvas") dx (putF "pictures" (.ref Lp) [])) (But.refl p H) hp hLp
  generalize upd (upd H Lp (.lst [])) p (.ins (He.ga K "Canvas") dx (putF "pictures" (.ref Lp) [])) = H1 at b1 p1 o1
  intro La hLa
  walk_at "go"
  obtain ⟨b2, a2, o2, f2, n2⟩ := own_new (o := .lst []) (o' := .ins (He.ga K "Canvas") dx (putF "paints" (.ref La) (putF "pictures" (.ref Lp) []))) b1 o1 hLa
  have p2 : (upd (upd H1 La (.lst [])) p (.ins (He.ga K "Canvas") dx (putF "paints" (.ref La) (putF "pictures" (.ref Lp) [])))) Lp = some (.lst []) := by rw [upd_ne n1, upd_ne (ne_of_none p1 hLa)]; exact p1
  have n12 : Lp ≠ La := ne_of_none p1 hLa
  generalize upd (upd H1 La (.lst [])) p (.ins (He.ga K "Canvas") dx (putF "paints" (.ref La) (putF "pictures" (.ref Lp) []))) = H2 at b2 a2 o2 p2
  intro x ldx hx hldx nx
  refine ⟨x, ldx, _, _, rfl, upd_same, fun H3 lm lc b3 hlm hlc nl m3 c3 x3 => ?_⟩
  have sx := made_same hx hldx b3
  have mid : ∀ a, (upd (upd H2 ldx (.own x)) x (.ins (He.ga K "Layer") ldx [])) a = none → a ≠ x ∧ H2 a = none := fun a e => by
    have ne : a ≠ x := fun z => by rw [z, upd_same] at e; cases e
    rw [upd_ne ne] at e
    by_cases z : a = ldx
    · rw [z, upd_same] at e; cases e
    · rw [upd_ne z] at e; exact ⟨ne, e⟩
  obtain ⟨lmx, lm2⟩ := mid lm hlm
  obtain ⟨lcx, lc2⟩ := mid lc hlc
  have bH3 := b2.trans (But.of (p := p) sx)
  have o3 := sx _ _ o2
  have p3 := sx _ _ p2
  have a3 := sx _ _ a2
  refine ⟨rfl, ?_⟩
  walk_at "go"
  intro Ll hLl
  walk_at "go"
  obtain ⟨b4, l4, o4, f4, n4⟩ := own_new (o := .lst [.ref x]) (o' := .ins (He.ga K "Canvas") dx (putF "layers" (.ref Ll) (putF "paints" (.ref La) (putF "pictures" (.ref Lp) [])))) bH3 o3 hLl
  have k4 : ∀ a o, a ≠ p → H3 a = some o → (upd (upd H3 Ll (.lst [.ref x])) p (.ins (He.ga K "Canvas") dx (putF "layers" (.ref Ll) (putF "paints" (.ref La) (putF "pictures" (.ref Lp) []))))) a = some o := fun a o e h => by rw [upd_ne e, upd_ne (ne_of_none h hLl), h]
  generalize upd (upd H3 Ll (.lst [.ref x])) p (.ins (He.ga K "Canvas") dx (putF "layers" (.ref Ll) (putF "paints" (.ref La) (putF "pictures" (.ref Lp) [])))) = H4 at b4 l4 o4 k4
  rw [new_Canvas]
  have fr : ∀ a, H2 a = none → a ≠ p → H a = none := fun a e ne => by
    cases z : H a with
    | none => rfl
    | some o =>
      have := b2 _ _ ne z
      rw [e] at this
      cases this
  have lmp : lm ≠ p := fun e => by rw [e, o2] at lm2; cases lm2
  have lcp : lc ≠ p := fun e => by rw [e, o2] at lc2; cases lc2
  have xp : x ≠ p := fun e => by rw [e, o2] at hx; cases hx
  have q1 : ∀ a o, a ≠ p → H4 a = some o → (upd (upd H4 p (.ins (He.ga K "Canvas") dx (putF "numbered" (.int 0) (putF "layers" (.ref Ll) (putF "paints" (.ref La) (putF "pictures" (.ref Lp) [])))))) p (.ins (He.ga K "Canvas") dx (fl_Canvas (.ref Lp) (.ref La) (.ref Ll) (.int 0) (.int 0)))) a = some o := fun a o e h => by rw [upd_ne e, upd_ne e, h]
  have own_ : ∀ a, a ∈ Cv.own ⟨dx, Lp, La, Ll, [⟨x, lm, lc, [], []⟩]⟩ p ↔ a = p ∨ a = Lp ∨ a = La ∨ a = Ll ∨ a = lm ∨ a = lc := fun a => by simp [Cv.own]
  refine q _ (fun _ => []) ⟨dx, Lp, La, Ll, [⟨x, lm, lc, [], []⟩]⟩ (b4.trans (But.trans But.at_ But.at_)) ?_ ?_
  · intro a ha
    rcases (own_ a).mp ha with e | e | e | e | e | e
    · exact .inl e
    · exact .inr (by rw [e]; exact f1)
    · exact .inr (by rw [e]; exact f2)
    · exact .inr (by rw [e]; exact f4)
    · exact .inr (by rw [e]; exact fr _ lm2 lmp)
    · exact .inr (by rw [e]; exact fr _ lc2 lcp)
  · have xnot : x ∉ Cv.own ⟨dx, Lp, La, Ll, [⟨x, lm, lc, [], []⟩]⟩ p := fun m => by
      rcases (own_ x).mp m with e | e | e | e | e | e
      · exact xp e
      · rw [e, p2] at hx; cases hx
      · rw [e, a2] at hx; cases hx
      · rw [e, hLl] at x3; cases x3
      · exact lmx e.symm
      · exact lcx e.symm
    have nd : (Cv.own ⟨dx, Lp, La, Ll, [⟨x, lm, lc, [], []⟩]⟩ p).Nodup := by
      show [p, Lp, La, Ll, lm, lc].Nodup
      have e1 : La ≠ Ll := ne_of_none a3 hLl
      have e2 : Lp ≠ Ll := ne_of_none p3 hLl
      have e3 : lm ≠ Ll := ne_of_none m3 hLl
      have e4 : lc ≠ Ll := ne_of_none c3 hLl
      have e5 : Lp ≠ lm := ne_of_none p2 lm2
      have e6 : Lp ≠ lc := ne_of_none p2 lc2
      have e7 : La ≠ lm := ne_of_none a2 lm2
      have e8 : La ≠ lc := ne_of_none a2 lc2
      simp only [List.nodup_cons, List.mem_cons, List.not_mem_nil, or_false, not_or, List.nodup_nil, not_false_eq_true, and_true]
      exact ⟨⟨Ne.symm n1, Ne.symm n2, Ne.symm n4, Ne.symm lmp, Ne.symm lcp⟩, ⟨n12, e2, e5, e6⟩, ⟨e1, e7, e8⟩, ⟨Ne.symm e3, Ne.symm e4⟩, nl⟩
    refine ⟨upd_same, ⟨[], q1 _ _ n1 (k4 _ _ n1 p3), All.nil⟩, ⟨[], q1 _ _ n2 (k4 _ _ n2 a3), All.nil⟩, q1 _ _ n4 l4, ?_, nd, fun a m => absurd m (by simp), ?_⟩
    · refine ⟨⟨255, 0, ⟨ldx, ?_⟩, q1 _ _ lmp (k4 _ _ lmp m3), All.nil, ⟨[], q1 _ _ lcp (k4 _ _ lcp c3), All.nil⟩, by simp [Wrvdot.start], by decide, by decide⟩, rfl⟩
      rw [List.nil_append, hide_at xnot]
      exact q1 _ _ xp (k4 _ _ xp x3)
    · simp [Wrvdot.start, Wrvdot.colours, memCount]
end
end Pd
end
section
set_option Elab.async false
set_option linter.all false
set_option maxRecDepth 100000
set_option maxHeartbeats 4000000
namespace Pd
open PySem PySem.Spec PyProof.Rows L2
local macro_rules | `(tactic| walk_at "at") => `(tactic| first
  | assumption
  | exact upd_same
  | (refine (show Same _ _ by assumption) _ _ ?_; walk_at "at")
  | (refine (show But _ _ _ by assumption) _ _ (by assumption) ?_; assumption)
  | (refine Same.new (by assumption) _ _ ?_; walk_at "at")
  | (refine (upd_ne (ne_of (by assumption) (by assumption) (by intro z; cases z))).trans ?_; walk_at "at"))
local macro_rules | `(tactic| walk_at "go") => `(tactic| repeat (first
  | refine ⟨_, rfl, ?_⟩
  | refine ⟨_, _, rfl, rfl, ?_⟩
  | refine ⟨_, _, rfl, ?_⟩
  | refine ⟨_, _, _, rfl, ?_⟩
  | refine And.intro rfl ?_
  | refine And.intro (Or.inl ⟨by decide, by decide⟩) ?_
  | refine And.intro (Or.inr ⟨by decide, by decide⟩) ?_
  | refine And.intro ⟨by decide, by decide⟩ ?_
  | refine And.intro (Or.inl ⟨by omega, by omega⟩) ?_
  | refine And.intro (Or.inr ⟨by omega, by omega⟩) ?_
  | refine And.intro ⟨by omega, by omega⟩ ?_
  | refine And.intro trivial ?_
  | refine And.intro (by omega) ?_
  | refine And.intro (sz (Nat.le_of_ble_eq_true rfl)) ?_
  | refine And.intro (Or.inl ⟨rfl, _, SqL.of (by walk_at "at")⟩) ?_
  | refine ⟨_, _, _, _, rfl, rfl, SqT.of (by walk_at "at"), (by rfl), ?_⟩
  | refine ⟨_, _, _, _, rfl, rfl, SqL.of (by walk_at "at"), (by rfl), ?_⟩
  | refine ⟨_, _, _, _, _, rfl, (by walk_at "at"), (by assumption), (by assumption), Lk.h, ?_⟩
  | refine ⟨_, _, _, rfl, rfl, (by walk_at "at"), ?_⟩
  | refine ⟨_, _, _, rfl, (by walk_at "at"), LkN.h, ?_⟩
  | refine ⟨_, _, _, _, rfl, (by walk_at "at"), (by assumption), (by assumption), (by apply few_lt; decide), ?_⟩
  | refine ⟨_, _, (by walk_at "at"), (by apply few_lt; decide), ?_⟩
  | refine ⟨_, _, rfl, Or.inl (SqL.of (by walk_at "at")), ?_⟩))
open Wrvdot (State Answer step)
/-- the class of a refusal -/
def errC (K : PySem.W.Frag) (z : Int) : Value := if z = -1 then .ref (He.ga K "InvalidCall") else if z = -3 then .ref (He.ga K "LimitReached") else .ref (He.ga K "GroupNotEnded")
def Tell (K : PySem.W.Frag) (Q : VK) (E : XK) : Answer → Hp → Prop
  | .refused z, H => E (errC K z) none H
  | .number n, H => Q (.int (n : Int)) H
  | .row l, H => ∀ p, H p = some (.lst (l.map fun (n : Nat) => V.int (n : Int))) → Q (.ref p) H
def Does (K : PySem.W.Frag) (X : List Addr) (cv : Addr) (c : Cv) (H : Hp) (r : State × Answer) (Q : VK) (E : XK) : Prop := ∀ H' G' c', Keep (hide (c.own cv) H) (hide (Cv.own c' cv) H') → CanvasAt K G' X H' cv c' r.1 → Tell K Q E r.2 H'
theorem Does.same {K : PySem.W.Frag} {X : List Addr} {cv : Addr} {c : Cv} {H H1 : Hp} {r : State × Answer} {Q : VK} {E : XK} (s : Same H H1) (d : Does K X cv c H r Q E) : Does K X cv c H1 r Q E := fun H' G' c' k => d H' G' c' ((Keep.of (hide_same s)).trans k)
/-- refused: nothing changed -/
theorem Does.no {K : PySem.W.Frag} {G : Gh} {X : List Addr} {cv : Addr} {c : Cv} {H H1 : Hp} {s : State} {z : Int} {Q : VK} {E : XK} (d : Does K X cv c H (s, .refused z) Q E) (h : CanvasAt K G X H cv c s) (e : Same H H1) : E (errC K z) none H1 :=
  d H1 G c (Keep.of (hide_same e)) (h.same e)
theorem own_ne {c : Cv} {cv : Addr} (nd : (c.own cv).Nodup) : (cv ≠ c.Lp ∧ cv ≠ c.La ∧ cv ≠ c.Ll) ∧ (c.Lp ≠ c.La ∧ c.Lp ≠ c.Ll) ∧ c.La ≠ c.Ll ∧ ∀ l ∈ c.lays, (l.lm ≠ cv ∧ l.lm ≠ c.Lp ∧ l.lm ≠ c.La ∧ l.lm ≠ c.Ll) ∧ (l.lc ≠ cv ∧ l.lc ≠ c.Lp ∧ l.lc ≠ c.La ∧ l.lc ≠ c.Ll) := by
  unfold Cv.own at nd
  rw [List.nodup_cons, List.nodup_cons, List.nodup_cons, List.nodup_cons] at nd
  obtain ⟨a, b, d, e, _⟩ := nd
  simp only [List.mem_cons, List.mem_flatMap, not_or, List.not_mem_nil, not_exists, not_and] at a b d e
  refine ⟨⟨a.1, a.2.1, a.2.2.1⟩, ⟨b.1, b.2.1⟩, d.1, fun l hl => ⟨⟨fun z => (a.2.2.2 l hl).1 z.symm, fun z => (b.2.2 l hl).1 z.symm, fun z => (d.2 l hl).1 z.symm, fun z => (e l hl).1 z.symm⟩, fun z => (a.2.2.2 l hl).2.1 z.symm, fun z => (b.2.2 l hl).2.1 z.symm, fun z => (d.2 l hl).2.1 z.symm, fun z => (e l hl).2.1 z.symm⟩⟩
theorem own_mem {c : Cv} {cv : Addr} : cv ∈ c.own cv ∧ c.Lp ∈ c.own cv ∧ c.La ∈ c.own cv ∧ c.Ll ∈ c.own cv ∧ ∀ l ∈ c.lays, l.lm ∈ c.own cv ∧ l.lc ∈ c.own cv := by
  unfold Cv.own
  refine ⟨by simp, by simp, by simp, by simp, fun l hl => ⟨?_, ?_⟩⟩
  · simp only [List.mem_cons, List.mem_flatMap]
    exact .inr (.inr (.inr (.inr ⟨l, hl, by simp⟩)))
  · simp only [List.mem_cons, List.mem_flatMap]
    exact .inr (.inr (.inr (.inr ⟨l, hl, by simp⟩)))
section
variable {K : PySem.W.Frag} {G : Gh} {X : List Addr} {H : Hp} {cv : Addr} {c : Cv} {s : State}
theorem keep_upd {M : List Addr} {H : Hp} {p : Addr} {o : HO} (h : p ∈ M) : Keep (hide M H) (hide M (upd H p o)) := by
  rw [hide_upd h]
  exact Keep.refl _
theorem xs_upd {p : Addr} {o : HO} (m : p ∈ c.own cv) (xs : ∀ a ∈ X, a ∉ c.own cv ∧ ∃ o, H a = some o ∧ isT o = false ∧ isD o = false) : ∀ a ∈ X, a ∉ c.own cv ∧ ∃ u, (upd H p o) a = some u ∧ isT u = false ∧ isD u = false := fun a ha => by
  obtain ⟨n, u, e, t⟩ := xs a ha
  exact ⟨n, u, by rw [upd_ne (fun z => n (by rw [z]; exact m))]; exact e, t⟩
theorem CanvasAt.rg {G' : Gh} (e : ∀ a, hide (X ++ c.own cv) H a ≠ none → G' a = G a) (h : CanvasAt K G X H cv c s) : CanvasAt K G' X H cv c s := by
  obtain ⟨o, p, ⟨v2, q1, q2⟩, l, ls, nd, xs, few⟩ := h
  exact ⟨o, p, ⟨v2, q1, q2.imp fun _ _ h => h.rg e⟩, l, ls.go e (Grow.refl _ _) (fun _ _ => ⟨rfl, rfl⟩), nd, xs, few⟩
/-- a new shade's dict gets its label -/
theorem CanvasAt.label {d : Addr} {l : List Vd.Stop} (f : H d = none) (h : CanvasAt K G X H cv c s) : CanvasAt K (fun q => if q = d then l else G q) X H cv c s := h.rg fun a n => if_neg fun e => n (by
  subst e
  unfold hide
  split
  · rfl
  · exact f)
/-- a paint more -/
theorem CanvasAt.paint (h : CanvasAt K G X H cv c s) {vs : List V} {v : V} {p : Vd.Paint} (hv : H c.La = some (.lst vs)) (hp : PaintAt K G (hide (X ++ c.own cv) H) v p) (hz : s.paints.length < 32) :
    CanvasAt K G X (upd H c.La (.lst (vs ++ [v]))) cv c { s with paints := s.paints ++ [p] } := by
  obtain ⟨o, ⟨v1, p1, p2⟩, ⟨v2, q1, q2⟩, l, ls, nd, xs, few⟩ := h
  obtain ⟨⟨n1, n2, n3⟩, ⟨n4, n5⟩, n6, n7⟩ := own_ne nd
  have eh : hide (X ++ c.own cv) (upd H c.La (.lst (vs ++ [v]))) = hide (X ++ c.own cv) H := hide_upd (List.mem_append_right _ own_mem.2.2.1)
  rw [hv] at q1
  cases q1
  refine ⟨by rw [upd_ne n2]; exact o, ⟨v1, by rw [upd_ne n4]; exact p1, by rw [eh]; exact p2⟩, ⟨_, upd_same, by rw [eh]; exact q2.snoc hp⟩, by rw [upd_ne (Ne.symm n6)]; exact l, ?_, nd, xs_upd own_mem.2.2.1 xs, ?_⟩
  · exact ls.go (fun _ _ => rfl) (Grow.refl' eh.symm) fun l hl => ⟨upd_ne (n7 l hl).1.2.2.1, upd_ne (n7 l hl).2.2.2.1⟩
  · obtain ⟨f1, f2, f3, f4⟩ := few
    exact ⟨f1, f2, by rw [List.length_append]; exact hz, f4⟩
end
section
variable {P : Program} {w : World} {K : PySem.W.Frag} {mg : Str → Option Value} {base : Heap}
theorem sc_Canvas_add_paint : FnScope ["self", "paint"] ["self", "paint"] (defScope s_Canvas_add_paint) := ⟨rfl, rfl, rfl, by decide +kernel, rfl, by decide +kernel, by decide +kernel⟩
theorem bd_Canvas_add_paint : BindAll "add_paint" "Canvas.add_paint" s_Canvas_add_paint ["self", "paint"] := fun _ _ _ _ _ _ us hl => match us, hl with | [_, _], _ => rfl
theorem ok_Canvas_add_paint (T : Txt K mg) : Ok P w K mg base (L2.CX P w) 1 (He.fAd K ("Canvas", some "add_paint")) ["self", "paint"] (fun vs H Q E => ∃ (G : Gh) (X : List Addr) (cv : Addr) (c : Cv) (s : State) (v : V) (p : Vd.Paint), vs = [.ref cv, v] ∧ CanvasAt K G X H cv c s ∧ PaintAt K G (hide (X ++ c.own cv) H) v p ∧ Does K X cv c H (Wrvdot.addPaint s p) Q E) := by
  refine mk_okX T.f_Canvas_add_paint sc_Canvas_add_paint bd_Canvas_add_paint (fun _ _ _ _ ⟨_, _, _, _, _, _, _, e, _⟩ => by rw [e]; rfl) fun cdv A outer s0 H vs Q E hr h => ?_
  obtain ⟨G, X, cv, c, s, v, p, rfl, hc, hp, d⟩ := h
  have fc_Canvas := T.c_Canvas
  have fn_Canvas_paints := T.n_Canvas_paints
  obtain ⟨ho, ⟨v1, p1, p2⟩, ⟨v2, q1, q2⟩, hl, ls, nd, xs, few⟩ := id hc
  have l2 := q2.1
  refine ⟨_, (pss_cons (ps_if (pt_cmpR op_ge (pe_callB (kx_len (K := K) rfl) (by rfl) T.z_len PySem.boot_len (pa_cons (kx_fld (K := K) rfl (pv 0) rfl) pa_nil)) (c_int rfl T.i_MOST_PAINTS) (nomark _)) (pss_one (ps_raise rfl (takes_of rfl rfl rfl rfl) (pmk_own0 PySem.F.excBase_Exception T.x_LimitReached.1 T.g_LimitReached T.x_LimitReached.2.1 (raises_own T.x_LimitReached.2.2.1 T.x_LimitReached.2.2.2) (by exact rfl)))) pss_nil)
      (pss_cons (ps_expr (kx_bm (K := K) rfl PySem.F.plainAttrs_list PySem.F.slot_list_append PySem.F.type_list_append mt_append (kx_fld (K := K) rfl (pv 0) rfl) (pa_cons (pv 1) pa_nil)))
      (pss_one (ps_ret (pe_op op_sub (pe_callB (kx_len (K := K) rfl) (by rfl) T.z_len PySem.boot_len (pa_cons (kx_fld (K := K) rfl (pv 0) rfl) pa_nil)) pe_int))))), ?_⟩
  walk_at "go"
  refine ite2 (fun c0 => ?_) (fun c0 => ?_)
  · have c1 : (32 : Int) ≤ v2.length := ddec c0
    have er : Wrvdot.addPaint s p = (s, .refused (-3)) := if_pos (by unfold Wrvdot.PAINTS; omega)
    rw [er] at d
    exact d.no hc (Same.refl _)
  · have c1 : ¬ (32 : Int) ≤ v2.length := dnot c0
    have er : Wrvdot.addPaint s p = ({ s with paints := s.paints ++ [p] }, .number s.paints.length) := if_neg (by unfold Wrvdot.PAINTS; omega)
    rw [er] at d
    have w2 : v2.length < sizeLine := szl (by omega)
    walk_at "go"
    have hc2 := hc.paint q1 hp (by omega)
    have ho2 := hc2.obj
    have hl2 : (upd H c.La (.lst (v2 ++ [v]))) c.La = some (.lst (v2 ++ [v])) := upd_same
    walk_at "go"
    refine qi_of ?_ (d _ G c (keep_upd own_mem.2.2.1) hc2)
    show (s.paints.length : Int) = ((v2 ++ [v]).length : Int) - 1
    rw [List.length_append]
    show (s.paints.length : Int) = ((v2.length + 1 : Nat) : Int) - 1
    omega
theorem sc_Canvas_add_plain : FnScope ["self", "colour"] ["self", "colour"] (defScope s_Canvas_add_plain) := ⟨rfl, rfl, rfl, by decide +kernel, rfl, by decide +kernel, by decide +kernel⟩
theorem bd_Canvas_add_plain : BindAll "add_plain" "Canvas.add_plain" s_Canvas_add_plain ["self", "colour"] := fun _ _ _ _ _ _ us hl => match us, hl with | [_, _], _ => rfl
theorem ok_Canvas_add_plain (T : Txt K mg) : Ok P w K mg base (L2.CX P w) 3 (He.fAd K ("Canvas", some "add_plain")) ["self", "colour"] (fun vs H Q E => ∃ (G : Gh) (X : List Addr) (cv : Addr) (c : Cv) (s : State) (n : Nat), vs = [.ref cv, .int (n : Int)] ∧ CanvasAt K G X H cv c s ∧ n < 4294967296 ∧ Does K X cv c H (step s (.plain n)) Q E) := by
  refine mk_okX T.f_Canvas_add_plain sc_Canvas_add_plain bd_Canvas_add_plain (fun _ _ _ _ ⟨_, _, _, _, _, _, e, _⟩ => by rw [e]; rfl) fun cdv A outer s0 H vs Q E hr h => ?_
  obtain ⟨G, X, cv, c, s, n, rfl, hc, hn, d⟩ := h
  have ho := hc.obj
  refine ⟨_, (pss_one (ps_ret (c_meth (ok_Canvas_add_paint (K := K) T) hr (by decide) T.c_Canvas T.m_Canvas_add_paint (out_of (takes_of rfl rfl rfl rfl)) (pv 0) (pa_cons (c_make (ok_Plain_init (K := K) T) T.k_Plain hr (by decide) rfl T.g_Plain (fun _ => pass0) (pa_cons (c_call (ok_laid_on (K := K) T) hr (by decide) rfl T.g_laid_on pass0 (pa_cons (c_call (ok_parts_of (K := K) T) hr (by decide) rfl T.g_parts_of pass0 (pa_cons (pv 1) pa_nil)) pa_nil)) pa_nil)) pa_nil)))), ?_⟩
  walk_at "go"
  intro v1 H1 s1 c1
  walk_at "go"
  refine ⟨v1, _, rfl, c1, colOf_sml n, fun v2 H2 s2 c2 => ?_⟩
  walk_at "go"
  intro x dx hx hdx ne
  refine ⟨x, dx, v2, rfl, upd_same, fun H3 b3 x3 => ?_⟩
  have sx := made_same hx hdx b3
  have s03 := (s1.trans s2).trans sx
  have hc3 := hc.same s03
  refine ⟨rfl, ?_⟩
  walk_at "go"
  refine ⟨G, X, cv, c, s, .ref x, .plain (Vd.colOf n), rfl, hc3, ?_, d.same s03⟩
  have fx : x ∉ X ++ c.own cv := hc.fresh ((s1.trans s2).free hx)
  exact ⟨x, dx, _, rfl, (hide_at fx).trans x3, (c2.mono sx).hid hc3.noT, colOf_sml n⟩
theorem sc_Canvas_add_linear : FnScope ["self", "a", "b", "how", "stops"] ["self", "a", "b", "how", "stops"] (defScope s_Canvas_add_linear) := ⟨rfl, rfl, rfl, by decide +kernel, rfl, by decide +kernel, by decide +kernel⟩
theorem bd_Canvas_add_linear : BindAll "add_linear" "Canvas.add_linear" s_Canvas_add_linear ["self", "a", "b", "how", "stops"] := fun _ _ _ _ _ _ us hl => match us, hl with | [_, _, _, _, _], _ => rfl
theorem ok_Canvas_add_linear (T : Txt K mg) : Ok P w K mg base (L2.CX P w) 4 (He.fAd K ("Canvas", some "add_linear")) ["self", "a", "b", "how", "stops"] (fun vs H Q E => ∃ (G : Gh) (X : List Addr) (cv : Addr) (c : Cv) (s : State) (u v : V) (a b : Vd.Pt) (how : Nat) (ls : Addr) (l : List (Nat × Nat)), vs = [.ref cv, u, v, .int (how : Int), .ref ls] ∧ CanvasAt K G X H cv c s ∧
    TupI H u [a.1, a.2] ∧ TupI H v [b.1, b.2] ∧ ListOf SpAt H ls l ∧ l.length ≤ 30000 ∧ (∀ z ∈ l, z.2 < 4294967296) ∧ Does K X cv c H (step s (.linear a b how l)) Q E) := by
  refine mk_okX T.f_Canvas_add_linear sc_Canvas_add_linear bd_Canvas_add_linear (fun _ _ _ _ ⟨_, _, _, _, _, _, _, _, _, _, _, _, e, _⟩ => by rw [e]; rfl) fun cdv A outer s0 H vs Q E hr h => ?_
  obtain ⟨G, X, cv, c, s, u, v, a, b, how, ls, l, rfl, hc, ⟨ta, rfl, hta⟩, ⟨tb, rfl, htb⟩, hls, hz, hb, d⟩ := h
  have ho := hc.obj
  have no : ∀ H', Same H H' → (2 < how ∨ Wrvdot.stopsOk l = false ∨ Wrvdot.placeOk a = false ∨ Wrvdot.placeOk b = false) → E (.ref (He.ga K "InvalidCall")) none H' := fun H' sm z => by
    have er : step s (.linear a b how l) = (s, .refused (-1)) := if_pos z
    rw [er] at d
    exact d.no hc sm
  refine ⟨_, (Evl.pss_cut (ps_if (PW.pt (pw_or (pt_cmpR op_gt (pv 3) pe_int (nomark _)) (pw_or1 (pt_not (pt_val (c_call (ok_are_stops (K := K) T) hr (by decide) rfl T.g_are_stops pass0 (pa_cons (pv 4) pa_nil))))))) (pss_one (ps_raise rfl (takes_of rfl rfl rfl rfl) (pmk_own0 PySem.F.excBase_Exception T.x_InvalidCall.1 T.g_InvalidCall T.x_InvalidCall.2.1 (raises_own T.x_InvalidCall.2.2.1 T.x_InvalidCall.2.2.2) (by exact rfl)))) pss_nil)
      (Evl.pss_cut (ps_if (PW.pt (pw_or (pt_val (c_call (ok_is_far (K := K) T) hr (by decide) rfl T.g_is_far pass0 (pa_cons (pe_ix (kx_ixt (K := K) rfl) (pv 1) pe_int (fun _ _ => rfl)) pa_nil))) (pw_or (pt_val (c_call (ok_is_far (K := K) T) hr (by decide) rfl T.g_is_far pass0 (pa_cons (pe_ix (kx_ixt (K := K) rfl) (pv 1) pe_int (fun _ _ => rfl)) pa_nil))) (pw_or (pt_val (c_call (ok_is_far (K := K) T) hr (by decide) rfl T.g_is_far pass0 (pa_cons (pe_ix (kx_ixt (K := K) rfl) (pv 2) pe_int (fun _ _ => rfl)) pa_nil))) (pw_or1 (pt_val (c_call (ok_is_far (K := K) T) hr (by decide) rfl T.g_is_far pass0 (pa_cons (pe_ix (kx_ixt (K := K) rfl) (pv 2) pe_int (fun _ _ => rfl)) pa_nil)))))))) (pss_one (ps_raise rfl (takes_of rfl rfl rfl rfl) (pmk_own0 PySem.F.excBase_Exception T.x_InvalidCall.1 T.g_InvalidCall T.x_InvalidCall.2.1 (raises_own T.x_InvalidCall.2.2.1 T.x_InvalidCall.2.2.2) (by exact rfl)))) pss_nil)
      (pss_one (ps_ret (c_meth (ok_Canvas_add_paint (K := K) T) hr (by decide) T.c_Canvas T.m_Canvas_add_paint (out_of (takes_of rfl rfl rfl rfl)) (pv 0) (pa_cons (c_make (ok_Linear_init (K := K) T) T.k_Linear hr (by decide) rfl T.g_Linear (fun _ => pass0) (pa_cons (pe_ix (kx_ixt (K := K) rfl) (pv 1) pe_int (fun _ _ => rfl)) (pa_cons (pe_ix (kx_ixt (K := K) rfl) (pv 1) pe_int (fun _ _ => rfl)) (pa_cons (pe_ix (kx_ixt (K := K) rfl) (pv 2) pe_int (fun _ _ => rfl)) (pa_cons (pe_ix (kx_ixt (K := K) rfl) (pv 2) pe_int (fun _ _ => rfl)) (pa_cons (c_call (ok_shade_of (K := K) T) hr (by decide) rfl T.g_shade_of pass0 (pa_cons (pv 3) (pa_cons (pv 4) pa_nil))) pa_nil)))))) pa_nil)))))), ?_⟩
  refine ⟨fun σ' H' => σ' = [some (.ref cv), some (.ref ta), some (.ref tb), some (.int (how : Int)), some (.ref ls)] ∧ Same H H' ∧ how ≤ 2 ∧ Wrvdot.stopsOk l = true, ?_, ?_⟩
  · walk_at "go"
    refine ite2 (fun c0 => ?_) (fun c0 => ?_)
    · have c1 : (2 : Int) < how := ddec c0
      exact no _ (Same.refl _) (.inl (by omega))
    have c1 : ¬ (2 : Int) < how := dnot c0
    walk_at "go"
    refine ⟨ls, l, rfl, hls, hz, fun H1 s1 => ?_⟩
    walk_at "go"
    cases hok : Wrvdot.stopsOk l with
    | false => exact no _ s1 (.inr (.inl hok))
    | true => exact ⟨rfl, s1, by omega, rfl⟩
  rintro σ' H1 ⟨rfl, s1, h2, hok⟩
  have hta1 := s1 _ _ hta
  have htb1 := s1 _ _ htb
  refine ⟨fun σ' H' => σ' = [some (.ref cv), some (.ref ta), some (.ref tb), some (.int (how : Int)), some (.ref ls)] ∧ H' = H1 ∧ Wrvdot.placeOk a = true ∧ Wrvdot.placeOk b = true, ?_, ?_⟩
  · walk_at "go"
    have pa := place_far a
    have pb := place_far b
    refine ite2 (fun c0 => ?_) (fun c0 => ?_)
    · have c1 : farB a.1 = true := c0
      exact no _ s1 (.inr (.inr (.inl (by rw [pa, c1] <;> rfl))))
    have c1 : farB a.1 = false := Bool.eq_false_iff.mpr c0
    walk_at "go"
    refine ite2 (fun c0 => ?_) (fun c0 => ?_)
    · have c2 : farB a.2 = true := c0
      exact no _ s1 (.inr (.inr (.inl (by rw [pa, c1, c2] <;> rfl))))
    have c2 : farB a.2 = false := Bool.eq_false_iff.mpr c0
    walk_at "go"
    refine ite2 (fun c0 => ?_) (fun c0 => ?_)
    · have c3 : farB b.1 = true := c0
      exact no _ s1 (.inr (.inr (.inr (by rw [pb, c3] <;> rfl))))
    have c3 : farB b.1 = false := Bool.eq_false_iff.mpr c0
    walk_at "go"
    refine ite2 (fun c0 => ?_) (fun c0 => ?_)
    · have c4 : farB b.2 = true := c0
      exact no _ s1 (.inr (.inr (.inr (by rw [pb, c3, c4] <;> rfl))))
    have c4 : farB b.2 = false := Bool.eq_false_iff.mpr c0
    exact ⟨rfl, rfl, by rw [pa, c1, c2] <;> rfl, by rw [pb, c3, c4] <;> rfl⟩
  rintro σ' H' ⟨rfl, rfl, pa, pb⟩
  walk_at "go"
  refine ⟨ls, l, how, rfl, ListOf.mono (R := SpAt) (fun _ _ _ _ e h => TupI.mono e h) s1 hls, hok, hb, h2, fun H2 p lss dd s2 hp hlss hdd sw => ?_⟩
  have hta2 := s2 _ _ hta1
  have htb2 := s2 _ _ htb1
  walk_at "go"
  intro x dx hx hdx ne
  refine ⟨x, dx, a, b, _, rfl, upd_same, near_ok pa, near_ok pb, fun H3 b3 x3 => ?_⟩
  have sx := made_same hx hdx b3
  have s12 := s1.trans s2
  have s03 := s12.trans sx
  have hcl := (hc.label (l := l.map Wrvdot.stopOf) (s1.free hdd)).same s03
  refine ⟨rfl, ?_⟩
  walk_at "go"
  have er : step s (.linear a b how l) = Wrvdot.addPaint s (.linear a b how (l.map Wrvdot.stopOf)) := if_neg (by
    rw [hok, pa, pb]
    simp
    exact h2)
  rw [er] at d
  refine ⟨_, X, cv, c, s, .ref x, .linear a b how (l.map Wrvdot.stopOf), rfl, hcl, ?_, d.same s03⟩
  exact ⟨x, dx, _, rfl, (hide_at (hc.fresh (s12.free hx))).trans x3, near_ok pa, near_ok pb, (sw.same sx).hid hcl.noT (hc.fresh (s1.free hp)) (hc.fresh (s1.free hlss)) (hc.fresh (s1.free hdd)) (if_pos rfl)⟩
end
end Pd
end
section
set_option Elab.async false
set_option linter.all false
set_option maxRecDepth 100000
set_option maxHeartbeats 4000000
namespace Pd
open PySem PySem.Spec PyProof.Rows L2
local macro_rules | `(tactic| walk_at "at") => `(tactic| first
  | assumption
  | exact upd_same
  | (refine (show Same _ _ by assumption) _ _ ?_; walk_at "at")
  | (refine (show But _ _ _ by assumption) _ _ (by assumption) ?_; assumption)
  | (refine Same.new (by assumption) _ _ ?_; walk_at "at")
  | (refine (upd_ne (ne_of (by assumption) (by assumption) (by intro z; cases z))).trans ?_; walk_at "at"))
local macro_rules | `(tactic| walk_at "go") => `(tactic| repeat (first
  | refine ⟨_, rfl, ?_⟩
  | refine ⟨_, _, rfl, rfl, ?_⟩
  | refine ⟨_, _, rfl, ?_⟩
  | refine ⟨_, _, _, rfl, ?_⟩
  | refine And.intro rfl ?_
  | refine And.intro (Or.inl ⟨by decide, by decide⟩) ?_
  | refine And.intro (Or.inr ⟨by decide, by decide⟩) ?_
  | refine And.intro ⟨by decide, by decide⟩ ?_
  | refine And.intro (Or.inl ⟨by omega, by omega⟩) ?_
  | refine And.intro (Or.inr ⟨by omega, by omega⟩) ?_
  | refine And.intro ⟨by omega, by omega⟩ ?_
  | refine And.intro trivial ?_
  | refine And.intro (by omega) ?_
  | refine And.intro (sz (Nat.le_of_ble_eq_true rfl)) ?_
  | refine And.intro (Or.inl ⟨rfl, _, SqL.of (by walk_at "at")⟩) ?_
  | refine ⟨_, _, _, _, rfl, rfl, SqT.of (by walk_at "at"), (by rfl), ?_⟩
  | refine ⟨_, _, _, _, rfl, rfl, SqL.of (by walk_at "at"), (by rfl), ?_⟩
  | refine ⟨_, _, _, _, _, rfl, (by walk_at "at"), (by assumption), (by assumption), Lk.h, ?_⟩
  | refine ⟨_, _, _, rfl, rfl, (by walk_at "at"), ?_⟩
  | refine ⟨_, _, _, rfl, (by walk_at "at"), LkN.h, ?_⟩
  | refine ⟨_, _, _, _, rfl, (by walk_at "at"), (by assumption), (by assumption), (by apply few_lt; decide), ?_⟩
  | refine ⟨_, _, (by walk_at "at"), (by apply few_lt; decide), ?_⟩
  | refine ⟨_, _, rfl, Or.inl (SqL.of (by walk_at "at")), ?_⟩))
open Wrvdot (State Answer step)
section
variable {P : Program} {w : World} {K : PySem.W.Frag} {mg : Str → Option Value} {base : Heap}
theorem sc_Canvas_add_radial : FnScope ["self", "m", "radius", "how", "stops"] ["self", "m", "radius", "how", "stops"] (defScope s_Canvas_add_radial) := ⟨rfl, rfl, rfl, by decide +kernel, rfl, by decide +kernel, by decide +kernel⟩
theorem bd_Canvas_add_radial : BindAll "add_radial" "Canvas.add_radial" s_Canvas_add_radial ["self", "m", "radius", "how", "stops"] := fun _ _ _ _ _ _ us hl => match us, hl with | [_, _, _, _, _], _ => rfl
theorem ok_Canvas_add_radial (T : Txt K mg) : Ok P w K mg base (L2.CX P w) 4 (He.fAd K ("Canvas", some "add_radial")) ["self", "m", "radius", "how", "stops"] (fun vs H Q E => ∃ (G : Gh) (X : List Addr) (cv : Addr) (c : Cv) (s : State) (u : V) (m : Vd.Pt) (r how : Nat) (ls : Addr) (l : List (Nat × Nat)), vs = [.ref cv, u, .int (r : Int), .int (how : Int), .ref ls] ∧ CanvasAt K G X H cv c s ∧
    TupI H u [m.1, m.2] ∧ ListOf SpAt H ls l ∧ l.length ≤ 30000 ∧ (∀ z ∈ l, z.2 < 4294967296) ∧ Does K X cv c H (step s (.radial m r how l)) Q E) := by
  refine mk_okX T.f_Canvas_add_radial sc_Canvas_add_radial bd_Canvas_add_radial (fun _ _ _ _ ⟨_, _, _, _, _, _, _, _, _, _, _, e, _⟩ => by rw [e]; rfl) fun cdv A outer s0 H vs Q E hr h => ?_
  obtain ⟨G, X, cv, c, s, u, m, r, how, ls, l, rfl, hc, ⟨tm, rfl, htm⟩, hls, hz, hb, d⟩ := h
  have ho := hc.obj
  have no : ∀ H', Same H H' → (2 < how ∨ Wrvdot.stopsOk l = false ∨ Wrvdot.placeOk m = false ∨ 1048576 < r) → E (.ref (He.ga K "InvalidCall")) none H' := fun H' sm z => by
    have er : step s (.radial m r how l) = (s, .refused (-1)) := if_pos z
    rw [er] at d
    exact d.no hc sm
  refine ⟨_, (Evl.pss_cut (ps_if (PW.pt (pw_or (pt_cmpR op_gt (pv 3) pe_int (nomark _)) (pw_or (pt_not (pt_val (c_call (ok_are_stops (K := K) T) hr (by decide) rfl T.g_are_stops pass0 (pa_cons (pv 4) pa_nil)))) (pw_or (pt_val (c_call (ok_is_far (K := K) T) hr (by decide) rfl T.g_is_far pass0 (pa_cons (pe_ix (kx_ixt (K := K) rfl) (pv 1) pe_int (fun _ _ => rfl)) pa_nil))) (pw_or (pt_val (c_call (ok_is_far (K := K) T) hr (by decide) rfl T.g_is_far pass0 (pa_cons (pe_ix (kx_ixt (K := K) rfl) (pv 1) pe_int (fun _ _ => rfl)) pa_nil))) (pw_or1 (pt_cmpR op_gt (pv 2) (c_int rfl T.i_FAR) (nomark _)))))))) (pss_one (ps_raise rfl (takes_of rfl rfl rfl rfl) (pmk_own0 PySem.F.excBase_Exception T.x_InvalidCall.1 T.g_InvalidCall T.x_InvalidCall.2.1 (raises_own T.x_InvalidCall.2.2.1 T.x_InvalidCall.2.2.2) (by exact rfl)))) pss_nil)
      (pss_one (ps_ret (c_meth (ok_Canvas_add_paint (K := K) T) hr (by decide) T.c_Canvas T.m_Canvas_add_paint (out_of (takes_of rfl rfl rfl rfl)) (pv 0) (pa_cons (c_make (ok_Radial_init (K := K) T) T.k_Radial hr (by decide) rfl T.g_Radial (fun _ => pass0) (pa_cons (pe_ix (kx_ixt (K := K) rfl) (pv 1) pe_int (fun _ _ => rfl)) (pa_cons (pe_ix (kx_ixt (K := K) rfl) (pv 1) pe_int (fun _ _ => rfl)) (pa_cons (pv 2) (pa_cons (c_call (ok_shade_of (K := K) T) hr (by decide) rfl T.g_shade_of pass0 (pa_cons (pv 3) (pa_cons (pv 4) pa_nil))) pa_nil))))) pa_nil))))), ?_⟩
  walk_at "go"
  refine ⟨fun σ' H' => σ' = [some (.ref cv), some (.ref tm), some (.int (r : Int)), some (.int (how : Int)), some (.ref ls)] ∧ Same H H' ∧ how ≤ 2 ∧ Wrvdot.stopsOk l = true ∧ Wrvdot.placeOk m = true ∧ r ≤ 1048576, ?_, ?_⟩
  · walk_at "go"
    refine ite2 (fun c0 => ?_) (fun c0 => ?_)
    · have c1 : (2 : Int) < how := ddec c0
      exact no _ (Same.refl _) (.inl (by omega))
    have h2 : ¬ (2 : Int) < how := dnot c0
    walk_at "go"
    refine ⟨ls, l, rfl, hls, hz, fun H1 s1 => ?_⟩
    have htm1 := s1 _ _ htm
    have pm := place_far m
    walk_at "go"
    cases hok : Wrvdot.stopsOk l with
    | false => exact no _ s1 (.inr (.inl hok))
    | true =>
      refine iteF ?_
      walk_at "go"
      refine ite2 (fun c0 => ?_) (fun c0 => ?_)
      · have c1 : farB m.1 = true := c0
        exact no _ s1 (.inr (.inr (.inl (by rw [pm, c1] <;> rfl))))
      have c1 : farB m.1 = false := Bool.eq_false_iff.mpr c0
      walk_at "go"
      refine ite2 (fun c0 => ?_) (fun c0 => ?_)
      · have c2 : farB m.2 = true := c0
        exact no _ s1 (.inr (.inr (.inl (by rw [pm, c1, c2] <;> rfl))))
      have c2 : farB m.2 = false := Bool.eq_false_iff.mpr c0
      walk_at "go"
      refine ite2 (fun c0 => ?_) (fun c0 => ?_)
      · have c3 : (1048576 : Int) < r := ddec c0
        exact no _ s1 (.inr (.inr (.inr (by omega))))
      · have c3 : ¬ (1048576 : Int) < r := dnot c0
        exact ⟨rfl, s1, by omega, rfl, by rw [pm, c1, c2] <;> rfl, by omega⟩
  rintro σ' H1 ⟨rfl, s1, h2, hok, pm, hr2⟩
  have htm1 := s1 _ _ htm
  walk_at "go"
  refine ⟨ls, l, how, rfl, ListOf.mono (R := SpAt) (fun _ _ _ _ e h => TupI.mono e h) s1 hls, hok, hb, h2, fun H2 p lss dd s2 hp hlss hdd sw => ?_⟩
  have htm2 := s2 _ _ htm1
  walk_at "go"
  intro x dx hx hdx ne
  refine ⟨x, dx, _, _, _, _, rfl, upd_same, fun H3 b3 x3 => ?_⟩
  have sx := made_same hx hdx b3
  have s12 := s1.trans s2
  have s03 := s12.trans sx
  have hcl := (hc.label (l := l.map Wrvdot.stopOf) (s1.free hdd)).same s03
  refine ⟨rfl, ?_⟩
  walk_at "go"
  have er : step s (.radial m r how l) = Wrvdot.addPaint s (.radial m (r : Int) how (l.map Wrvdot.stopOf)) := if_neg (by
    rw [hok, pm]
    simp
    omega)
  rw [er] at d
  refine ⟨_, X, cv, c, s, .ref x, .radial m (r : Int) how (l.map Wrvdot.stopOf), rfl, hcl, ?_, d.same s03⟩
  exact ⟨x, dx, _, rfl, (hide_at (hc.fresh (s12.free hx))).trans x3, near_ok pm, ⟨by omega, by omega⟩, (sw.same sx).hid hcl.noT (hc.fresh (s1.free hp)) (hc.fresh (s1.free hlss)) (hc.fresh (s1.free hdd)) (if_pos rfl)⟩
theorem sc_Canvas_add_pictured : FnScope ["self", "picture", "how", "smooth", "six"] ["self", "picture", "how", "smooth", "six"] (defScope s_Canvas_add_pictured) := ⟨rfl, rfl, rfl, by decide +kernel, rfl, by decide +kernel, by decide +kernel⟩
theorem bd_Canvas_add_pictured : BindAll "add_pictured" "Canvas.add_pictured" s_Canvas_add_pictured ["self", "picture", "how", "smooth", "six"] := fun _ _ _ _ _ _ us hl => match us, hl with | [_, _, _, _, _], _ => rfl
theorem ok_Canvas_add_pictured (T : Txt K mg) : Ok P w K mg base (L2.CX P w) 3 (He.fAd K ("Canvas", some "add_pictured")) ["self", "picture", "how", "smooth", "six"] (fun vs H Q E => ∃ (G : Gh) (X : List Addr) (cv : Addr) (c : Cv) (s : State) (pi how sm : Nat) (ls : Addr) (l : List Int), vs = [.ref cv, .int (pi : Int), .int (how : Int), .int (sm : Int), .ref ls] ∧ CanvasAt K G X H cv c s ∧
    H ls = some (.lst (l.map V.int)) ∧ ls ∉ X ++ c.own cv ∧ l.length ≤ 30000 ∧ Does K X cv c H (step s (.pictured pi how sm l)) Q E) := by
  refine mk_okX T.f_Canvas_add_pictured sc_Canvas_add_pictured bd_Canvas_add_pictured (fun _ _ _ _ ⟨_, _, _, _, _, _, _, _, _, _, e, _⟩ => by rw [e]; rfl) fun cdv A outer s0 H vs Q E hr h => ?_
  obtain ⟨G, X, cv, c, s, pi, how, sm, ls, l, rfl, hc, hls, nls, hz, d⟩ := h
  obtain ⟨ho, ⟨v1, p1, p2⟩, ⟨v2, q1, q2⟩, hl, lss, nd, xs, few⟩ := id hc
  have fc_Canvas := T.c_Canvas
  have fn_Canvas_pictures := T.n_Canvas_pictures
  have l1 := p2.1
  refine ⟨_, (Evl.pss_cut (ps_if (PW.pt (pw_or (pt_cmpR op_ge (pv 1) (pe_callB (kx_len (K := K) rfl) (by rfl) T.z_len PySem.boot_len (pa_cons (kx_fld (K := K) rfl (pv 0) rfl) pa_nil)) (nomark _)) (pw_or (pt_cmpR op_gt (pv 2) pe_int (nomark _)) (pw_or (pt_cmpR op_gt (pv 3) pe_int (nomark _)) (pw_or1 (pt_not (pt_val (c_call (ok_are_six (K := K) T) hr (by decide) rfl T.g_are_six pass0 (pa_cons (pv 4) pa_nil))))))))) (pss_one (ps_raise rfl (takes_of rfl rfl rfl rfl) (pmk_own0 PySem.F.excBase_Exception T.x_InvalidCall.1 T.g_InvalidCall T.x_InvalidCall.2.1 (raises_own T.x_InvalidCall.2.2.1 T.x_InvalidCall.2.2.2) (by exact rfl)))) pss_nil)
      (pss_one (ps_ret (c_meth (ok_Canvas_add_paint (K := K) T) hr (by decide) T.c_Canvas T.m_Canvas_add_paint (out_of (takes_of rfl rfl rfl rfl)) (pv 0) (pa_cons (c_make (ok_Pictured_init (K := K) T) T.k_Pictured hr (by decide) rfl T.g_Pictured (fun _ => pass0) (pa_cons (pe_ix (kx_ixl (K := K) rfl) (kx_fld (K := K) rfl (pv 0) rfl) (pv 1) (fun _ _ => rfl)) (pa_cons (pv 2) (pa_cons (pv 3) (pa_cons (pv 4) pa_nil))))) pa_nil))))), ?_⟩
  walk_at "go"
  have es : sixB l = true ↔ l.length = 6 ∧ (l.all fun (z : Int) => decide (-Wrvdot.MAPS ≤ z) && decide (z ≤ Wrvdot.MAPS)) = true := by
    unfold sixB
    rw [Bool.and_eq_true, decide_eq_true_iff]
    exact Iff.rfl
  refine ⟨fun σ' H' => σ' = [some (.ref cv), some (.int (pi : Int)), some (.int (how : Int)), some (.int (sm : Int)), some (.ref ls)] ∧ Same H H' ∧ pi < s.pictures.length ∧ how ≤ 3 ∧ sm ≤ 1 ∧ sixB l = true, ?_, ?_⟩
  · walk_at "go"
    refine ite2 (fun c0 => ?_) (fun c0 => ?_)
    · have c1 : (v1.length : Int) ≤ pi := ddec c0
      have er : step s (.pictured pi how sm l) = (s, .refused (-1)) := by
        show (match s.pictures[pi]? with
          | none => _
          | some x => _) = _
        rw [List.getElem?_eq_none (by omega)] <;> rfl
      rw [er] at d
      exact d.no hc (Same.refl _)
    have c1 : ¬ (v1.length : Int) ≤ pi := dnot c0
    have lt : pi < s.pictures.length := by omega
    have no : ∀ H', Same H H' → (3 < how ∨ 1 < sm ∨ sixB l = false) → E (.ref (He.ga K "InvalidCall")) none H' := fun H' sme z => by
      have er : step s (.pictured pi how sm l) = (s, .refused (-1)) := by
        show (match s.pictures[pi]? with
          | none => _
          | some x => _) = _
        rw [List.getElem?_eq_getElem lt]
        refine if_pos ?_
        rcases z with z | z | z
        · exact .inl z
        · exact .inr (.inl z)
        · by_cases h6 : l.length = 6
          · refine .inr (.inr (.inr ?_))
            cases e : (l.all fun (z : Int) => decide (-Wrvdot.MAPS ≤ z) && decide (z ≤ Wrvdot.MAPS)) with
            | false => rfl
            | true =>
              rw [es.mpr ⟨h6, e⟩] at z
              cases z
          · exact .inr (.inr (.inl h6))
      rw [er] at d
      exact d.no hc sme
    walk_at "go"
    refine ite2 (fun c0 => ?_) (fun c0 => ?_)
    · have c2 : (3 : Int) < how := ddec c0
      exact no _ (Same.refl _) (.inl (by omega))
    have c2 : ¬ (3 : Int) < how := dnot c0
    walk_at "go"
    refine ite2 (fun c0 => ?_) (fun c0 => ?_)
    · have c3 : (1 : Int) < sm := ddec c0
      exact no _ (Same.refl _) (.inr (.inl (by omega)))
    have c3 : ¬ (1 : Int) < sm := dnot c0
    walk_at "go"
    refine ⟨ls, l, rfl, hls, hz, fun H1 s1 => ?_⟩
    walk_at "go"
    cases hok : sixB l with
    | false => exact no _ s1 (.inr (.inr hok))
    | true => exact ⟨rfl, s1, lt, by omega, by omega, rfl⟩
  rintro σ' H1 ⟨rfl, s1, lt, h3, h1, hok⟩
  have ho1 := s1 _ _ ho
  have p11 := s1 _ _ p1
  have hls1 := s1 _ _ hls
  have ep := List.getElem?_eq_getElem lt
  generalize s.pictures[pi] = pic at ep
  obtain ⟨pv1, hpv, pat⟩ := p2.at ep
  walk_at "go"
  refine ⟨_, _, _, _, rfl, rfl, SqL.of p11, at_of (j := pi) rfl hpv, ?_⟩
  walk_at "go"
  intro x dx hx hdx ne
  refine ⟨x, dx, _, _, _, _, rfl, upd_same, fun H3 b3 x3 => ?_⟩
  have sx := made_same hx hdx b3
  have s03 := s1.trans sx
  have hc3 := hc.same s03
  refine ⟨rfl, ?_⟩
  walk_at "go"
  obtain ⟨l6, lall⟩ := es.mp hok
  have er : step s (.pictured pi how sm l) = Wrvdot.addPaint s (.picture pic (Wrvdot.mapOf l) how (sm == 1)) := by
    show (match s.pictures[pi]? with
      | none => _
      | some x => _) = _
    rw [ep]
    refine if_neg ?_
    rw [lall]
    simp
    omega
  rw [er] at d
  refine ⟨G, X, cv, c, s, .ref x, .picture pic (Wrvdot.mapOf l) how (sm == 1), rfl, hc3, ?_, d.same s03⟩
  refine ⟨l, sm, ⟨x, dx, pv1, ls, rfl, (hide_at (hc.fresh (s1.free hx))).trans x3, pat.keep (Keep.of (hide_same s03)), (hide_at nls).trans (sx _ _ hls1), l6, fun z m => ?_, h3, h1⟩, rfl, rfl⟩
  have := List.all_eq_true.mp lall z m
  rw [Bool.and_eq_true, decide_eq_true_iff, decide_eq_true_iff] at this
  exact this
end
end Pd
end
section
set_option Elab.async false
set_option linter.all false
set_option maxRecDepth 100000
set_option maxHeartbeats 4000000
namespace Pd
open PySem PySem.Spec PyProof.Rows L2
local macro_rules | `(tactic| walk_at "at") => `(tactic| first
  | assumption
  | exact upd_same
  | (refine (show Same _ _ by assumption) _ _ ?_; walk_at "at")
  | (refine (show But _ _ _ by assumption) _ _ (by assumption) ?_; assumption)
  | (refine Same.new (by assumption) _ _ ?_; walk_at "at")
  | (refine (upd_ne (ne_of (by assumption) (by assumption) (by intro z; cases z))).trans ?_; walk_at "at"))
local macro_rules | `(tactic| walk_at "go") => `(tactic| repeat (first
  | refine ⟨_, rfl, ?_⟩
  | refine ⟨_, _, rfl, rfl, ?_⟩
  | refine ⟨_, _, rfl, ?_⟩
  | refine ⟨_, _, _, rfl, ?_⟩
  | refine And.intro rfl ?_
  | refine And.intro (Or.inl ⟨by decide, by decide⟩) ?_
  | refine And.intro (Or.inr ⟨by decide, by decide⟩) ?_
  | refine And.intro ⟨by decide, by decide⟩ ?_
  | refine And.intro (Or.inl ⟨by omega, by omega⟩) ?_
  | refine And.intro (Or.inr ⟨by omega, by omega⟩) ?_
  | refine And.intro ⟨by omega, by omega⟩ ?_
  | refine And.intro trivial ?_
  | refine And.intro (by omega) ?_
  | refine And.intro (sz (Nat.le_of_ble_eq_true rfl)) ?_
  | refine And.intro (Or.inl ⟨rfl, _, SqL.of (by walk_at "at")⟩) ?_
  | refine ⟨_, _, _, _, rfl, rfl, SqT.of (by walk_at "at"), (by rfl), ?_⟩
  | refine ⟨_, _, _, _, rfl, rfl, SqL.of (by walk_at "at"), (by rfl), ?_⟩
  | refine ⟨_, _, _, _, _, rfl, (by walk_at "at"), (by assumption), (by assumption), Lk.h, ?_⟩
  | refine ⟨_, _, _, rfl, rfl, (by walk_at "at"), ?_⟩
  | refine ⟨_, _, _, rfl, (by walk_at "at"), LkN.h, ?_⟩
  | refine ⟨_, _, _, _, rfl, (by walk_at "at"), (by assumption), (by assumption), (by apply few_lt; decide), ?_⟩
  | refine ⟨_, _, (by walk_at "at"), (by apply few_lt; decide), ?_⟩
  | refine ⟨_, _, rfl, Or.inl (SqL.of (by walk_at "at")), ?_⟩))
open Wrvdot (State Answer step)
theorem colours_is (s : State) : (Wrvdot.colours s : Int) = (s.pictures.map fun p => ((p.w * p.h : Nat) : Int)).sum := by
  have h : ∀ (l : List Vd.Picture) (n : Nat), ((l.foldl (fun (n : Nat) (p : Vd.Picture) => n + p.w * p.h) n : Nat) : Int) = (n : Int) + (l.map fun p => ((p.w * p.h : Nat) : Int)).sum := by
    intro l
    induction l with
    | nil => intro n; simp
    | cons p l ih =>
      intro n
      rw [List.foldl_cons, ih, List.map_cons, List.sum_cons]
      push_cast
      omega
  unfold Wrvdot.colours
  rw [h]
  simp
theorem colours_more (s : State) (p : Vd.Picture) : Wrvdot.colours { s with pictures := s.pictures ++ [p] } = Wrvdot.colours s + p.w * p.h := by
  unfold Wrvdot.colours
  rw [List.foldl_append]
  rfl
section
variable {K : PySem.W.Frag} {G : Gh} {X : List Addr} {H : Hp} {cv : Addr} {c : Cv} {s : State}
/-- a picture more -/
theorem CanvasAt.picture (h : CanvasAt K G X H cv c s) {vs : List V} {v : V} {p : Vd.Picture} (hv : H c.Lp = some (.lst vs)) (hp : PicAt K (hide (X ++ c.own cv) H) v p) (hz : s.pictures.length < 8) (hc : Wrvdot.colours s + p.w * p.h ≤ 1024) :
    CanvasAt K G X (upd H c.Lp (.lst (vs ++ [v]))) cv c { s with pictures := s.pictures ++ [p] } := by
  obtain ⟨o, ⟨v1, p1, p2⟩, ⟨v2, q1, q2⟩, l, ls, nd, xs, few⟩ := h
  obtain ⟨⟨n1, n2, n3⟩, ⟨n4, n5⟩, n6, n7⟩ := own_ne nd
  have eh : hide (X ++ c.own cv) (upd H c.Lp (.lst (vs ++ [v]))) = hide (X ++ c.own cv) H := hide_upd (List.mem_append_right _ own_mem.2.1)
  rw [hv] at p1
  cases p1
  refine ⟨by rw [upd_ne n1]; exact o, ⟨_, upd_same, by rw [eh]; exact p2.snoc hp⟩, ⟨v2, by rw [upd_ne (Ne.symm n4)]; exact q1, by rw [eh]; exact q2⟩, by rw [upd_ne (Ne.symm n5)]; exact l, ?_, nd, xs_upd own_mem.2.1 xs, ?_⟩
  · exact ls.go (fun _ _ => rfl) (Grow.refl' eh.symm) fun l hl => ⟨upd_ne (n7 l hl).1.2.1, upd_ne (n7 l hl).2.2.1⟩
  · obtain ⟨f1, f2, f3⟩ := few
    exact ⟨by rw [List.length_append]; exact hz, by rw [colours_more]; exact hc, f3⟩
end
section
variable {P : Program} {w : World} {K : PySem.W.Frag} {mg : Str → Option Value} {base : Heap}
theorem sc_Canvas_add_picture : FnScope ["self", "width", "height", "colours", "before", "picture", "colour"] ["self", "width", "height", "colours"] (defScope s_Canvas_add_picture) := ⟨rfl, rfl, rfl, by decide +kernel, rfl, by decide +kernel, by decide +kernel⟩
theorem bd_Canvas_add_picture : BindAll "add_picture" "Canvas.add_picture" s_Canvas_add_picture ["self", "width", "height", "colours"] := fun _ _ _ _ _ _ us hl => match us, hl with | [_, _, _, _], _ => rfl
theorem ok_Canvas_add_picture (T : Txt K mg) : Ok P w K mg base (L2.CX P w) 3 (He.fAd K ("Canvas", some "add_picture")) ["self", "width", "height", "colours"] (fun vs H Q E => ∃ (G : Gh) (X : List Addr) (cv : Addr) (c : Cv) (s : State) (pw ph : Nat) (ls : Addr) (b : List Nat), vs = [.ref cv, .int (pw : Int), .int (ph : Int), .ref ls] ∧ CanvasAt K G X H cv c s ∧
    H ls = some (.lst (b.map fun (n : Nat) => V.int (n : Int))) ∧ b.length ≤ 30000 ∧ (∀ n ∈ b, n < 4294967296) ∧ pw < 4294967296 ∧ ph < 4294967296 ∧ Does K X cv c H (step s (.picture pw ph b)) Q E) := by
  refine mk_okX T.f_Canvas_add_picture sc_Canvas_add_picture bd_Canvas_add_picture (fun _ _ _ _ ⟨_, _, _, _, _, _, _, _, _, e, _⟩ => by rw [e]; rfl) fun cdv A outer s0 H vs Q E hr h => ?_
  obtain ⟨G, X, cv, c, s, pw, ph, ls, b, rfl, hc, hls, hz, hb, bw, bh, d⟩ := h
  obtain ⟨ho, ⟨v1, p1, p2⟩, ⟨v2, q1, q2⟩, hl, lss, nd, xs, few⟩ := id hc
  have fc_Canvas := T.c_Canvas
  have fc_Picture := T.c_Picture
  have fn_Canvas_pictures := T.n_Canvas_pictures
  have fn_Picture_colours := T.n_Picture_colours
  have l1 := p2.1
  have lb : (b.map fun (n : Nat) => V.int (n : Int)).length = b.length := List.length_map _
  refine ⟨_, (Evl.pss_cut (ps_if (PW.pt (pw_or (pt_cmpR op_eq (pv 1) pe_int (nomark _)) (pw_or (pt_cmpR op_eq (pv 2) pe_int (nomark _)) (pw_or1 (pt_cmpR op_ne (pe_callB (kx_len (K := K) rfl) (by rfl) T.z_len PySem.boot_len (pa_cons (pv 3) pa_nil)) (pe_op op_mul (pv 1) (pv 2)) (nomark _)))))) (pss_one (ps_raise rfl (takes_of rfl rfl rfl rfl) (pmk_own0 PySem.F.excBase_Exception T.x_InvalidCall.1 T.g_InvalidCall T.x_InvalidCall.2.1 (raises_own T.x_InvalidCall.2.2.1 T.x_InvalidCall.2.2.2) (by exact rfl)))) pss_nil)
      (pss_cons (ps_set (i := 4) sc_Canvas_add_picture.nd rfl (Or.inl rfl) (pe_callB (kx_sum (K := K) rfl rfl) (by rfl) T.z_sum (by decide +kernel) (pa_cons (pe_lc (own := [("picture", 5)]) (by rfl) sc_Canvas_add_picture.nd (kx_list (K := K) rfl (kx_fld (K := K) rfl (pv 0) rfl)) (blkOk_by (own := [("picture", 5)]) (N := ["self", "width", "height", "colours", "before", "picture", "colour"]) (sc := defScope s_Canvas_add_picture) (by decide +kernel)) (fun _ _ _ _ _ => (pg_name (i := 5) sc_Canvas_add_picture.nd rfl (Or.inl rfl))) (fun _ _ _ _ _ => pts_nil) (fun _ _ _ _ _ => (pe_callB (kx_len (K := K) rfl) (by rfl) T.z_len PySem.boot_len (pa_cons (kx_fld (K := K) rfl (pv 5) rfl) pa_nil)))) pa_nil)))
      (Evl.pss_cut (ps_if (PW.pt (pw_or (pt_cmpR op_ge (pe_callB (kx_len (K := K) rfl) (by rfl) T.z_len PySem.boot_len (pa_cons (kx_fld (K := K) rfl (pv 0) rfl) pa_nil)) (c_int rfl T.i_MOST_PICTURES) (nomark _)) (pw_or1 (pt_cmpR op_gt (pe_op op_add (pv 4) (pe_callB (kx_len (K := K) rfl) (by rfl) T.z_len PySem.boot_len (pa_cons (pv 3) pa_nil))) (c_int rfl T.i_MOST_COLOURS) (nomark _))))) (pss_one (ps_raise rfl (takes_of rfl rfl rfl rfl) (pmk_own0 PySem.F.excBase_Exception T.x_LimitReached.1 T.g_LimitReached T.x_LimitReached.2.1 (raises_own T.x_LimitReached.2.2.1 T.x_LimitReached.2.2.2) (by exact rfl)))) pss_nil)
      (pss_cons (ps_expr (kx_bm (K := K) rfl PySem.F.plainAttrs_list PySem.F.slot_list_append PySem.F.type_list_append mt_append (kx_fld (K := K) rfl (pv 0) rfl) (pa_cons (c_make (ok_Picture_init (K := K) T) T.k_Picture hr (by decide) rfl T.g_Picture (fun _ => pass0) (pa_cons (pv 1) (pa_cons (pv 2) (pa_cons (pe_lc (own := [("colour", 6)]) (by rfl) sc_Canvas_add_picture.nd (kx_list (K := K) rfl (pv 3)) (blkOk_by (own := [("colour", 6)]) (N := ["self", "width", "height", "colours", "before", "picture", "colour"]) (sc := defScope s_Canvas_add_picture) (by decide +kernel)) (fun _ _ _ _ _ => (pg_name (i := 6) sc_Canvas_add_picture.nd rfl (Or.inl rfl))) (fun _ _ _ _ _ => pts_nil) (fun _ _ _ _ _ => (c_call (ok_laid_on (K := K) T) hr (by decide) rfl T.g_laid_on pass0 (pa_cons (c_call (ok_parts_of (K := K) T) hr (by decide) rfl T.g_parts_of pass0 (pa_cons (pv 6) pa_nil)) pa_nil)))) pa_nil)))) pa_nil)))
      (pss_one (ps_ret (pe_op op_sub (pe_callB (kx_len (K := K) rfl) (by rfl) T.z_len PySem.boot_len (pa_cons (kx_fld (K := K) rfl (pv 0) rfl) pa_nil)) pe_int))))))), ?_⟩
  walk_at "go"
  refine ⟨fun σ' H' => (∃ e f g : Option V, σ' = [some (.ref cv), some (.int (pw : Int)), some (.int (ph : Int)), some (.ref ls), e, f, g]) ∧ H' = H ∧ 0 < pw ∧ 0 < ph ∧ b.length = pw * ph, ?_, ?_⟩
  · walk_at "go"
    have no : (pw < 1 ∨ ph < 1 ∨ b.length ≠ pw * ph) → E (.ref (He.ga K "InvalidCall")) none H := fun z => by
      have er : step s (.picture pw ph b) = (s, .refused (-1)) := if_pos z
      rw [er] at d
      exact d.no hc (Same.refl _)
    refine ite2 (fun c0 => ?_) (fun c0 => ?_)
    · have c1 : (pw : Int) = 0 := dint c0
      exact no (.inl (by omega))
    have c1 : ¬ (pw : Int) = 0 := dint_not c0
    walk_at "go"
    refine ite2 (fun c0 => ?_) (fun c0 => ?_)
    · have c2 : (ph : Int) = 0 := dint c0
      exact no (.inr (.inl (by omega)))
    have c2 : ¬ (ph : Int) = 0 := dint_not c0
    walk_at "go"
    have em : (pw : Int) * ph = ((pw * ph : Nat) : Int) := (Int.natCast_mul _ _).symm
    refine ite2 (fun c0 => ?_) (fun c0 => ?_)
    · have c3 : ((b.map fun (n : Nat) => V.int (n : Int)).length : Int) ≠ (pw : Int) * ph := dne c0
      rw [lb, em] at c3
      exact no (.inr (.inr fun e => c3 (by rw [e])))
    · have c3 : ((b.map fun (n : Nat) => V.int (n : Int)).length : Int) = (pw : Int) * ph := dne_not c0
      rw [lb, em] at c3
      exact ⟨⟨_, _, _, rfl⟩, rfl, by omega, by omega, Int.ofNat_inj.mp c3⟩
  rintro σ' H' ⟨⟨e1, f1, g1, rfl⟩, rfl, w0, h0, area⟩
  walk_at "go"
  refine ⟨⟨_, SqL.of p1⟩, fun D hD => lc_build walk_list (fun k y _ => ∃ p, s.pictures[k]? = some p ∧ y = .int ((p.w * p.h : Nat) : Int)) (fun _ _ _ _ _ _ _ e => e) hD (fun H' s1 => SqL.of (s1 _ _ p1)) (by omega) ?_ ?_⟩
  · rintro k x H2 H3 F B hk s2 ⟨rfl, hx⟩ hF
    obtain ⟨p, hp, pa, pdx, plc, rfl, hpa, ⟨ws, hws, aw⟩, po⟩ := p2.get hx
    have hpa2 := s2 _ _ (hide_sub _ _ _ _ hpa)
    have hws2 := s2 _ _ (hide_sub _ _ _ _ hws)
    have lw := aw.1
    rw [List.length_map, po.2.2.2.2.1] at lw
    walk_at "go"
    exact hF _ _ (Same.refl _) ⟨p, hp, congrArg V.int (by rw [lw])⟩
  · intro H2 ys s2 hy hl2 hoo
    have ey : ys = (s.pictures.map fun p => ((p.w * p.h : Nat) : Int)).map V.int := by
      rw [List.map_map]
      refine eq_map (hl2.trans l1) fun k y p h1 h2 => ?_
      obtain ⟨p', e1, e2⟩ := hoo k y h1
      rw [h2] at e1
      cases e1
      exact e2
    rw [ey] at hy
    have tot := colours_is s
    have ho2 := s2 _ _ ho
    have p12 := s2 _ _ p1
    have hls2 := s2 _ _ hls
    walk_at "go"
    refine ⟨_, _, rfl, SqL.of hy, ?_⟩
    rw [← tot]
    walk_at "go"
    refine ⟨fun σ' H' => (∃ e f : Option V, σ' = [some (.ref cv), some (.int (pw : Int)), some (.int (ph : Int)), some (.ref ls), some (.int (Wrvdot.colours s : Int)), e, f]) ∧ H' = H2 ∧ s.pictures.length < 8 ∧ Wrvdot.colours s + pw * ph ≤ 1024, ?_, ?_⟩
    · walk_at "go"
      have no : (8 ≤ s.pictures.length ∨ 1024 < Wrvdot.colours s + pw * ph) → E (.ref (He.ga K "LimitReached")) none H2 := fun z => by
        have er : step s (.picture pw ph b) = (s, .refused (-3)) := (if_neg (by omega)).trans (if_pos z)
        rw [er] at d
        exact d.no hc s2
      refine ite2 (fun c0 => ?_) (fun c0 => ?_)
      · have c1 : (8 : Int) ≤ v1.length := ddec c0
        exact no (.inl (by omega))
      have c1 : ¬ (8 : Int) ≤ v1.length := dnot c0
      walk_at "go"
      refine ite2 (fun c0 => ?_) (fun c0 => ?_)
      · have c2 : (1024 : Int) < (Wrvdot.colours s : Int) + (b.map fun (n : Nat) => V.int (n : Int)).length := ddec c0
        rw [lb, area] at c2
        exact no (.inr (by omega))
      · have c2 : ¬ (1024 : Int) < (Wrvdot.colours s : Int) + (b.map fun (n : Nat) => V.int (n : Int)).length := dnot c0
        rw [lb, area] at c2
        exact ⟨⟨_, _, rfl⟩, rfl, by omega, by omega⟩
    rintro σ' H3 ⟨⟨e2, f2, rfl⟩, rfl, n8, n1024⟩
    walk_at "go"
    refine ⟨⟨_, SqL.of hls2⟩, fun D hD => lc_build walk_list (fun k y H' => ∃ n, b[k]? = some n ∧ ColAt H' y (Vd.colOf n).laid) ?_ hD (fun H' s1 => SqL.of (s1 _ _ hls2)) (by omega) ?_ ?_⟩
    · rintro k y H4 H5 zs hz bt ⟨n, e, t, rfl, ht⟩
      exact ⟨n, e, t, rfl, bt _ _ (ne_of ht hz (by intro z; cases z)) ht⟩
    · rintro k x H4 H5 F B hk s4 ⟨rfl, hx⟩ hF
      rw [List.getElem?_map] at hx
      obtain ⟨n, hn, rfl⟩ := Option.map_eq_some_iff.mp hx
      have bn := hb n (List.mem_of_getElem? hn)
      walk_at "go"
      intro va H6 s6 ca
      walk_at "go"
      refine ⟨va, _, rfl, ca, colOf_sml n, fun vb H7 s7 cb => ?_⟩
      exact hF _ _ (s6.trans s7) ⟨n, hn, cb⟩
    · intro H4 ys s4 hy hl4 ho4
      walk_at "go"
      intro x dx hx hdx ne
      refine ⟨x, dx, _, _, _, rfl, upd_same, fun H5 b5 x5 => ?_⟩
      have sx := made_same hx hdx b5
      have s05 := (s2.trans s4).trans sx
      have hc5 := hc.same s05
      have p15 := (s4.trans sx) _ _ p12
      have w1 : v1.length < sizeLine := szl (by omega)
      refine ⟨rfl, ?_⟩
      walk_at "go"
      have lay : ListOf ColAt H5 D ((b.map Vd.colOf).map Vd.Col.laid) := by
        refine ⟨ys, sx _ _ hy, by rw [List.length_map, List.length_map, hl4, lb], fun k v x hv hx => ?_⟩
        obtain ⟨n, e, cn⟩ := ho4 k v hv
        rw [List.getElem?_map, List.getElem?_map, e] at hx
        cases hx
        exact cn.mono sx
      obtain ⟨ys', hys', ays'⟩ := lay
      have pic : PicAt K (hide (X ++ c.own cv) H5) (.ref x) ⟨pw, ph, b.map Vd.colOf⟩ := by
        refine ⟨x, dx, D, rfl, (hide_at (hc.fresh ((s2.trans s4).free hx))).trans x5, ⟨ys', (hide_at (hc.fresh (s2.free hD))).trans hys', ays'.imp fun _ _ h => h.hid hc5.noT⟩, ?_⟩
        have a1 : pw ≤ pw * ph := Nat.le_mul_of_pos_right pw h0
        have a2 : ph ≤ pw * ph := Nat.le_mul_of_pos_left ph w0
        refine ⟨w0, by show pw ≤ 1024; omega, h0, by show ph ≤ 1024; omega, by rw [List.length_map]; exact area, fun q hq => ?_⟩
        obtain ⟨n, _, rfl⟩ := List.mem_map.mp hq
        exact colOf_sml n
      have er : step s (.picture pw ph b) = ({ s with pictures := s.pictures ++ [⟨pw, ph, b.map Vd.colOf⟩] }, .number s.pictures.length) := (if_neg (by omega)).trans (if_neg (by show ¬ (8 ≤ s.pictures.length ∨ 1024 < Wrvdot.colours s + pw * ph); omega))
      rw [er] at d
      have hc6 := hc5.picture p15 pic n8 n1024
      have ho6 := hc6.obj
      have p16 : (upd H5 c.Lp (.lst (v1 ++ [.ref x]))) c.Lp = some (.lst (v1 ++ [.ref x])) := upd_same
      walk_at "go"
      refine qi_of ?_ (d.same s05 _ G c (keep_upd own_mem.2.1) hc6)
      show (s.pictures.length : Int) = ((v1 ++ [V.ref x]).length : Int) - 1
      rw [List.length_append]
      show (s.pictures.length : Int) = ((v1.length + 1 : Nat) : Int) - 1
      omega
end
end Pd
end
section
set_option Elab.async false
set_option linter.all false
set_option maxRecDepth 100000
set_option maxHeartbeats 4000000
namespace Pd
open PySem PySem.Spec PyProof.Rows L2
local macro_rules | `(tactic| walk_at "at") => `(tactic| first
  | assumption
  | exact upd_same
  | (refine (show Same _ _ by assumption) _ _ ?_; walk_at "at")
  | (refine (show But _ _ _ by assumption) _ _ (by assumption) ?_; assumption)
  | (refine Same.new (by assumption) _ _ ?_; walk_at "at")
  | (refine (upd_ne (ne_of (by assumption) (by assumption) (by intro z; cases z))).trans ?_; walk_at "at"))
local macro_rules | `(tactic| walk_at "go") => `(tactic| repeat (first
  | refine ⟨_, rfl, ?_⟩
  | refine ⟨_, _, rfl, rfl, ?_⟩
  | refine ⟨_, _, rfl, ?_⟩
  | refine ⟨_, _, _, rfl, ?_⟩
  | refine And.intro rfl ?_
  | refine And.intro (Or.inl ⟨by decide, by decide⟩) ?_
  | refine And.intro (Or.inr ⟨by decide, by decide⟩) ?_
  | refine And.intro ⟨by decide, by decide⟩ ?_
  | refine And.intro (Or.inl ⟨by omega, by omega⟩) ?_
  | refine And.intro (Or.inr ⟨by omega, by omega⟩) ?_
  | refine And.intro ⟨by omega, by omega⟩ ?_
  | refine And.intro trivial ?_
  | refine And.intro (by omega) ?_
  | refine And.intro (sz (Nat.le_of_ble_eq_true rfl)) ?_
  | refine And.intro (Or.inl ⟨rfl, _, SqL.of (by walk_at "at")⟩) ?_
  | refine ⟨_, _, _, _, rfl, rfl, SqT.of (by walk_at "at"), (by rfl), ?_⟩
  | refine ⟨_, _, _, _, rfl, rfl, SqL.of (by walk_at "at"), (by rfl), ?_⟩
  | refine ⟨_, _, _, _, _, rfl, (by walk_at "at"), (by assumption), (by assumption), Lk.h, ?_⟩
  | refine ⟨_, _, _, rfl, rfl, (by walk_at "at"), ?_⟩
  | refine ⟨_, _, _, rfl, (by walk_at "at"), LkN.h, ?_⟩
  | refine ⟨_, _, _, _, rfl, (by walk_at "at"), (by assumption), (by assumption), (by apply few_lt; decide), ?_⟩
  | refine ⟨_, _, (by walk_at "at"), (by apply few_lt; decide), ?_⟩
  | refine ⟨_, _, rfl, Or.inl (SqL.of (by walk_at "at")), ?_⟩))
open Wrvdot (State Answer step Level clipsNow withClips)
section
variable {K : PySem.W.Frag} {G : Gh} {X M : List Addr} {H H' : Hp} {cv : Addr} {c : Cv} {s : State} {l : Lay} {r : List Lay}
theorem LaysAt.top : ∀ {ls : List Lay} {s : State}, LaysAt K G M H ls s.levels s.page s.list → ∃ l r o how, ls = l :: r ∧ LayH K G M H l o how (clipsNow s) (8 - s.levels.length) ∧ r.length = s.levels.length
  | ls, ⟨a, b, list, page, levels, m, n⟩, h => by
    match ls, levels, h with
    | [l], [], ⟨⟨o, how, h⟩, _⟩ => exact ⟨l, [], o, how, rfl, h, rfl⟩
    | l :: k :: r, v :: vs, ⟨h, list', e, t⟩ =>
      refine ⟨l, k :: r, v.opacity, v.how, rfl, ?_, ?_⟩
      · show LayH K G M H l v.opacity v.how v.clips (8 - (vs.length + 1))
        rw [show 8 - (vs.length + 1) = 7 - vs.length by omega]
        exact h
      · have : ∀ (ls : List Lay) (vs : List Level) (page : List Vd.Shape) (list : List Vd.Entry), LaysAt K G M H ls vs page list → ls.length = vs.length + 1 := by
          intro ls
          induction ls with
          | nil => intro vs page list h; cases vs <;> exact h.elim
          | cons x xs ih =>
            intro vs page list h
            match xs, vs, h with
            | [], [], h => rfl
            | y :: ys, v :: vs, ⟨_, list', _, t⟩ => rw [List.length_cons, ih vs page list' t, List.length_cons]
            | [], _ :: _, h => exact h.elim
            | _ :: _, [], h => exact h.elim
        rw [this _ _ _ _ t]
        rfl
theorem lays_ref (e : c.lays = l :: r) : ((c.lays.map fun l => V.ref l.a).reverse)[(c.lays.map fun l => V.ref l.a).reverse.length - 1]? = some (.ref l.a) := by
  rw [e, List.map_cons, List.reverse_cons, List.length_append, List.getElem?_append_right (by simp)]
  simp
/-- the head's clips change -/
theorem LaysAt.clip {page : List Vd.Shape} {list : List Vd.Entry} {cl : List Vd.Shape} {vs : List V} (eh : hide M H' = hide M H) (e1 : H' l.lm = H l.lm) (e2 : H' l.lc = some (.lst vs)) (a : All (ShRef K (hide M H)) vs cl) (z : cl.length ≤ 4)
    (t : ∀ q ∈ r, H' q.lm = H q.lm ∧ H' q.lc = H q.lc) : ∀ {levels : List Level}, LaysAt K G M H (l :: r) levels page list → match levels with
    | [] => LaysAt K G M H' (l :: r) [] cl list
    | v :: vs => LaysAt K G M H' (l :: r) ({ v with clips := cl } :: vs) page list
  | [], h => by
    match r, h with
    | [], ⟨⟨o, how, ⟨dx, b⟩, c, d, _, _, f⟩, e⟩ => exact ⟨⟨o, how, ⟨dx, by rw [eh]; exact b⟩, e1.trans c, by rw [eh]; exact d, ⟨vs, e2, by rw [eh]; exact a⟩, z, f⟩, e⟩
  | v :: vs', h => by
    match r, h with
    | k :: ks, ⟨⟨⟨dx, b⟩, c, d, _, _, f⟩, list', e, tl⟩ =>
      exact ⟨⟨⟨dx, by rw [eh]; exact b⟩, e1.trans c, by rw [eh]; exact d, ⟨vs, e2, by rw [eh]; exact a⟩, z, f⟩, list', e, tl.go (fun _ _ => rfl) (Grow.refl' eh.symm) t⟩
/-- the addresses of one layer are no other's -/
theorem own_top (nd : (c.own cv).Nodup) (e : c.lays = l :: r) : l.lm ≠ l.lc ∧ ∀ q ∈ r, (q.lm ≠ l.lm ∧ q.lc ≠ l.lm) ∧ (q.lm ≠ l.lc ∧ q.lc ≠ l.lc) := by
  unfold Cv.own at nd
  rw [List.nodup_cons, List.nodup_cons, List.nodup_cons, List.nodup_cons, e, List.flatMap_cons] at nd
  obtain ⟨_, _, _, _, nd⟩ := nd
  rw [List.cons_append, List.cons_append, List.nil_append, List.nodup_cons, List.nodup_cons] at nd
  obtain ⟨a, b, _⟩ := nd
  simp only [List.mem_cons, List.mem_flatMap, not_or, List.not_mem_nil, not_exists, not_and, or_false] at a b
  exact ⟨a.1, fun q hq => ⟨⟨fun z => (a.2 q hq).1 z.symm, fun z => (a.2 q hq).2 z.symm⟩, fun z => (b q hq).1 z.symm, fun z => (b q hq).2 z.symm⟩⟩
/-- the counts change -/
theorem CanvasAt.nums (h : CanvasAt K G X H cv c s) {m n : Nat} (hm : m ≤ 32) (hn : n ≤ 256) (hk : memCount c.lays + s.levels.length ≤ m) :
    CanvasAt K G X (upd H cv (.ins (He.ga K "Canvas") c.dx (fl_Canvas (.ref c.Lp) (.ref c.La) (.ref c.Ll) (.int (m : Int)) (.int (n : Int))))) cv c { s with marks := m, pieces := n } := by
  obtain ⟨o, ⟨v1, p1, p2⟩, ⟨v2, q1, q2⟩, l, ls, nd, xs, few⟩ := h
  obtain ⟨⟨n1, n2, n3⟩, ⟨n4, n5⟩, n6, n7⟩ := own_ne nd
  have eh : hide (X ++ c.own cv) (upd H cv (.ins (He.ga K "Canvas") c.dx (fl_Canvas (.ref c.Lp) (.ref c.La) (.ref c.Ll) (.int (m : Int)) (.int (n : Int))))) = hide (X ++ c.own cv) H := hide_upd (List.mem_append_right _ own_mem.1)
  refine ⟨upd_same, ⟨v1, by rw [upd_ne (Ne.symm n1)]; exact p1, by rw [eh]; exact p2⟩, ⟨v2, by rw [upd_ne (Ne.symm n2)]; exact q1, by rw [eh]; exact q2⟩, by rw [upd_ne (Ne.symm n3)]; exact l, ?_, nd, xs_upd own_mem.1 xs, ?_⟩
  · exact ls.go (fun _ _ => rfl) (Grow.refl' eh.symm) fun l hl => ⟨upd_ne (n7 l hl).1.1, upd_ne (n7 l hl).2.1⟩
  · obtain ⟨f1, f2, f3, f4, f5, f6, f7⟩ := few
    exact ⟨f1, f2, f3, hm, hn, f6, hk⟩
/-- the clips in force change -/
theorem CanvasAt.clips (h : CanvasAt K G X H cv c s) (e : c.lays = l :: r) {vs : List V} {cl : List Vd.Shape} (a : All (ShRef K (hide (X ++ c.own cv) H)) vs cl) (z : cl.length ≤ 4) : CanvasAt K G X (upd H l.lc (.lst vs)) cv c (withClips s cl) := by
  obtain ⟨o, ⟨v1, p1, p2⟩, ⟨v2, q1, q2⟩, hl, ls, nd, xs, few⟩ := h
  obtain ⟨⟨n1, n2, n3⟩, ⟨n4, n5⟩, n6, n7⟩ := own_ne nd
  have ml : l ∈ c.lays := by rw [e]; exact List.mem_cons_self ..
  have mo := (own_mem (c := c) (cv := cv)).2.2.2.2 l ml
  obtain ⟨t1, t2⟩ := own_top nd e
  have eh : hide (X ++ c.own cv) (upd H l.lc (.lst vs)) = hide (X ++ c.own cv) H := hide_upd (List.mem_append_right _ mo.2)
  have nn := (n7 l ml).2
  have lays := LaysAt.clip (levels := s.levels) (page := s.page) (list := s.list) eh (upd_ne t1) upd_same a z (fun q hq => ⟨upd_ne (t2 q hq).2.1, upd_ne (t2 q hq).2.2⟩) (by rw [e] at ls; exact ls)
  rw [← e] at lays
  obtain ⟨pp, pa, list, page, levels, mk, pc⟩ := s
  match levels, lays with
  | [], lays => exact ⟨by rw [upd_ne (Ne.symm nn.1)]; exact o, ⟨v1, by rw [upd_ne (Ne.symm nn.2.1)]; exact p1, by rw [eh]; exact p2⟩, ⟨v2, by rw [upd_ne (Ne.symm nn.2.2.1)]; exact q1, by rw [eh]; exact q2⟩, by rw [upd_ne (Ne.symm nn.2.2.2)]; exact hl, lays, nd, xs_upd mo.2 xs, few⟩
  | v :: vs', lays => exact ⟨by rw [upd_ne (Ne.symm nn.1)]; exact o, ⟨v1, by rw [upd_ne (Ne.symm nn.2.1)]; exact p1, by rw [eh]; exact p2⟩, ⟨v2, by rw [upd_ne (Ne.symm nn.2.2.1)]; exact q1, by rw [eh]; exact q2⟩, by rw [upd_ne (Ne.symm nn.2.2.2)]; exact hl, lays, nd, xs_upd mo.2 xs, few⟩
end
theorem upd2_none {H : Hp} {x dx a : Addr} {o1 o2 : HO} (e : (upd (upd H dx o1) x o2) a = none) : H a = none := by
  by_cases z : a = x
  · rw [z, upd_same] at e; cases e
  · rw [upd_ne z] at e
    by_cases y : a = dx
    · rw [y, upd_same] at e; cases e
    · rw [upd_ne y] at e; exact e
/-- a shape, newly made -/
theorem CanvasAt.shape {K : PySem.W.Frag} {G : Gh} {X : List Addr} {H H' : Hp} {cv : Addr} {c : Cv} {s : State} {x dx ls ll : Addr} {o1 o2 : HO} {z : Vd.Shape} (h : CanvasAt K G X H cv c s) (hx : H x = none) (hdx : H dx = none) (b : But x (upd (upd H dx o1) x o2) H')
    (h1 : (upd (upd H dx o1) x o2) ls = none) (h2 : (upd (upd H dx o1) x o2) ll = none) (w : ShapeW K H' x ls ll z) : ShRef K (hide (X ++ c.own cv) H') (.ref x) z :=
  ⟨x, rfl, w.hid (h.same (made_same hx hdx b)).noT (h.fresh hx) (h.fresh (upd2_none h1)) (h.fresh (upd2_none h2))⟩
section
variable {P : Program} {w : World} {K : PySem.W.Frag} {mg : Str → Option Value} {base : Heap}
theorem sc_Canvas_end_clip : FnScope ["self", "clips"] ["self"] (defScope s_Canvas_end_clip) := ⟨rfl, rfl, rfl, by decide +kernel, rfl, by decide +kernel, by decide +kernel⟩
theorem bd_Canvas_end_clip : BindAll "end_clip" "Canvas.end_clip" s_Canvas_end_clip ["self"] := fun _ _ _ _ _ _ us hl => match us, hl with | [_], _ => rfl
theorem ok_Canvas_end_clip (T : Txt K mg) : Ok P w K mg base (L2.CX P w) 1 (He.fAd K ("Canvas", some "end_clip")) ["self"] (fun vs H Q E => ∃ (G : Gh) (X : List Addr) (cv : Addr) (c : Cv) (s : State), vs = [.ref cv] ∧ CanvasAt K G X H cv c s ∧ Does K X cv c H (step s .unclip) Q E) := by
  refine mk_okX T.f_Canvas_end_clip sc_Canvas_end_clip bd_Canvas_end_clip (fun _ _ _ _ ⟨_, _, _, _, _, e, _⟩ => by rw [e]; rfl) fun cdv A outer s0 H vs Q E hr h => ?_
  obtain ⟨G, X, cv, c, s, rfl, hc, d⟩ := h
  obtain ⟨ho, ⟨v1, p1, p2⟩, ⟨v2, q1, q2⟩, hl, lss, nd, xs, few⟩ := id hc
  obtain ⟨l, r, o, how, el, ⟨⟨ldx, la⟩, lb, lcc, ⟨ws, lf, lk⟩, l4, lo⟩, _⟩ := lss.top
  have la2 := hide_sub _ _ _ _ la
  have lw := lk.1
  have fc_Canvas := T.c_Canvas
  have fc_Group := T.c_Group
  have fc_Layer := T.c_Layer
  have fn_Canvas_layers := T.n_Canvas_layers
  have fn_Group_clips := T.n_Group_clips
  have fn_Layer_clips := T.n_Layer_clips
  refine ⟨_, (pss_cons (ps_set (i := 1) sc_Canvas_end_clip.nd rfl (Or.inl rfl) (kx_fld (K := K) rfl (pe_ix (kx_ixl (K := K) rfl) (kx_fld (K := K) rfl (pv 0) rfl) (pe_un un_neg pe_int) (fun _ _ => rfl)) rfl))
      (pss_cons (ps_if (pt_cmpR op_eq (pe_callB (kx_len (K := K) rfl) (by rfl) T.z_len PySem.boot_len (pa_cons (pv 1) pa_nil)) pe_int (nomark _)) (pss_one (ps_raise rfl (takes_of rfl rfl rfl rfl) (pmk_own0 PySem.F.excBase_Exception T.x_InvalidCall.1 T.g_InvalidCall T.x_InvalidCall.2.1 (raises_own T.x_InvalidCall.2.2.1 T.x_InvalidCall.2.2.2) (by exact rfl)))) pss_nil)
      (pss_cons (ps_expr (kx_bm0 (K := K) rfl PySem.F.plainAttrs_list PySem.F.slot_list_pop PySem.F.type_list_pop mt_pop (pv 1)))
      (pss_one (ps_ret (pe_callB (kx_len (K := K) rfl) (by rfl) T.z_len PySem.boot_len (pa_cons (pv 1) pa_nil))))))), ?_⟩
  walk_at "go"
  refine ⟨_, _, _, _, rfl, rfl, SqL.of hl, at_last1 (lays_ref el), ?_⟩
  walk_at "go"
  refine ite2 (fun c0 => ?_) (fun c0 => ?_)
  · have c1 : (ws.length : Int) = 0 := dint c0
    have er : step s .unclip = (s, .refused (-1)) := if_pos (by rw [List.isEmpty_iff]; exact List.eq_nil_of_length_eq_zero (by omega))
    rw [er] at d
    exact d.no hc (Same.refl _)
  · have c1 : ¬ (ws.length : Int) = 0 := dint_not c0
    have lt : ws.length - 1 < ws.length := by omega
    obtain ⟨y, hy⟩ : ∃ y, ws[ws.length - 1]? = some y := ⟨_, List.getElem?_eq_getElem lt⟩
    have er : step s .unclip = (withClips s (clipsNow s).dropLast, .number ((clipsNow s).length - 1)) := if_neg (by rw [List.isEmpty_iff]; intro e; rw [e] at lw; exact c1 (by rw [lw]; rfl))
    rw [er] at d
    walk_at "go"
    refine ⟨l.lc, ws, y, rfl, rfl, lf, hy, ?_⟩
    have hc2 := hc.clips el lk.dropLast (by rw [List.length_dropLast]; omega)
    have f2 : (upd H l.lc (.lst ws.dropLast)) l.lc = some (.lst ws.dropLast) := upd_same
    walk_at "go"
    have mo := (own_mem (c := c) (cv := cv)).2.2.2.2 l (by rw [el]; exact List.mem_cons_self ..)
    refine qi_of ?_ (d _ G c (keep_upd mo.2) hc2)
    rw [List.length_dropLast, lw]
theorem sc_Canvas_begin_clip : FnScope ["self", "rule", "path", "clips"] ["self", "rule", "path"] (defScope s_Canvas_begin_clip) := ⟨rfl, rfl, rfl, by decide +kernel, rfl, by decide +kernel, by decide +kernel⟩
theorem bd_Canvas_begin_clip : BindAll "begin_clip" "Canvas.begin_clip" s_Canvas_begin_clip ["self", "rule", "path"] := fun _ _ _ _ _ _ us hl => match us, hl with | [_, _, _], _ => rfl
theorem ok_Canvas_begin_clip (T : Txt K mg) : Ok P w K mg base (L2.CX P w) 4 (He.fAd K ("Canvas", some "begin_clip")) ["self", "rule", "path"] (fun vs H Q E => ∃ (G : Gh) (X : List Addr) (cv : Addr) (c : Cv) (s : State) (rule : Nat) (pa : Addr) (p : List Wrvdot.Piece), vs = [.ref cv, .int (rule : Int), .ref pa] ∧ CanvasAt K G X H cv c s ∧
    ListOf PcAt H pa p ∧ p.length ≤ 30000 ∧ Does K X cv c H (step s (.clip rule p)) Q E) := by
  refine mk_okX T.f_Canvas_begin_clip sc_Canvas_begin_clip bd_Canvas_begin_clip (fun _ _ _ _ ⟨_, _, _, _, _, _, _, _, e, _⟩ => by rw [e]; rfl) fun cdv A outer s0 H vs Q E hr h => ?_
  obtain ⟨G, X, cv, c, s, rule, pa, p, rfl, hc, hp, hz, d⟩ := h
  obtain ⟨ho, ⟨v1, p1, p2⟩, ⟨v2, q1, q2⟩, hl, lss, nd, xs, few⟩ := id hc
  obtain ⟨l, r, o, how, el, ⟨⟨ldx, la⟩, lb, lcc, ⟨ws, lf, lk⟩, l4, lo⟩, _⟩ := lss.top
  have lw := lk.1
  obtain ⟨us, hpa, aus⟩ := id hp
  have lus := aus.1
  have fc_Canvas := T.c_Canvas
  have fc_Group := T.c_Group
  have fc_Layer := T.c_Layer
  have fn_Canvas_layers := T.n_Canvas_layers
  have fn_Canvas_pieces := T.n_Canvas_pieces
  have fn_Group_clips := T.n_Group_clips
  have fn_Layer_clips := T.n_Layer_clips
  refine ⟨_, (Evl.pss_cut (ps_if (PW.pt (pw_or (pt_cmpR op_gt (pv 1) pe_int (nomark _)) (pw_or1 (pt_not (pt_val (c_call (ok_is_path (K := K) T) hr (by decide) rfl T.g_is_path pass0 (pa_cons (pv 2) pa_nil))))))) (pss_one (ps_raise rfl (takes_of rfl rfl rfl rfl) (pmk_own0 PySem.F.excBase_Exception T.x_InvalidCall.1 T.g_InvalidCall T.x_InvalidCall.2.1 (raises_own T.x_InvalidCall.2.2.1 T.x_InvalidCall.2.2.2) (by exact rfl)))) pss_nil)
      (pss_cons (ps_set (i := 3) sc_Canvas_begin_clip.nd rfl (Or.inl rfl) (kx_fld (K := K) rfl (pe_ix (kx_ixl (K := K) rfl) (kx_fld (K := K) rfl (pv 0) rfl) (pe_un un_neg pe_int) (fun _ _ => rfl)) rfl))
      (Evl.pss_cut (ps_if (PW.pt (pw_or (pt_cmpR op_ge (pe_callB (kx_len (K := K) rfl) (by rfl) T.z_len PySem.boot_len (pa_cons (pv 3) pa_nil)) (c_int rfl T.i_MOST_CLIPS) (nomark _)) (pw_or1 (pt_cmpR op_gt (pe_op op_add (kx_fld (K := K) rfl (pv 0) rfl) (pe_callB (kx_len (K := K) rfl) (by rfl) T.z_len PySem.boot_len (pa_cons (pv 2) pa_nil))) (c_int rfl T.i_MOST_PIECES) (nomark _))))) (pss_one (ps_raise rfl (takes_of rfl rfl rfl rfl) (pmk_own0 PySem.F.excBase_Exception T.x_LimitReached.1 T.g_LimitReached T.x_LimitReached.2.1 (raises_own T.x_LimitReached.2.2.1 T.x_LimitReached.2.2.2) (by exact rfl)))) pss_nil)
      (pss_cons (kx_aug (K := K) rfl (pv 0) (pe_callB (kx_len (K := K) rfl) (by rfl) T.z_len PySem.boot_len (pa_cons (pv 2) pa_nil)) in_add)
      (pss_cons (ps_expr (kx_bm (K := K) rfl PySem.F.plainAttrs_list PySem.F.slot_list_append PySem.F.type_list_append mt_append (pv 3) (pa_cons (c_make (ok_Shape_init (K := K) T) T.k_Shape hr (by decide) rfl T.g_Shape (fun _ => pass0) (pa_cons (pv 1) (pa_cons (pv 2) pa_nil))) pa_nil)))
      (pss_one (ps_ret (pe_callB (kx_len (K := K) rfl) (by rfl) T.z_len PySem.boot_len (pa_cons (pv 3) pa_nil))))))))), ?_⟩
  walk_at "go"
  refine ⟨fun σ' H' => (∃ e : Option V, σ' = [some (.ref cv), some (.int (rule : Int)), some (.ref pa), e]) ∧ Same H H' ∧ rule ≤ 1 ∧ Wrvdot.pathOk p = true, ?_, ?_⟩
  · walk_at "go"
    have no : ∀ H', Same H H' → (1 < rule ∨ Wrvdot.pathOk p = false) → E (.ref (He.ga K "InvalidCall")) none H' := fun H' sm z => by
      have er : step s (.clip rule p) = (s, .refused (-1)) := if_pos z
      rw [er] at d
      exact d.no hc sm
    refine ite2 (fun c0 => ?_) (fun c0 => ?_)
    · have c1 : (1 : Int) < rule := ddec c0
      exact no _ (Same.refl _) (.inl (by omega))
    have c1 : ¬ (1 : Int) < rule := dnot c0
    walk_at "go"
    refine ⟨pa, p, rfl, hp, hz, fun H1 s1 => ?_⟩
    walk_at "go"
    cases hok : Wrvdot.pathOk p with
    | false => exact no _ s1 (.inr hok)
    | true => exact ⟨⟨_, rfl⟩, s1, by omega, rfl⟩
  rintro σ' H1 ⟨⟨e1, rfl⟩, s1, hr1, hok⟩
  have ho1 := s1 _ _ ho
  have hl1 := s1 _ _ hl
  have la1 := s1 _ _ (hide_sub _ _ _ _ la)
  have lf1 := s1 _ _ lf
  have hpa1 := s1 _ _ hpa
  walk_at "go"
  refine ⟨_, _, _, _, rfl, rfl, SqL.of hl1, at_last1 (lays_ref el), ?_⟩
  walk_at "go"
  refine ⟨fun σ' H' => σ' = [some (.ref cv), some (.int (rule : Int)), some (.ref pa), some (.ref l.lc)] ∧ H' = H1 ∧ (clipsNow s).length < 4 ∧ s.pieces + p.length ≤ 256, ?_, ?_⟩
  · walk_at "go"
    have no : (4 ≤ (clipsNow s).length ∨ 256 < s.pieces + p.length) → E (.ref (He.ga K "LimitReached")) none H1 := fun z => by
      have er : step s (.clip rule p) = (s, .refused (-3)) := (if_neg (by rw [hok]; simp; omega)).trans (if_pos z)
      rw [er] at d
      exact d.no hc s1
    refine ite2 (fun c0 => ?_) (fun c0 => ?_)
    · have c1 : (4 : Int) ≤ ws.length := ddec c0
      exact no (.inl (by omega))
    have c1 : ¬ (4 : Int) ≤ ws.length := dnot c0
    walk_at "go"
    refine ite2 (fun c0 => ?_) (fun c0 => ?_)
    · have c2 : (256 : Int) < (s.pieces : Int) + us.length := ddec c0
      exact no (.inr (by omega))
    · have c2 : ¬ (256 : Int) < (s.pieces : Int) + us.length := dnot c0
      exact ⟨rfl, rfl, by omega, by omega⟩
  rintro σ' H' ⟨rfl, rfl, n4, n256⟩
  walk_at "go"
  rw [pt_Canvas_pieces]
  have hc1 := hc.same s1
  have ep : (s.pieces : Int) + us.length = ((s.pieces + p.length : Nat) : Int) := by omega
  have hc2 := hc1.nums (m := s.marks) (n := s.pieces + p.length) few.2.2.2.1 n256 few.2.2.2.2.2.2
  rw [← ep] at hc2
  have hpa2 : ListOf PcAt (upd H' cv (.ins (He.ga K "Canvas") c.dx (fl_Canvas (.ref c.Lp) (.ref c.La) (.ref c.Ll) (.int (s.marks : Int)) (.int ((s.pieces : Int) + us.length))))) pa p := by
    refine ⟨us, by rw [upd_ne (ne_of hpa1 ho1 (by intro z; cases z))]; exact hpa1, aus.imp fun v x h => (TupI.mono s1 h).but But.at_ (fun ys e => by rw [ho1] at e; cases e)⟩
  have k2 : Keep (hide (c.own cv) H') (hide (c.own cv) (upd H' cv (.ins (He.ga K "Canvas") c.dx (fl_Canvas (.ref c.Lp) (.ref c.La) (.ref c.Ll) (.int (s.marks : Int)) (.int ((s.pieces : Int) + us.length)))))) := keep_upd own_mem.1
  have ho2 := hc2.obj
  have lf2 : (upd H' cv (.ins (He.ga K "Canvas") c.dx (fl_Canvas (.ref c.Lp) (.ref c.La) (.ref c.Ll) (.int (s.marks : Int)) (.int ((s.pieces : Int) + us.length))))) l.lc = some (.lst ws) := by
    rw [upd_ne (ne_of lf1 ho1 (by intro z; cases z))]
    exact lf1
  generalize upd H' cv (.ins (He.ga K "Canvas") c.dx (fl_Canvas (.ref c.Lp) (.ref c.La) (.ref c.Ll) (.int (s.marks : Int)) (.int ((s.pieces : Int) + us.length)))) = H2 at hc2 hpa2 k2 lf2
  walk_at "go"
  intro x dx hx hdx ne
  have s23 : Same H2 (upd (upd H2 dx (.own x)) x (.ins (He.ga K "Shape") dx [])) := fun a o e => by
    rw [upd_ne (ne_of_none e hx), upd_ne (ne_of_none e hdx)]
    exact e
  refine ⟨x, dx, pa, rule, p, rfl, upd_same, ListOf.mono (R := PcAt) (fun _ _ _ _ e h => TupI.mono e h) s23 hpa2, by omega, hok, hr1, fun H3 sl sv b3 hsl hsv sw => ?_⟩
  have sx := made_same hx hdx b3
  have hc3 := hc2.same sx
  have shp := hc2.shape hx hdx b3 hsl hsv sw
  have lf3 := sx _ _ lf2
  have w4 : ws.length < sizeLine := szl (by omega)
  obtain ⟨_, _, _, _, el3, ⟨_, _, _, ⟨ws3, lf3', lk3⟩, _⟩, _⟩ := hc3.lays.top
  rw [el] at el3
  cases el3
  rw [lf3] at lf3'
  cases lf3'
  have eq1 : clipsNow { s with marks := s.marks, pieces := s.pieces + p.length } = clipsNow s := rfl
  have hc4 := hc3.clips el (lk3.snoc shp) (by rw [eq1, List.length_append]; exact n4)
  have mo := (own_mem (c := c) (cv := cv)).2.2.2.2 l (by rw [el]; exact List.mem_cons_self ..)
  refine ⟨rfl, ?_⟩
  walk_at "go"
  have lf4 : (upd H3 l.lc (.lst (ws ++ [.ref x]))) l.lc = some (.lst (ws ++ [.ref x])) := upd_same
  walk_at "go"
  have er : step s (.clip rule p) = ({ withClips s (clipsNow s ++ [Wrvdot.shapeOf rule p]) with pieces := s.pieces + p.length }, .number ((clipsNow s).length + 1)) := (if_neg (by rw [hok]; simp; omega)).trans (if_neg (by show ¬ (4 ≤ (clipsNow s).length ∨ 256 < s.pieces + p.length); omega))
  rw [er] at d
  refine qi_of ?_ (d _ G c ?_ ?_)
  · show (((clipsNow s).length + 1 : Nat) : Int) = ((ws ++ [V.ref x]).length : Int)
    rw [List.length_append, lw]
    rfl
  · exact (Keep.of (hide_same s1)).trans (k2.trans ((Keep.of (hide_same sx)).trans (keep_upd mo.2)))
  · have es : withClips { s with marks := s.marks, pieces := s.pieces + p.length } (clipsNow s ++ [Wrvdot.shapeOf rule p]) = { withClips s (clipsNow s ++ [Wrvdot.shapeOf rule p]) with pieces := s.pieces + p.length } := by
      unfold withClips
      cases s.levels <;> rfl
    rw [← es]
    exact hc4
end
end Pd
end
section
set_option Elab.async false
set_option linter.all false
set_option maxRecDepth 100000
set_option maxHeartbeats 4000000
namespace Pd
open PySem PySem.Spec PyProof.Rows L2
local macro_rules | `(tactic| walk_at "at") => `(tactic| first
  | assumption
  | exact upd_same
  | (refine (show Same _ _ by assumption) _ _ ?_; walk_at "at")
  | (refine (show But _ _ _ by assumption) _ _ (by assumption) ?_; assumption)
  | (refine Same.new (by assumption) _ _ ?_; walk_at "at")
  | (refine (upd_ne (ne_of (by assumption) (by assumption) (by intro z; cases z))).trans ?_; walk_at "at"))
local macro_rules | `(tactic| walk_at "go") => `(tactic| repeat (first
  | refine ⟨_, rfl, ?_⟩
  | refine ⟨_, _, rfl, rfl, ?_⟩
  | refine ⟨_, _, rfl, ?_⟩
  | refine ⟨_, _, _, rfl, ?_⟩
  | refine And.intro rfl ?_
  | refine And.intro (Or.inl ⟨by decide, by decide⟩) ?_
  | refine And.intro (Or.inr ⟨by decide, by decide⟩) ?_
  | refine And.intro ⟨by decide, by decide⟩ ?_
  | refine And.intro (Or.inl ⟨by omega, by omega⟩) ?_
  | refine And.intro (Or.inr ⟨by omega, by omega⟩) ?_
  | refine And.intro ⟨by omega, by omega⟩ ?_
  | refine And.intro trivial ?_
  | refine And.intro (by omega) ?_
  | refine And.intro (sz (Nat.le_of_ble_eq_true rfl)) ?_
  | refine And.intro (Or.inl ⟨rfl, _, SqL.of (by walk_at "at")⟩) ?_
  | refine ⟨_, _, _, _, rfl, rfl, SqT.of (by walk_at "at"), (by rfl), ?_⟩
  | refine ⟨_, _, _, _, rfl, rfl, SqL.of (by walk_at "at"), (by rfl), ?_⟩
  | refine ⟨_, _, _, _, _, rfl, (by walk_at "at"), (by assumption), (by assumption), Lk.h, ?_⟩
  | refine ⟨_, _, _, rfl, rfl, (by walk_at "at"), ?_⟩
  | refine ⟨_, _, _, rfl, (by walk_at "at"), LkN.h, ?_⟩
  | refine ⟨_, _, _, _, rfl, (by walk_at "at"), (by assumption), (by assumption), (by apply few_lt; decide), ?_⟩
  | refine ⟨_, _, (by walk_at "at"), (by apply few_lt; decide), ?_⟩
  | refine ⟨_, _, rfl, Or.inl (SqL.of (by walk_at "at")), ?_⟩))
open Wrvdot (State Answer step Level clipsNow withClips)
def Cv.more (c : Cv) (l : Lay) : Cv := { c with lays := l :: c.lays }
section
variable {K : PySem.W.Frag} {G : Gh} {X M : List Addr} {H H' : Hp} {cv : Addr} {c : Cv} {s : State} {l : Lay} {r : List Lay}
theorem own_more {c : Cv} {l : Lay} {a : Addr} : a ∈ (c.more l).own cv ↔ a = l.lm ∨ a = l.lc ∨ a ∈ c.own cv := by
  unfold Cv.own Cv.more
  simp only [List.mem_cons, List.flatMap_cons, List.mem_append, List.not_mem_nil, or_false]
  constructor
  · rintro (h | h | h | h | (h | h) | h)
    · exact .inr (.inr (.inl h))
    · exact .inr (.inr (.inr (.inl h)))
    · exact .inr (.inr (.inr (.inr (.inl h))))
    · exact .inr (.inr (.inr (.inr (.inr (.inl h)))))
    · exact .inl h
    · exact .inr (.inl h)
    · exact .inr (.inr (.inr (.inr (.inr (.inr h)))))
  · rintro (h | h | h | h | h | h | h)
    · exact .inr (.inr (.inr (.inr (.inl (.inl h)))))
    · exact .inr (.inr (.inr (.inr (.inl (.inr h)))))
    · exact .inl h
    · exact .inr (.inl h)
    · exact .inr (.inr (.inl h))
    · exact .inr (.inr (.inr (.inl h)))
    · exact .inr (.inr (.inr (.inr (.inr h))))
/-- a group begins -/
theorem CanvasAt.opened (h : CanvasAt K G X H cv c s) {o how : Nat} {ldx : Addr} (e : Same H H') (f1 : H l.lm = none) (f2 : H l.lc = none) (f3 : H l.a = none) (n1 : l.lm ≠ l.lc) (hu : l.us = []) (he : l.es = []) (b1 : H' l.lm = some (.lst [])) (b2 : H' l.lc = some (.lst []))
    (b3 : H' l.a = some (.ins (He.ga K "Layer") ldx (fl_Layer (.int (o : Int)) (.int (how : Int)) (.ref l.lm) (.ref l.lc)))) (z1 : o ≤ 255) (z2 : how ≤ 7) (z3 : s.levels.length < 8) (z4 : memCount c.lays + s.levels.length + 1 ≤ s.marks) :
    CanvasAt K G X (upd H' c.Ll (.lst ((c.lays.map fun l => V.ref l.a).reverse ++ [.ref l.a]))) cv (c.more l) { s with list := s.list ++ [.begins], levels := ⟨[], o, how⟩ :: s.levels } := by
  have h' := h.same e
  obtain ⟨ob, ⟨v1, p1, p2⟩, ⟨v2, q1, q2⟩, hl, ls, nd, xs, few⟩ := id h'
  obtain ⟨m1, m2, m3, m4, m5⟩ := own_ne nd |> fun z => (⟨z.1, z.2.1, z.2.2.1, z.2.2.2, trivial⟩ : _ ∧ _ ∧ _ ∧ _ ∧ True)
  have fr : ∀ {a}, H a = none → a ∉ X ++ c.own cv := fun f => h.fresh f
  have nLl : ∀ {a}, H a = none → a ≠ c.Ll := fun f z => fr f (List.mem_append_right _ (by rw [z]; exact own_mem.2.2.2.1))
  have key : ∀ a, a ∈ X ++ (c.more l).own cv → a ∈ X ++ c.own cv ∨ H a = none := fun a ha => by
    rcases List.mem_append.mp ha with m | m
    · exact .inl (List.mem_append_left _ m)
    · rcases own_more.mp m with z | z | z
      · exact .inr (by rw [z]; exact f1)
      · exact .inr (by rw [z]; exact f2)
      · exact .inl (List.mem_append_right _ z)
  have st : Same (hide (X ++ c.own cv) H) (hide (X ++ (c.more l).own cv) (upd H' c.Ll (.lst ((c.lays.map fun l => V.ref l.a).reverse ++ [.ref l.a])))) :=
    hide_step (fun a u n k => by rw [upd_ne (fun z => n (by rw [z]; exact List.mem_append_right _ own_mem.2.2.2.1))]; exact e _ _ k) key
  have g : Grow G (hide (X ++ c.own cv) H) (hide (X ++ (c.more l).own cv) (upd H' c.Ll (.lst ((c.lays.map fun l => V.ref l.a).reverse ++ [.ref l.a])))) := Grow.of st
  obtain ⟨ob0, ⟨v10, p10, p20⟩, ⟨v20, q10, q20⟩, hl0, ls0, _, xs0, _⟩ := h
  have get : ∀ {a u}, H a = some u → a ≠ c.Ll → (upd H' c.Ll (.lst ((c.lays.map fun l => V.ref l.a).reverse ++ [.ref l.a]))) a = some u := fun k n => by rw [upd_ne n]; exact e _ _ k
  have la : l.a ∉ X ++ (c.more l).own cv := fun m => by
    rcases List.mem_append.mp m with z | z
    · exact fr f3 (List.mem_append_left _ z)
    · rcases own_more.mp z with z | z | z
      · rw [z, b1] at b3; cases b3
      · rw [z, b2] at b3; cases b3
      · exact fr f3 (List.mem_append_right _ z)
  refine ⟨get ob0 m1.2.2, ⟨v10, get p10 m2.2, p20.imp fun _ _ h => h.keep g.1⟩, ⟨v20, get q10 m3, q20.imp fun _ _ h => h.grow g⟩, ?_, ?_, ?_, fun a ha => ?_, ?_⟩
  · show (upd H' c.Ll (.lst ((c.lays.map fun l => V.ref l.a).reverse ++ [.ref l.a]))) c.Ll = some (HO.lst ((l :: c.lays).map fun l => V.ref l.a).reverse)
    rw [upd_same, List.map_cons, List.reverse_cons]
  · obtain ⟨l1, r1, _, _, el, _⟩ := ls0.top
    show LaysAt K G _ _ (l :: c.lays) (⟨[], o, how⟩ :: s.levels) s.page (s.list ++ [.begins])
    have tl := ls0.go (G' := G) (fun _ _ => rfl) g (fun q hq => by
      obtain ⟨_, _, _, _, _, bm, _, ⟨_, bc, _⟩, _⟩ := ls0.each q hq
      rw [get bm (m4 q hq).1.2.2.2, get bc (m4 q hq).2.2.2.2, bm, bc]
      exact ⟨rfl, rfl⟩)
    rw [el] at tl ⊢
    refine ⟨⟨⟨ldx, ?_⟩, ?_, ?_, ⟨[], ?_, All.nil⟩, by simp, z1, z2⟩, s.list, ?_, tl⟩
    · rw [hide_at la, upd_ne (nLl f3)]
      exact b3
    · rw [upd_ne (nLl f1), b1, hu]
    · rw [hu, he]
      exact All.nil
    · rw [upd_ne (nLl f2), b2]
    · unfold entsOf
      rw [he]
      rfl
  · have nm : l.lm ∉ c.own cv := fun m => fr f1 (List.mem_append_right _ m)
    have nc : l.lc ∉ c.own cv := fun m => fr f2 (List.mem_append_right _ m)
    unfold Cv.own at nd nm nc ⊢
    unfold Cv.more
    simp only [List.flatMap_cons, List.cons_append, List.nil_append, List.nodup_cons, List.mem_cons, not_or] at nd nm nc ⊢
    obtain ⟨⟨a1, a2, a3, a4⟩, ⟨a5, a6, a7⟩, ⟨a8, a9⟩, a10, a11⟩ := nd
    obtain ⟨x1, x2, x3, x4, x5⟩ := nm
    obtain ⟨y1, y2, y3, y4, y5⟩ := nc
    exact ⟨⟨a1, a2, a3, Ne.symm x1, Ne.symm y1, a4⟩, ⟨a5, a6, Ne.symm x2, Ne.symm y2, a7⟩, ⟨a8, Ne.symm x3, Ne.symm y3, a9⟩, ⟨Ne.symm x4, Ne.symm y4, a10⟩, ⟨n1, x5⟩, y5, a11⟩
  · obtain ⟨n, u, k, t⟩ := xs0 a ha
    refine ⟨fun m => ?_, u, get k (fun z => n (by rw [z]; exact own_mem.2.2.2.1)), t⟩
    rcases own_more.mp m with z | z | z
    · rw [z, f1] at k; cases k
    · rw [z, f2] at k; cases k
    · exact n z
  · obtain ⟨g1, g2, g3, g4, g5, g6, g7⟩ := few
    refine ⟨g1, g2, g3, g4, g5, z3, ?_⟩
    show ((l :: c.lays).map fun l => l.us.length).sum + (s.levels.length + 1) ≤ s.marks
    rw [List.map_cons, List.sum_cons, hu]
    have : (c.lays.map fun l => l.us.length).sum = memCount c.lays := rfl
    rw [this]
    show 0 + memCount c.lays + (s.levels.length + 1) ≤ s.marks
    omega
end
section
variable {P : Program} {w : World} {K : PySem.W.Frag} {mg : Str → Option Value} {base : Heap}
theorem sc_Canvas_begin_group : FnScope ["self", "opacity", "how"] ["self", "opacity", "how"] (defScope s_Canvas_begin_group) := ⟨rfl, rfl, rfl, by decide +kernel, rfl, by decide +kernel, by decide +kernel⟩
theorem bd_Canvas_begin_group : BindAll "begin_group" "Canvas.begin_group" s_Canvas_begin_group ["self", "opacity", "how"] := fun _ _ _ _ _ _ us hl => match us, hl with | [_, _, _], _ => rfl
theorem ok_Canvas_begin_group (T : Txt K mg) : Ok P w K mg base (L2.CX P w) 3 (He.fAd K ("Canvas", some "begin_group")) ["self", "opacity", "how"] (fun vs H Q E => ∃ (G : Gh) (X : List Addr) (cv : Addr) (c : Cv) (s : State) (o how : Nat), vs = [.ref cv, .int (o : Int), .int (how : Int)] ∧ CanvasAt K G X H cv c s ∧ Does K X cv c H (step s (.group o how)) Q E) := by
  refine mk_okX T.f_Canvas_begin_group sc_Canvas_begin_group bd_Canvas_begin_group (fun _ _ _ _ ⟨_, _, _, _, _, _, _, e, _⟩ => by rw [e]; rfl) fun cdv A outer s0 H vs Q E hr h => ?_
  obtain ⟨G, X, cv, c, s, o, how, rfl, hc, d⟩ := h
  obtain ⟨ho, ⟨v1, p1, p2⟩, ⟨v2, q1, q2⟩, hl, lss, nd, xs, few⟩ := id hc
  obtain ⟨l, r, _, _, el, _, lr⟩ := lss.top
  have ll : (c.lays.map fun l => V.ref l.a).reverse.length = s.levels.length + 1 := by
    rw [List.length_reverse, List.length_map, el, List.length_cons, lr]
  have fc_Canvas := T.c_Canvas
  have fn_Canvas_layers := T.n_Canvas_layers
  have fn_Canvas_numbered := T.n_Canvas_numbered
  refine ⟨_, (Evl.pss_cut (ps_if (PW.pt (pw_or (pt_cmpR op_gt (pv 1) pe_int (nomark _)) (pw_or1 (pt_cmpR op_gt (pv 2) pe_int (nomark _))))) (pss_one (ps_raise rfl (takes_of rfl rfl rfl rfl) (pmk_own0 PySem.F.excBase_Exception T.x_InvalidCall.1 T.g_InvalidCall T.x_InvalidCall.2.1 (raises_own T.x_InvalidCall.2.2.1 T.x_InvalidCall.2.2.2) (by exact rfl)))) pss_nil)
      (Evl.pss_cut (ps_if (PW.pt (pw_or (pt_cmpR op_gt (pe_callB (kx_len (K := K) rfl) (by rfl) T.z_len PySem.boot_len (pa_cons (kx_fld (K := K) rfl (pv 0) rfl) pa_nil)) (c_int rfl T.i_MOST_GROUPS) (nomark _)) (pw_or1 (pt_cmpR op_ge (kx_fld (K := K) rfl (pv 0) rfl) (c_int rfl T.i_MOST_MEMBERS) (nomark _))))) (pss_one (ps_raise rfl (takes_of rfl rfl rfl rfl) (pmk_own0 PySem.F.excBase_Exception T.x_LimitReached.1 T.g_LimitReached T.x_LimitReached.2.1 (raises_own T.x_LimitReached.2.2.1 T.x_LimitReached.2.2.2) (by exact rfl)))) pss_nil)
      (pss_cons (kx_aug (K := K) rfl (pv 0) pe_int in_add)
      (pss_cons (ps_expr (kx_bm (K := K) rfl PySem.F.plainAttrs_list PySem.F.slot_list_append PySem.F.type_list_append mt_append (kx_fld (K := K) rfl (pv 0) rfl) (pa_cons (c_make (ok_Layer_init (K := K) T) T.k_Layer hr (by decide) rfl T.g_Layer (fun _ => pass0) (pa_cons (pv 1) (pa_cons (pv 2) pa_nil))) pa_nil)))
      (pss_one (ps_ret (pe_op op_sub (pe_callB (kx_len (K := K) rfl) (by rfl) T.z_len PySem.boot_len (pa_cons (kx_fld (K := K) rfl (pv 0) rfl) pa_nil)) pe_int))))))), ?_⟩
  walk_at "go"
  refine ⟨fun σ' H' => σ' = [some (.ref cv), some (.int (o : Int)), some (.int (how : Int))] ∧ H' = H ∧ o ≤ 255 ∧ how ≤ 7, ?_, ?_⟩
  · walk_at "go"
    have no : (255 < o ∨ 8 ≤ how) → E (.ref (He.ga K "InvalidCall")) none H := fun z => by
      have er : step s (.group o how) = (s, .refused (-1)) := if_pos z
      rw [er] at d
      exact d.no hc (Same.refl _)
    refine ite2 (fun c0 => ?_) (fun c0 => ?_)
    · have c1 : (255 : Int) < o := ddec c0
      exact no (.inl (by omega))
    have c1 : ¬ (255 : Int) < o := dnot c0
    walk_at "go"
    refine ite2 (fun c0 => ?_) (fun c0 => ?_)
    · have c2 : (7 : Int) < how := ddec c0
      exact no (.inr (by omega))
    · have c2 : ¬ (7 : Int) < how := dnot c0
      exact ⟨rfl, rfl, by omega, by omega⟩
  rintro σ' H' ⟨rfl, rfl, z1, z2⟩
  refine ⟨fun σ' H2 => σ' = [some (.ref cv), some (.int (o : Int)), some (.int (how : Int))] ∧ H2 = H' ∧ s.levels.length < 8 ∧ s.marks < 32, ?_, ?_⟩
  · walk_at "go"
    have no : (8 ≤ s.levels.length ∨ 32 ≤ s.marks) → E (.ref (He.ga K "LimitReached")) none H' := fun z => by
      have er : step s (.group o how) = (s, .refused (-3)) := (if_neg (by show ¬ (255 < o ∨ 8 ≤ how); omega)).trans (if_pos z)
      rw [er] at d
      exact d.no hc (Same.refl _)
    refine ite2 (fun c0 => ?_) (fun c0 => ?_)
    · have c1 : (8 : Int) < (c.lays.map fun l => V.ref l.a).reverse.length := ddec c0
      exact no (.inl (by omega))
    have c1 : ¬ (8 : Int) < (c.lays.map fun l => V.ref l.a).reverse.length := dnot c0
    walk_at "go"
    refine ite2 (fun c0 => ?_) (fun c0 => ?_)
    · have c2 : (32 : Int) ≤ s.marks := ddec c0
      exact no (.inr (by omega))
    · have c2 : ¬ (32 : Int) ≤ s.marks := dnot c0
      exact ⟨rfl, rfl, by omega, by omega⟩
  rintro σ' H2 ⟨rfl, rfl, z3, z4⟩
  walk_at "go"
  rw [pt_Canvas_numbered]
  have hc2 := hc.nums (m := s.marks + 1) (n := s.pieces) (by omega) few.2.2.2.2.1 (by have := few.2.2.2.2.2.2; omega)
  have ep : (s.marks : Int) + 1 = ((s.marks + 1 : Nat) : Int) := by omega
  rw [← ep] at hc2
  have k2 : Keep (hide (c.own cv) H2) (hide (c.own cv) (upd H2 cv (.ins (He.ga K "Canvas") c.dx (fl_Canvas (.ref c.Lp) (.ref c.La) (.ref c.Ll) (.int ((s.marks : Int) + 1)) (.int (s.pieces : Int)))))) := keep_upd own_mem.1
  have hl2 := hc2.lst
  generalize upd H2 cv (.ins (He.ga K "Canvas") c.dx (fl_Canvas (.ref c.Lp) (.ref c.La) (.ref c.Ll) (.int ((s.marks : Int) + 1)) (.int (s.pieces : Int)))) = H3 at hc2 k2 hl2
  have ho2 := hc2.obj
  walk_at "go"
  intro x dx hx hdx ne
  refine ⟨x, dx, _, _, rfl, upd_same, fun H4 lm lc b4 hlm hlc nl m4 c4 x4 => ?_⟩
  have sx := made_same hx hdx b4
  have hl4 := sx _ _ hl2
  have w4 : (c.lays.map fun l => V.ref l.a).reverse.length < sizeLine := szl (by omega)
  refine ⟨rfl, ?_⟩
  walk_at "go"
  have hc5 := hc2.opened (l := ⟨x, lm, lc, [], []⟩) (o := o) (how := how) sx (upd2_none hlm) (upd2_none hlc) hx nl rfl rfl m4 c4 x4 z1 z2 z3 (by have := few.2.2.2.2.2.2; show memCount c.lays + s.levels.length + 1 ≤ s.marks + 1; omega)
  have ho5 := hc5.obj
  have hl5 : (upd H4 c.Ll (.lst ((c.lays.map fun l => V.ref l.a).reverse ++ [.ref x]))) c.Ll = some (.lst ((c.lays.map fun l => V.ref l.a).reverse ++ [.ref x])) := upd_same
  walk_at "go"
  have er : step s (.group o how) = ({ s with list := s.list ++ [.begins], levels := ⟨[], o, how⟩ :: s.levels, marks := s.marks + 1 }, .number (s.levels.length + 1)) := (if_neg (by show ¬ (255 < o ∨ 8 ≤ how); omega)).trans (if_neg (by show ¬ (8 ≤ s.levels.length ∨ 32 ≤ s.marks); omega))
  rw [er] at d
  refine qi_of ?_ (d _ G (c.more ⟨x, lm, lc, [], []⟩) (k2.trans ?_) hc5)
  · show ((s.levels.length + 1 : Nat) : Int) = (((c.lays.map fun l => V.ref l.a).reverse ++ [V.ref x]).length : Int) - 1
    rw [List.length_append, ll]
    show ((s.levels.length + 1 : Nat) : Int) = ((s.levels.length + 1 + 1 : Nat) : Int) - 1
    omega
  · refine Keep.of (hide_step (fun a u n k => by rw [upd_ne (fun z => n (by rw [z]; exact own_mem.2.2.2.1))]; exact sx _ _ k) fun a ha => ?_)
    rcases own_more.mp ha with z | z | z
    · exact .inr (by rw [z]; exact upd2_none hlm)
    · exact .inr (by rw [z]; exact upd2_none hlc)
    · exact .inl z
end
end Pd
end
section
set_option Elab.async false
set_option linter.all false
set_option maxRecDepth 100000
set_option maxHeartbeats 4000000
namespace Pd
open PySem PySem.Spec PyProof.Rows L2
local macro_rules | `(tactic| walk_at "at") => `(tactic| first
  | assumption
  | exact upd_same
  | (refine (show Same _ _ by assumption) _ _ ?_; walk_at "at")
  | (refine (show But _ _ _ by assumption) _ _ (by assumption) ?_; assumption)
  | (refine Same.new (by assumption) _ _ ?_; walk_at "at")
  | (refine (upd_ne (ne_of (by assumption) (by assumption) (by intro z; cases z))).trans ?_; walk_at "at"))
local macro_rules | `(tactic| walk_at "go") => `(tactic| repeat (first
  | refine ⟨_, rfl, ?_⟩
  | refine ⟨_, _, rfl, rfl, ?_⟩
  | refine ⟨_, _, rfl, ?_⟩
  | refine ⟨_, _, _, rfl, ?_⟩
  | refine And.intro rfl ?_
  | refine And.intro (Or.inl ⟨by decide, by decide⟩) ?_
  | refine And.intro (Or.inr ⟨by decide, by decide⟩) ?_
  | refine And.intro ⟨by decide, by decide⟩ ?_
  | refine And.intro (Or.inl ⟨by omega, by omega⟩) ?_
  | refine And.intro (Or.inr ⟨by omega, by omega⟩) ?_
  | refine And.intro ⟨by omega, by omega⟩ ?_
  | refine And.intro trivial ?_
  | refine And.intro (by omega) ?_
  | refine And.intro (sz (Nat.le_of_ble_eq_true rfl)) ?_
  | refine And.intro (Or.inl ⟨rfl, _, SqL.of (by walk_at "at")⟩) ?_
  | refine ⟨_, _, _, _, rfl, rfl, SqT.of (by walk_at "at"), (by rfl), ?_⟩
  | refine ⟨_, _, _, _, rfl, rfl, SqL.of (by walk_at "at"), (by rfl), ?_⟩
  | refine ⟨_, _, _, _, _, rfl, (by walk_at "at"), (by assumption), (by assumption), Lk.h, ?_⟩
  | refine ⟨_, _, _, rfl, rfl, (by walk_at "at"), ?_⟩
  | refine ⟨_, _, _, rfl, (by walk_at "at"), LkN.h, ?_⟩
  | refine ⟨_, _, _, _, rfl, (by walk_at "at"), (by assumption), (by assumption), (by apply few_lt; decide), ?_⟩
  | refine ⟨_, _, (by walk_at "at"), (by apply few_lt; decide), ?_⟩
  | refine ⟨_, _, rfl, Or.inl (SqL.of (by walk_at "at")), ?_⟩))
open Wrvdot (State Answer step Level clipsNow withClips)
theorem upd_upd {H : Hp} {p : Addr} {a b : HO} : upd (upd H p a) p b = upd H p b := by
  funext q
  by_cases e : q = p
  · rw [e, upd_same, upd_same]
  · rw [upd_ne e, upd_ne e, upd_ne e]
theorem upd_comm {H : Hp} {p q : Addr} {a b : HO} (n : p ≠ q) : upd (upd H p a) q b = upd (upd H q b) p a := by
  funext r
  by_cases e : r = p
  · rw [e, upd_ne n, upd_same, upd_same]
  · by_cases f : r = q
    · rw [f, upd_same, upd_ne (Ne.symm n), upd_same]
    · rw [upd_ne f, upd_ne e, upd_ne e, upd_ne f]
section
variable {K : PySem.W.Frag} {G : Gh} {X M : List Addr} {H H' : Hp} {cv : Addr} {c : Cv} {s : State} {l : Lay} {r : List Lay}
/-- a page without marks, groups, clips -/
theorem CanvasAt.cleared (h : CanvasAt K G X H cv c s) {q ldx : Addr} (e : Same H H') (f1 : H l.lm = none) (f2 : H l.lc = none) (f3 : H l.a = none) (f4 : H q = none) (n1 : l.lm ≠ l.lc) (n2 : q ≠ l.lm) (n3 : q ≠ l.lc) (hu : l.us = []) (he : l.es = []) (b1 : H' l.lm = some (.lst [])) (b2 : H' l.lc = some (.lst []))
    (b3 : H' l.a = some (.ins (He.ga K "Layer") ldx (fl_Layer (.int 255) (.int 0) (.ref l.lm) (.ref l.lc)))) (b4 : H' q = some (.lst [.ref l.a])) :
    CanvasAt K G X (upd H' cv (.ins (He.ga K "Canvas") c.dx (fl_Canvas (.ref c.Lp) (.ref c.La) (.ref q) (.int 0) (.int 0)))) cv ⟨c.dx, c.Lp, c.La, q, [l]⟩ { s with list := [], page := [], levels := [], marks := 0, pieces := 0 } := by
  obtain ⟨ob, ⟨v1, p1, p2⟩, ⟨v2, q1, q2⟩, hl, ls, nd, xs, few⟩ := id h
  obtain ⟨m1, m2, m3, m4⟩ := own_ne nd
  have fr : ∀ {a}, H a = none → a ∉ X ++ c.own cv := fun f => h.fresh f
  have ncv : ∀ {a}, H a = none → a ≠ cv := fun f z => fr f (List.mem_append_right _ (by rw [z]; exact own_mem.1))
  have nLp : ∀ {a}, H a = none → a ≠ c.Lp := fun f z => fr f (List.mem_append_right _ (by rw [z]; exact own_mem.2.1))
  have nLa : ∀ {a}, H a = none → a ≠ c.La := fun f z => fr f (List.mem_append_right _ (by rw [z]; exact own_mem.2.2.1))
  have own2 : ∀ a, a ∈ Cv.own ⟨c.dx, c.Lp, c.La, q, [l]⟩ cv ↔ a = cv ∨ a = c.Lp ∨ a = c.La ∨ a = q ∨ a = l.lm ∨ a = l.lc := fun a => by simp [Cv.own]
  have key : ∀ a, a ∈ X ++ Cv.own ⟨c.dx, c.Lp, c.La, q, [l]⟩ cv → a ∈ X ++ c.own cv ∨ H a = none := fun a ha => by
    rcases List.mem_append.mp ha with m | m
    · exact .inl (List.mem_append_left _ m)
    · rcases (own2 a).mp m with z | z | z | z | z | z
      · exact .inl (List.mem_append_right _ (by rw [z]; exact own_mem.1))
      · exact .inl (List.mem_append_right _ (by rw [z]; exact own_mem.2.1))
      · exact .inl (List.mem_append_right _ (by rw [z]; exact own_mem.2.2.1))
      · exact .inr (by rw [z]; exact f4)
      · exact .inr (by rw [z]; exact f1)
      · exact .inr (by rw [z]; exact f2)
  have g : Grow G (hide (X ++ c.own cv) H) (hide (X ++ Cv.own ⟨c.dx, c.Lp, c.La, q, [l]⟩ cv) (upd H' cv (.ins (He.ga K "Canvas") c.dx (fl_Canvas (.ref c.Lp) (.ref c.La) (.ref q) (.int 0) (.int 0))))) :=
    Grow.of (hide_step (fun a u n k => by rw [upd_ne (fun z => n (by rw [z]; exact List.mem_append_right _ own_mem.1))]; exact e _ _ k) key)
  have get : ∀ {a u}, H' a = some u → a ≠ cv → (upd H' cv (.ins (He.ga K "Canvas") c.dx (fl_Canvas (.ref c.Lp) (.ref c.La) (.ref q) (.int 0) (.int 0)))) a = some u := fun k n => by rw [upd_ne n]; exact k
  have la : l.a ∉ X ++ Cv.own ⟨c.dx, c.Lp, c.La, q, [l]⟩ cv := fun m => by
    rcases List.mem_append.mp m with z | z
    · exact fr f3 (List.mem_append_left _ z)
    · rcases (own2 _).mp z with z | z | z | z | z | z
      · exact ncv f3 z
      · exact nLp f3 z
      · exact nLa f3 z
      · rw [z, b4] at b3; cases b3
      · rw [z, b1] at b3; cases b3
      · rw [z, b2] at b3; cases b3
  refine ⟨upd_same, ⟨v1, get (e _ _ p1) (Ne.symm m1.1), p2.imp fun _ _ h => h.keep g.1⟩, ⟨v2, get (e _ _ q1) (Ne.symm m1.2.1), q2.imp fun _ _ h => h.grow g⟩, get b4 (ncv f4), ?_, ?_, fun a ha => ?_, ?_⟩
  · refine ⟨⟨255, 0, ⟨ldx, ?_⟩, ?_, ?_, ⟨[], get b2 (ncv f2), All.nil⟩, by simp, by decide, by decide⟩, ?_⟩
    · rw [hide_at la]
      exact get b3 (ncv f3)
    · rw [hu]
      exact get b1 (ncv f1)
    · rw [hu, he]
      exact All.nil
    · unfold entsOf
      rw [he]
      rfl
  · show [cv, c.Lp, c.La, q, l.lm, l.lc].Nodup
    simp only [List.nodup_cons, List.mem_cons, List.not_mem_nil, or_false, not_or, List.nodup_nil, not_false_eq_true, and_true]
    exact ⟨⟨m1.1, m1.2.1, Ne.symm (ncv f4), Ne.symm (ncv f1), Ne.symm (ncv f2)⟩, ⟨m2.1, Ne.symm (nLp f4), Ne.symm (nLp f1), Ne.symm (nLp f2)⟩, ⟨Ne.symm (nLa f4), Ne.symm (nLa f1), Ne.symm (nLa f2)⟩, ⟨n2, n3⟩, n1⟩
  · obtain ⟨n, u, k, t⟩ := xs a ha
    refine ⟨fun m => ?_, u, get (e _ _ k) (fun z => n (by rw [z]; exact own_mem.1)), t⟩
    rcases (own2 _).mp m with z | z | z | z | z | z
    · exact n (by rw [z]; exact own_mem.1)
    · exact n (by rw [z]; exact own_mem.2.1)
    · exact n (by rw [z]; exact own_mem.2.2.1)
    · rw [z, f4] at k; cases k
    · rw [z, f1] at k; cases k
    · rw [z, f2] at k; cases k
  · obtain ⟨g1, g2, g3, g4⟩ := few
    refine ⟨g1, g2, g3, Nat.zero_le _, Nat.zero_le _, Nat.zero_le _, ?_⟩
    show ([l].map fun l => l.us.length).sum + 0 ≤ 0
    simp [hu]
end
section
variable {P : Program} {w : World} {K : PySem.W.Frag} {mg : Str → Option Value} {base : Heap}
theorem sc_Canvas_clear_page : FnScope ["self"] ["self"] (defScope s_Canvas_clear_page) := ⟨rfl, rfl, rfl, by decide +kernel, rfl, by decide +kernel, by decide +kernel⟩
theorem bd_Canvas_clear_page : BindAll "clear_page" "Canvas.clear_page" s_Canvas_clear_page ["self"] := fun _ _ _ _ _ _ us hl => match us, hl with | [_], _ => rfl
theorem ok_Canvas_clear_page (T : Txt K mg) : Ok P w K mg base CX0 3 (He.fAd K ("Canvas", some "clear_page")) ["self"] (fun vs H Q E => ∃ (G : Gh) (X : List Addr) (cv : Addr) (c : Cv) (s : State), vs = [.ref cv] ∧ CanvasAt K G X H cv c s ∧ Does K X cv c H (step s .clear) Q E) := by
  refine mk_ok T.f_Canvas_clear_page sc_Canvas_clear_page bd_Canvas_clear_page (fun _ _ _ _ ⟨_, _, _, _, _, e, _⟩ => by rw [e]; rfl) fun cdv A outer s0 H vs Q E hr h => ?_
  obtain ⟨G, X, cv, c, s, rfl, hc, d⟩ := h
  obtain ⟨ho, ⟨v1, p1, p2⟩, ⟨v2, q1, q2⟩, hl, lss, nd, xs, few⟩ := id hc
  have fc_Canvas := T.c_Canvas
  have fn_Canvas_layers := T.n_Canvas_layers
  have fn_Canvas_numbered := T.n_Canvas_numbered
  have fn_Canvas_pieces := T.n_Canvas_pieces
  refine ⟨_, (pss_cons (kx_sfld (K := K) rfl (pv 0) (pe_lst (pa_cons (c_make (ok_Layer_init (K := K) T) T.k_Layer hr (by decide) rfl T.g_Layer (fun _ => pass0) (pa_cons pe_int (pa_cons pe_int pa_nil))) pa_nil)) rfl)
      (pss_cons (kx_sfld (K := K) rfl (pv 0) pe_int rfl)
      (pss_cons (kx_sfld (K := K) rfl (pv 0) pe_int rfl)
      (pss_one (ps_ret pe_int))))), ?_⟩
  walk_at "go"
  intro x dx hx hdx ne
  refine ⟨x, dx, _, _, rfl, upd_same, fun H4 lm lc b4 hlm hlc nl m4 c4 x4 => ?_⟩
  have sx := made_same hx hdx b4
  have ho4 := sx _ _ ho
  refine ⟨rfl, ?_⟩
  walk_at "go"
  intro q hq
  have sq := Same.new (o := .lst [.ref x]) hq
  have qq : (upd H4 q (.lst [.ref x])) q = _ := upd_same
  have ho5 := sq _ _ ho4
  have m5 := sq _ _ m4
  have c5 := sq _ _ c4
  have x5 := sq _ _ x4
  have n2 : q ≠ lm := Ne.symm (ne_of_none m4 hq)
  have n3 : q ≠ lc := Ne.symm (ne_of_none c4 hq)
  generalize upd H4 q (.lst [.ref x]) = H5 at sq qq ho5 m5 c5 x5
  walk_at "go"
  rw [pt_Canvas_layers, pt_Canvas_numbered, pt_Canvas_pieces, upd_upd, upd_upd]
  have fin := hc.cleared (l := ⟨x, lm, lc, [], []⟩) (q := q) (ldx := dx) (sx.trans sq) (upd2_none hlm) (upd2_none hlc) hx (sx.free hq) nl n2 n3 rfl rfl m5 c5 x5 qq
  refine d _ G ⟨c.dx, c.Lp, c.La, q, [⟨x, lm, lc, [], []⟩]⟩ (Keep.of (hide_step (fun a u n k => by rw [upd_ne (fun z => n (by rw [z]; exact own_mem.1))]; exact sq _ _ (sx _ _ k)) fun a ha => ?_)) fin
  have own2 : a ∈ Cv.own ⟨c.dx, c.Lp, c.La, q, [⟨x, lm, lc, [], []⟩]⟩ cv ↔ a = cv ∨ a = c.Lp ∨ a = c.La ∨ a = q ∨ a = lm ∨ a = lc := by simp [Cv.own]
  rcases own2.mp ha with z | z | z | z | z | z
  · exact .inl (by rw [z]; exact own_mem.1)
  · exact .inl (by rw [z]; exact own_mem.2.1)
  · exact .inl (by rw [z]; exact own_mem.2.2.1)
  · exact .inr (by rw [z]; exact sx.free hq)
  · exact .inr (by rw [z]; exact upd2_none hlm)
  · exact .inr (by rw [z]; exact upd2_none hlc)
end
end Pd
end
section
set_option Elab.async false
set_option linter.all false
set_option maxRecDepth 100000
set_option maxHeartbeats 4000000
namespace Pd
open PySem PySem.Spec PyProof.Rows L2
local macro_rules | `(tactic| walk_at "at") => `(tactic| first
  | assumption
  | exact upd_same
  | (refine (show Same _ _ by assumption) _ _ ?_; walk_at "at")
  | (refine (show But _ _ _ by assumption) _ _ (by assumption) ?_; assumption)
  | (refine Same.new (by assumption) _ _ ?_; walk_at "at")
  | (refine (upd_ne (ne_of (by assumption) (by assumption) (by intro z; cases z))).trans ?_; walk_at "at"))
local macro_rules | `(tactic| walk_at "go") => `(tactic| repeat (first
  | refine ⟨_, rfl, ?_⟩
  | refine ⟨_, _, rfl, rfl, ?_⟩
  | refine ⟨_, _, rfl, ?_⟩
  | refine ⟨_, _, _, rfl, ?_⟩
  | refine And.intro rfl ?_
  | refine And.intro (Or.inl ⟨by decide, by decide⟩) ?_
  | refine And.intro (Or.inr ⟨by decide, by decide⟩) ?_
  | refine And.intro ⟨by decide, by decide⟩ ?_
  | refine And.intro (Or.inl ⟨by omega, by omega⟩) ?_
  | refine And.intro (Or.inr ⟨by omega, by omega⟩) ?_
  | refine And.intro ⟨by omega, by omega⟩ ?_
  | refine And.intro trivial ?_
  | refine And.intro (by omega) ?_
  | refine And.intro (sz (Nat.le_of_ble_eq_true rfl)) ?_
  | refine And.intro (Or.inl ⟨rfl, _, SqL.of (by walk_at "at")⟩) ?_
  | refine ⟨_, _, _, _, rfl, rfl, SqT.of (by walk_at "at"), (by rfl), ?_⟩
  | refine ⟨_, _, _, _, rfl, rfl, SqL.of (by walk_at "at"), (by rfl), ?_⟩
  | refine ⟨_, _, _, _, _, rfl, (by walk_at "at"), (by assumption), (by assumption), Lk.h, ?_⟩
  | refine ⟨_, _, _, rfl, rfl, (by walk_at "at"), ?_⟩
  | refine ⟨_, _, _, rfl, (by walk_at "at"), LkN.h, ?_⟩
  | refine ⟨_, _, _, _, rfl, (by walk_at "at"), (by assumption), (by assumption), (by apply few_lt; decide), ?_⟩
  | refine ⟨_, _, (by walk_at "at"), (by apply few_lt; decide), ?_⟩
  | refine ⟨_, _, rfl, Or.inl (SqL.of (by walk_at "at")), ?_⟩))
open Wrvdot (State Answer step Level clipsNow withClips)
def Lay.more (l : Lay) (v : V) (e : Ent) : Lay := ⟨l.a, l.lm, l.lc, l.us ++ [v], l.es ++ [e]⟩
section
variable {K : PySem.W.Frag} {G : Gh} {X M M' : List Addr} {H H' : Hp} {cv : Addr} {c : Cv} {s : State} {l l1 l2 : Lay} {r : List Lay}
theorem ents_more {l : Lay} {v : V} {e : Ent} : entsOf (l.more v e) = entsOf l ++ e.1 := by
  show ((l.es ++ [e]).map Prod.fst).flatten = (l.es.map Prod.fst).flatten ++ e.1
  rw [List.map_append, List.flatten_append]
  simp
theorem MemAt.mark {n : Nat} {v : V} {e : Ent} (h : MarkE K G H v e) : MemAt K G H n v e := by
  cases n with
  | zero => exact h
  | succ n => exact .inl h
/-- the head gets a member -/
theorem LaysAt.member {v : V} {e : Ent} (g : Grow G (hide M H) (hide M' H')) (e1 : H' l.lm = some (.lst (l.us ++ [v]))) (e2 : H' l.lc = H l.lc) (t : ∀ q ∈ r, H' q.lm = H q.lm ∧ H' q.lc = H q.lc) : ∀ {levels : List Level} {page : List Vd.Shape} {list : List Vd.Entry}, MemAt K G (hide M' H') (8 - levels.length) v e →
    LaysAt K G M H (l :: r) levels page list → LaysAt K G M' H' (l.more v e :: r) levels page (list ++ e.1)
  | [], page, list, m, h => by
    match r, h with
    | [], ⟨⟨o, how, ⟨dx, b⟩, c, d, ⟨vs, f, k⟩, z⟩, x⟩ =>
      exact ⟨⟨o, how, ⟨dx, g.1 _ _ b rfl⟩, e1, (d.imp fun _ _ h => MemAt.grow g h).snoc m, ⟨vs, e2.trans f, k.imp fun _ _ h => h.keep g.1⟩, z⟩, by rw [ents_more, x]⟩
  | v' :: vs, page, list, m, h => by
    match r, h with
    | k :: ks, ⟨⟨⟨dx, b⟩, c, d, ⟨ws, f, kk⟩, z⟩, list', x, tl⟩ =>
      have m' : MemAt K G (hide M' H') (7 - vs.length) v e := by
        rw [show 7 - vs.length = 8 - (v' :: vs).length by rw [List.length_cons]; omega]
        exact m
      exact ⟨⟨⟨dx, g.1 _ _ b rfl⟩, e1, (d.imp fun _ _ h => MemAt.grow g h).snoc m', ⟨ws, e2.trans f, kk.imp fun _ _ h => h.keep g.1⟩, z⟩, list', by rw [ents_more, x, List.append_assoc]; rfl, tl.go (fun _ _ => rfl) g t⟩
/-- the innermost group ends -/
theorem CanvasAt.closed {v : Level} {vs : List Level} {H2 : Hp} {g q gdx : Addr} {ws : List V} {cl : List Vd.Shape} (h : CanvasAt K G X H cv c s) (el : c.lays = l1 :: l2 :: r) (es : s.levels = v :: vs) (e : Same (upd H c.Ll (.lst ((l2 :: r).map fun l => V.ref l.a).reverse)) H2)
    (fg : H g = none) (fq : H q = none) (hq : H2 q = some (.lst ws)) (hg : H2 g = some (.ins (He.ga K "Group") gdx (fl_Group (.ref l1.lm) (.ref q) (.int (v.opacity : Int)) (.int (v.how : Int))))) (hw : All (ShRef K (hide (X ++ c.own cv) H)) ws cl) (hz : cl.length ≤ 4) :
    CanvasAt K G X (upd H2 l2.lm (.lst (l2.us ++ [.ref g]))) cv { c with lays := l2.more (.ref g) (.begins :: (entsOf l1 ++ [.ends cl v.opacity v.how]), v.how) :: r } { s with list := s.list ++ [.ends cl v.opacity v.how], levels := vs } := by
  obtain ⟨ob, ⟨v1, p1, p2⟩, ⟨v2, q1, q2⟩, hl, ls, nd, xs, few⟩ := id h
  obtain ⟨m1, m2, m3, m4⟩ := own_ne nd
  have i1 : l1 ∈ c.lays := by rw [el]; simp
  have i2 : l2 ∈ c.lays := by rw [el]; simp
  have ir : ∀ x ∈ r, x ∈ c.lays := fun x hx => by rw [el]; simp [hx]
  obtain ⟨t1, t2⟩ := own_top nd el
  have t2l := t2 l2 (List.mem_cons_self ..)
  have nd2 : l2.lm ≠ l2.lc ∧ ∀ x ∈ r, (x.lm ≠ l2.lm ∧ x.lc ≠ l2.lm) ∧ (x.lm ≠ l2.lc ∧ x.lc ≠ l2.lc) := by
    refine own_top (c := { c with lays := l2 :: r }) (cv := cv) ?_ rfl
    unfold Cv.own at nd ⊢
    rw [el] at nd
    simp only [List.flatMap_cons, List.cons_append, List.nil_append, List.nodup_cons, List.mem_cons, not_or] at nd ⊢
    obtain ⟨⟨a1, a2, a3, a4, a5, a6⟩, ⟨a7, a8, a9, a10, a11⟩, ⟨b1, b2, b3, b4⟩, ⟨b5, b6, b7⟩, _, _, rest⟩ := nd
    exact ⟨⟨a1, a2, a3, a6⟩, ⟨a7, a8, a11⟩, ⟨b1, b4⟩, b7, rest⟩
  have fr : ∀ {a}, H a = none → a ∉ X ++ c.own cv := fun f => h.fresh f
  have sub : ∀ a, a ∈ Cv.own { c with lays := l2.more (.ref g) (.begins :: (entsOf l1 ++ [.ends cl v.opacity v.how]), v.how) :: r } cv → a ∈ c.own cv ∧ a ≠ l1.lm ∧ a ≠ l1.lc := by
    intro a ha
    unfold Cv.own at ha ⊢
    rw [el]
    simp only [List.flatMap_cons, List.mem_cons, List.mem_append, List.mem_flatMap, List.not_mem_nil, or_false] at ha ⊢
    obtain ⟨n7a, n7b⟩ := m4 l1 i1
    rcases ha with z | z | z | z | (z | z) | ⟨x, hx, z⟩
    · exact ⟨.inl z, by rw [z]; exact Ne.symm n7a.1, by rw [z]; exact Ne.symm n7b.1⟩
    · exact ⟨.inr (.inl z), by rw [z]; exact Ne.symm n7a.2.1, by rw [z]; exact Ne.symm n7b.2.1⟩
    · exact ⟨.inr (.inr (.inl z)), by rw [z]; exact Ne.symm n7a.2.2.1, by rw [z]; exact Ne.symm n7b.2.2.1⟩
    · exact ⟨.inr (.inr (.inr (.inl z))), by rw [z]; exact Ne.symm n7a.2.2.2, by rw [z]; exact Ne.symm n7b.2.2.2⟩
    · replace z : a = l2.lm := z
      exact ⟨.inr (.inr (.inr (.inr (.inr (.inl (.inl z)))))), by rw [z]; exact t2l.1.1, by rw [z]; exact t2l.2.1⟩
    · replace z : a = l2.lc := z
      exact ⟨.inr (.inr (.inr (.inr (.inr (.inl (.inr z)))))), by rw [z]; exact t2l.1.2, by rw [z]; exact t2l.2.2⟩
    · have tx := t2 x (List.mem_cons_of_mem _ hx)
      refine ⟨.inr (.inr (.inr (.inr (.inr (.inr ⟨x, hx, z⟩))))), ?_, ?_⟩
      · rcases z with z | z <;> rw [z]
        · exact tx.1.1
        · exact tx.1.2
      · rcases z with z | z <;> rw [z]
        · exact tx.2.1
        · exact tx.2.2
  have get : ∀ {a u}, H a = some u → a ≠ c.Ll → a ≠ l2.lm → (upd H2 l2.lm (.lst (l2.us ++ [.ref g]))) a = some u := fun k n n' => by
    rw [upd_ne n']
    exact e _ _ (by rw [upd_ne n]; exact k)
  have mo2 := (own_mem (c := c) (cv := cv)).2.2.2.2 l2 i2
  have gr : Grow G (hide (X ++ c.own cv) H) (hide (X ++ Cv.own { c with lays := l2.more (.ref g) (.begins :: (entsOf l1 ++ [.ends cl v.opacity v.how]), v.how) :: r } cv) (upd H2 l2.lm (.lst (l2.us ++ [.ref g])))) :=
    Grow.of (hide_step (fun a u n k => get k (fun z => n (by rw [z]; exact List.mem_append_right _ own_mem.2.2.2.1)) (fun z => n (by rw [z]; exact List.mem_append_right _ mo2.1))) fun a ha => by
      rcases List.mem_append.mp ha with m | m
      · exact .inl (List.mem_append_left _ m)
      · exact .inl (List.mem_append_right _ (sub a m).1))
  have notM : ∀ {a}, H a = none → a ∉ X ++ Cv.own { c with lays := l2.more (.ref g) (.begins :: (entsOf l1 ++ [.ends cl v.opacity v.how]), v.how) :: r } cv := fun f m => by
    rcases List.mem_append.mp m with z | z
    · exact fr f (List.mem_append_left _ z)
    · exact fr f (List.mem_append_right _ (sub _ z).1)
  have l1M : l1.lm ∉ X ++ Cv.own { c with lays := l2.more (.ref g) (.begins :: (entsOf l1 ++ [.ends cl v.opacity v.how]), v.how) :: r } cv := fun m => by
    rcases List.mem_append.mp m with z | z
    · exact (xs _ z).1 ((own_mem (c := c) (cv := cv)).2.2.2.2 l1 i1).1
    · exact (sub _ z).2.1 rfl
  have neq : ∀ {a}, H a = none → a ≠ l2.lm := fun f z => fr f (List.mem_append_right _ (by rw [z]; exact mo2.1))
  rw [el, es] at ls
  obtain ⟨⟨_, lb1, lm1, _, lc1, lo1, lh1⟩, list', le, tl⟩ := ls
  have f6 := few.2.2.2.2.2.1
  rw [es, List.length_cons] at f6
  obtain ⟨_, _, _, _, _, bm2, _, ⟨bv2, bc2, _⟩, _⟩ := tl.each l2 (List.mem_cons_self ..)
  have n2 := m4 l2 i2
  have n1 := m4 l1 i1
  have mem : MemAt K G (hide (X ++ Cv.own { c with lays := l2.more (.ref g) (.begins :: (entsOf l1 ++ [.ends cl v.opacity v.how]), v.how) :: r } cv) (upd H2 l2.lm (.lst (l2.us ++ [.ref g])))) (8 - vs.length) (.ref g) (.begins :: (entsOf l1 ++ [.ends cl v.opacity v.how]), v.how) := by
    rw [show 8 - vs.length = (7 - vs.length) + 1 by omega]
    refine .inr ⟨g, gdx, l1.lm, q, l1.us, l1.es, cl, v.opacity, v.how, rfl, ?_, ?_, lm1.imp fun _ _ h => MemAt.grow gr h, ⟨ws, ?_, hw.imp fun _ _ h => h.keep gr.1⟩, lo1, lh1, by omega, ?_, rfl⟩
    · rw [hide_at (notM fg), upd_ne (neq fg)]
      exact hg
    · rw [hide_at l1M]
      exact get lb1 n1.1.2.2.2 (Ne.symm t2l.1.1)
    · rw [hide_at (notM fq), upd_ne (neq fq)]
      exact hq
    · have := few.2.2.2.2.2.2
      have h32 := few.2.2.2.1
      rw [el] at this
      unfold memCount at this
      rw [List.map_cons, List.sum_cons] at this
      omega
  refine ⟨get ob m1.2.2 (Ne.symm n2.1.1), ⟨v1, get p1 m2.2 (Ne.symm n2.1.2.1), p2.imp fun _ _ h => h.keep gr.1⟩, ⟨v2, get q1 m3 (Ne.symm n2.1.2.2.1), q2.imp fun _ _ h => h.grow gr⟩, ?_, ?_, ?_, fun a ha => ?_, ?_⟩
  · show (upd H2 l2.lm (.lst (l2.us ++ [.ref g]))) c.Ll = _
    rw [upd_ne (Ne.symm n2.1.2.2.2)]
    exact e _ _ upd_same
  · have := LaysAt.member (l := l2) (v := .ref g) (e := (.begins :: (entsOf l1 ++ [.ends cl v.opacity v.how]), v.how)) gr upd_same ?_ ?_ mem tl
    · have eL : s.list ++ [.ends cl v.opacity v.how] = list' ++ (.begins :: (entsOf l1 ++ [.ends cl v.opacity v.how])) := by
        rw [le, List.append_assoc]
        rfl
      show LaysAt K G _ _ (l2.more (.ref g) (.begins :: (entsOf l1 ++ [.ends cl v.opacity v.how]), v.how) :: r) vs s.page (s.list ++ [.ends cl v.opacity v.how])
      rw [eL]
      exact this
    · rw [get bc2 n2.2.2.2.2 (Ne.symm nd2.1), bc2]
    · intro x hx
      obtain ⟨_, _, _, _, _, bm, _, ⟨_, bc, _⟩, _⟩ := tl.each x (List.mem_cons_of_mem _ hx)
      have nx := m4 x (ir x hx)
      have tx := nd2.2 x hx
      rw [get bm nx.1.2.2.2 tx.1.1, get bc nx.2.2.2.2 tx.1.2, bm, bc]
      exact ⟨rfl, rfl⟩
  · unfold Cv.own at nd ⊢
    rw [el] at nd
    simp only [List.flatMap_cons, List.cons_append, List.nil_append, List.nodup_cons, List.mem_cons, not_or] at nd ⊢
    obtain ⟨⟨a1, a2, a3, a4, a5, a6⟩, ⟨a7, a8, a9, a10, a11⟩, ⟨b1, b2, b3, b4⟩, ⟨b5, b6, b7⟩, _, _, rest⟩ := nd
    exact ⟨⟨a1, a2, a3, a6⟩, ⟨a7, a8, a11⟩, ⟨b1, b4⟩, b7, rest⟩
  · obtain ⟨n, u, k, t⟩ := xs a ha
    refine ⟨fun m => n (sub a m).1, u, get k (fun z => n (by rw [z]; exact own_mem.2.2.2.1)) (fun z => n (by rw [z]; exact mo2.1)), t⟩
  · obtain ⟨g1, g2, g3, g4, g5, g6, g7⟩ := few
    refine ⟨g1, g2, g3, g4, g5, by show vs.length ≤ 8; omega, ?_⟩
    show ((l2.more _ _ :: r).map fun l => l.us.length).sum + vs.length ≤ s.marks
    rw [el, es] at g7
    unfold memCount at g7
    simp only [List.map_cons, List.sum_cons, List.length_cons] at g7 ⊢
    show (l2.us ++ [V.ref g]).length + (r.map fun l => l.us.length).sum + vs.length ≤ s.marks
    rw [List.length_append]
    show l2.us.length + 1 + (r.map fun l => l.us.length).sum + vs.length ≤ s.marks
    omega
end
end Pd
end
section
set_option Elab.async false
set_option linter.all false
set_option maxRecDepth 100000
set_option maxHeartbeats 4000000
namespace Pd
open PySem PySem.Spec PyProof.Rows L2
local macro_rules | `(tactic| walk_at "at") => `(tactic| first
  | assumption
  | exact upd_same
  | (refine (show Same _ _ by assumption) _ _ ?_; walk_at "at")
  | (refine (show But _ _ _ by assumption) _ _ (by assumption) ?_; assumption)
  | (refine Same.new (by assumption) _ _ ?_; walk_at "at")
  | (refine (upd_ne (ne_of (by assumption) (by assumption) (by intro z; cases z))).trans ?_; walk_at "at"))
local macro_rules | `(tactic| walk_at "go") => `(tactic| repeat (first
  | refine ⟨_, rfl, ?_⟩
  | refine ⟨_, _, rfl, rfl, ?_⟩
  | refine ⟨_, _, rfl, ?_⟩
  | refine ⟨_, _, _, rfl, ?_⟩
  | refine And.intro rfl ?_
  | refine And.intro (Or.inl ⟨by decide, by decide⟩) ?_
  | refine And.intro (Or.inr ⟨by decide, by decide⟩) ?_
  | refine And.intro ⟨by decide, by decide⟩ ?_
  | refine And.intro (Or.inl ⟨by omega, by omega⟩) ?_
  | refine And.intro (Or.inr ⟨by omega, by omega⟩) ?_
  | refine And.intro ⟨by omega, by omega⟩ ?_
  | refine And.intro trivial ?_
  | refine And.intro (by omega) ?_
  | refine And.intro (sz (Nat.le_of_ble_eq_true rfl)) ?_
  | refine And.intro (Or.inl ⟨rfl, _, SqL.of (by walk_at "at")⟩) ?_
  | refine ⟨_, _, _, _, rfl, rfl, SqT.of (by walk_at "at"), (by rfl), ?_⟩
  | refine ⟨_, _, _, _, rfl, rfl, SqL.of (by walk_at "at"), (by rfl), ?_⟩
  | refine ⟨_, _, _, _, _, rfl, (by walk_at "at"), (by assumption), (by assumption), Lk.h, ?_⟩
  | refine ⟨_, _, _, rfl, rfl, (by walk_at "at"), ?_⟩
  | refine ⟨_, _, _, rfl, (by walk_at "at"), LkN.h, ?_⟩
  | refine ⟨_, _, _, _, rfl, (by walk_at "at"), (by assumption), (by assumption), (by apply few_lt; decide), ?_⟩
  | refine ⟨_, _, (by walk_at "at"), (by apply few_lt; decide), ?_⟩
  | refine ⟨_, _, rfl, Or.inl (SqL.of (by walk_at "at")), ?_⟩))
open Wrvdot (State Answer step Level clipsNow withClips)
section
variable {P : Program} {w : World} {K : PySem.W.Frag} {mg : Str → Option Value} {base : Heap}
theorem sc_Canvas_end_group : FnScope ["self", "ended", "around"] ["self"] (defScope s_Canvas_end_group) := ⟨rfl, rfl, rfl, by decide +kernel, rfl, by decide +kernel, by decide +kernel⟩
theorem bd_Canvas_end_group : BindAll "end_group" "Canvas.end_group" s_Canvas_end_group ["self"] := fun _ _ _ _ _ _ us hl => match us, hl with | [_], _ => rfl
theorem ok_Canvas_end_group (T : Txt K mg) : Ok P w K mg base (L2.CX P w) 3 (He.fAd K ("Canvas", some "end_group")) ["self"] (fun vs H Q E => ∃ (G : Gh) (X : List Addr) (cv : Addr) (c : Cv) (s : State), vs = [.ref cv] ∧ CanvasAt K G X H cv c s ∧ Does K X cv c H (step s .end_) Q E) := by
  refine mk_okX T.f_Canvas_end_group sc_Canvas_end_group bd_Canvas_end_group (fun _ _ _ _ ⟨_, _, _, _, _, e, _⟩ => by rw [e]; rfl) fun cdv A outer s0 H vs Q E hr h => ?_
  obtain ⟨G, X, cv, c, s, rfl, hc, d⟩ := h
  obtain ⟨ho, ⟨v1, p1, p2⟩, ⟨v2, q1, q2⟩, hl, lss, nd, xs, few⟩ := id hc
  obtain ⟨l, r, _, _, el, ⟨⟨ldx, la⟩, lb, _⟩, lr⟩ := lss.top
  have ll : (c.lays.map fun l => V.ref l.a).reverse.length = s.levels.length + 1 := by
    rw [List.length_reverse, List.length_map, el, List.length_cons, lr]
  have fc_Canvas := T.c_Canvas
  have fc_Group := T.c_Group
  have fc_Layer := T.c_Layer
  have fc_Mark := T.c_Mark
  have fc_Pictured := T.c_Pictured
  have fc_Shade := T.c_Shade
  have fn_Canvas_layers := T.n_Canvas_layers
  have fn_Group_clips := T.n_Group_clips
  have fn_Group_how := T.n_Group_how
  have fn_Group_members := T.n_Group_members
  have fn_Group_opacity := T.n_Group_opacity
  have fn_Layer_clips := T.n_Layer_clips
  have fn_Layer_how := T.n_Layer_how
  have fn_Layer_members := T.n_Layer_members
  have fn_Layer_opacity := T.n_Layer_opacity
  have fn_Mark_how := T.n_Mark_how
  have fn_Pictured_how := T.n_Pictured_how
  have fn_Shade_how := T.n_Shade_how
  refine ⟨_, (pss_cons (ps_if (pt_cmpR op_eq (pe_callB (kx_len (K := K) rfl) (by rfl) T.z_len PySem.boot_len (pa_cons (kx_fld (K := K) rfl (pv 0) rfl) pa_nil)) pe_int (nomark _)) (pss_one (ps_raise rfl (takes_of rfl rfl rfl rfl) (pmk_own0 PySem.F.excBase_Exception T.x_InvalidCall.1 T.g_InvalidCall T.x_InvalidCall.2.1 (raises_own T.x_InvalidCall.2.2.1 T.x_InvalidCall.2.2.2) (by exact rfl)))) pss_nil)
      (pss_cons (ps_set (i := 1) sc_Canvas_end_group.nd rfl (Or.inl rfl) (kx_bm0 (K := K) rfl PySem.F.plainAttrs_list PySem.F.slot_list_pop PySem.F.type_list_pop mt_pop (kx_fld (K := K) rfl (pv 0) rfl)))
      (pss_cons (ps_set (i := 2) sc_Canvas_end_group.nd rfl (Or.inl rfl) (pe_ix (kx_ixl (K := K) rfl) (kx_fld (K := K) rfl (pv 0) rfl) (pe_un un_neg pe_int) (fun _ _ => rfl)))
      (pss_cons (ps_expr (kx_bm (K := K) rfl PySem.F.plainAttrs_list PySem.F.slot_list_append PySem.F.type_list_append mt_append (kx_fld (K := K) rfl (pv 2) rfl) (pa_cons (c_make (ok_Group_init (K := K) T) T.k_Group hr (by decide) rfl T.g_Group (fun _ => pass0) (pa_cons (kx_fld (K := K) rfl (pv 1) rfl) (pa_cons (pe_callTy (kx_listOf (K := K) rfl) (by rfl) T.z_list (by decide +kernel) (pa_cons (kx_fld (K := K) rfl (pv 2) rfl) pa_nil)) (pa_cons (kx_fld (K := K) rfl (pv 1) rfl) (pa_cons (kx_fld (K := K) rfl (pv 1) rfl) pa_nil))))) pa_nil)))
      (pss_one (ps_ret (pe_op op_sub (pe_callB (kx_len (K := K) rfl) (by rfl) T.z_len PySem.boot_len (pa_cons (kx_fld (K := K) rfl (pv 0) rfl) pa_nil)) pe_int))))))), ?_⟩
  walk_at "go"
  refine ite2 (fun c0 => ?_) (fun c0 => ?_)
  · have c1 : ((c.lays.map fun l => V.ref l.a).reverse.length : Int) = 1 := dint c0
    have e0 : s.levels = [] := List.eq_nil_of_length_eq_zero (by omega)
    have er : step s .end_ = (s, .refused (-1)) := by
      show (match s.levels with
        | [] => _
        | l :: r => _) = _
      rw [e0] <;> rfl
    rw [er] at d
    exact d.no hc (Same.refl _)
  have c1 : ¬ ((c.lays.map fun l => V.ref l.a).reverse.length : Int) = 1 := dint_not c0
  obtain ⟨v, vs, es⟩ : ∃ v vs, s.levels = v :: vs := by
    cases e : s.levels with
    | nil => rw [e] at ll; exact absurd (by rw [ll]; rfl) c1
    | cons v vs => exact ⟨v, vs, rfl⟩
  obtain ⟨l2, r2, rfl⟩ : ∃ l2 r2, r = l2 :: r2 := by
    cases r with
    | nil => rw [es] at lr; cases lr
    | cons l2 r2 => exact ⟨l2, r2, rfl⟩
  walk_at "go"
  refine ⟨c.Ll, _, .ref l.a, rfl, rfl, hl, lays_ref el, ?_⟩
  have eD : (c.lays.map fun l => V.ref l.a).reverse.dropLast = ((l2 :: r2).map fun l => V.ref l.a).reverse := by
    rw [el, List.map_cons, List.reverse_cons, List.dropLast_concat]
  rw [eD]
  obtain ⟨m1, m2, m3, m4⟩ := own_ne nd
  have i1 : l ∈ c.lays := by rw [el]; simp
  have i2 : l2 ∈ c.lays := by rw [el]; simp
  have n1 := m4 l i1
  have n2 := m4 l2 i2
  have hl1 : (upd H c.Ll (.lst ((l2 :: r2).map fun l => V.ref l.a).reverse)) c.Ll = some (.lst ((l2 :: r2).map fun l => V.ref l.a).reverse) := upd_same
  have ho1 : (upd H c.Ll (.lst ((l2 :: r2).map fun l => V.ref l.a).reverse)) cv = _ := (upd_ne m1.2.2).trans ho
  have lss2 := lss
  rw [el, es] at lss2
  obtain ⟨⟨⟨edx, ea⟩, eb, _⟩, list', le, tl⟩ := lss2
  obtain ⟨l2', r2', o2, how2, el2, ⟨⟨adx, aa⟩, ab, _, ⟨ws, af, ak⟩, a4, _⟩, _⟩ := LaysAt.top (s := { s with levels := vs, list := list' }) tl
  cases el2
  have ea1 : (upd H c.Ll (.lst ((l2 :: r2).map fun l => V.ref l.a).reverse)) l.a = _ := (upd_ne (ne_of (hide_sub _ _ _ _ ea) hl (by intro z; cases z))).trans (hide_sub _ _ _ _ ea)
  have aa1 : (upd H c.Ll (.lst ((l2 :: r2).map fun l => V.ref l.a).reverse)) l2.a = _ := (upd_ne (ne_of (hide_sub _ _ _ _ aa) hl (by intro z; cases z))).trans (hide_sub _ _ _ _ aa)
  have af1 : (upd H c.Ll (.lst ((l2 :: r2).map fun l => V.ref l.a).reverse)) l2.lc = some (.lst ws) := (upd_ne n2.2.2.2.2).trans af
  have ab1 : (upd H c.Ll (.lst ((l2 :: r2).map fun l => V.ref l.a).reverse)) l2.lm = some (.lst l2.us) := (upd_ne n2.1.2.2.2).trans ab
  have fHH : ∀ a, (upd H c.Ll (.lst ((l2 :: r2).map fun l => V.ref l.a).reverse)) a = none → H a = none := fun a e => by
    by_cases z : a = c.Ll
    · rw [z, upd_same] at e; cases e
    · rw [upd_ne z] at e; exact e
  have kH : ∀ a o, a ≠ c.Ll → H a = some o → (upd H c.Ll (.lst ((l2 :: r2).map fun l => V.ref l.a).reverse)) a = some o := fun a o n k => by rw [upd_ne n]; exact k
  have clos := fun H2 g q gdx => hc.closed (H2 := H2) (g := g) (q := q) (gdx := gdx) (ws := ws) (cl := clipsNow { s with levels := vs }) el es
  generalize upd H c.Ll (.lst ((l2 :: r2).map fun l => V.ref l.a).reverse) = H1 at hl1 ho1 ea1 aa1 af1 ab1 fHH kH clos
  walk_at "go"
  refine ⟨_, _, _, _, rfl, rfl, SqL.of hl1, at_last1 (lays_ref (c := { c with lays := l2 :: r2 }) rfl), ?_⟩
  walk_at "go"
  intro q hq
  have sq := Same.new (o := .lst ws) hq
  have qq : (upd H1 q (.lst ws)) q = some (.lst ws) := upd_same
  have ea2 := sq _ _ ea1
  have aa2 := sq _ _ aa1
  have hl2 := sq _ _ hl1
  have ho2 := sq _ _ ho1
  have ab2 := sq _ _ ab1
  generalize upd H1 q (.lst ws) = H2 at sq qq ea2 aa2 hl2 ho2 ab2
  walk_at "go"
  intro g gdx hg hgdx ne
  refine ⟨g, gdx, _, _, _, _, rfl, upd_same, fun H3 b3 g3 => ?_⟩
  have sx := made_same hg hgdx b3
  have hl3 := sx _ _ hl2
  have ho3 := sx _ _ ho2
  have ab3 := sx _ _ ab2
  have h32 := few.2.2.2.1
  have hmc := few.2.2.2.2.2.2
  rw [el] at hmc
  unfold memCount at hmc
  rw [List.map_cons, List.sum_cons, List.map_cons, List.sum_cons] at hmc
  have w2 : l2.us.length < sizeLine := szl (by omega)
  refine ⟨rfl, ?_⟩
  walk_at "go"
  have fin := clos H3 g q gdx (sq.trans sx) (fHH _ (sq.free hg)) (fHH _ hq) (sx _ _ qq) g3 ak a4
  have ho4 := fin.obj
  have hl4 := fin.lst
  walk_at "go"
  have er : step s .end_ = ({ s with list := s.list ++ [.ends (clipsNow { s with levels := vs }) v.opacity v.how], levels := vs }, .number vs.length) := by
    show (match s.levels with
      | [] => _
      | l :: r => _) = _
    rw [es]
  rw [er] at d
  have mo2 := (own_mem (c := c) (cv := cv)).2.2.2.2 l2 i2
  refine qi_of ?_ (d _ G _ (Keep.of (hide_step (fun a u n k => ?_) fun a ha => ?_)) fin)
  · show (vs.length : Int) = (((l2.more _ _ :: r2).map fun l => V.ref l.a).reverse.length : Int) - 1
    rw [List.length_reverse, List.length_map, List.length_cons]
    rw [es, List.length_cons, List.length_cons] at lr
    omega
  · rw [upd_ne (fun z => n (by rw [z]; exact mo2.1))]
    exact sx _ _ (sq _ _ (kH _ _ (fun z => n (by rw [z]; exact own_mem.2.2.2.1)) k))
  · refine .inl ?_
    unfold Cv.own at ha ⊢
    rw [el]
    simp only [List.flatMap_cons, List.mem_cons, List.mem_append, List.mem_flatMap, List.not_mem_nil, or_false] at ha ⊢
    rcases ha with z | z | z | z | (z | z) | z
    · exact .inl z
    · exact .inr (.inl z)
    · exact .inr (.inr (.inl z))
    · exact .inr (.inr (.inr (.inl z)))
    · exact .inr (.inr (.inr (.inr (.inr (.inl (.inl z))))))
    · exact .inr (.inr (.inr (.inr (.inr (.inl (.inr z))))))
    · exact .inr (.inr (.inr (.inr (.inr (.inr z)))))
end
end Pd
end
section
set_option Elab.async false
set_option linter.all false
set_option maxRecDepth 100000
set_option maxHeartbeats 4000000
namespace Pd
open PySem PySem.Spec PyProof.Rows L2
local macro_rules | `(tactic| walk_at "at") => `(tactic| first
  | assumption
  | exact upd_same
  | (refine (show Same _ _ by assumption) _ _ ?_; walk_at "at")
  | (refine (show But _ _ _ by assumption) _ _ (by assumption) ?_; assumption)
  | (refine Same.new (by assumption) _ _ ?_; walk_at "at")
  | (refine (upd_ne (ne_of (by assumption) (by assumption) (by intro z; cases z))).trans ?_; walk_at "at"))
local macro_rules | `(tactic| walk_at "go") => `(tactic| repeat (first
  | refine ⟨_, rfl, ?_⟩
  | refine ⟨_, _, rfl, rfl, ?_⟩
  | refine ⟨_, _, rfl, ?_⟩
  | refine ⟨_, _, _, rfl, ?_⟩
  | refine And.intro rfl ?_
  | refine And.intro (Or.inl ⟨by decide, by decide⟩) ?_
  | refine And.intro (Or.inr ⟨by decide, by decide⟩) ?_
  | refine And.intro ⟨by decide, by decide⟩ ?_
  | refine And.intro (Or.inl ⟨by omega, by omega⟩) ?_
  | refine And.intro (Or.inr ⟨by omega, by omega⟩) ?_
  | refine And.intro ⟨by omega, by omega⟩ ?_
  | refine And.intro trivial ?_
  | refine And.intro (by omega) ?_
  | refine And.intro (sz (Nat.le_of_ble_eq_true rfl)) ?_
  | refine And.intro (Or.inl ⟨rfl, _, SqL.of (by walk_at "at")⟩) ?_
  | refine ⟨_, _, _, _, rfl, rfl, SqT.of (by walk_at "at"), (by rfl), ?_⟩
  | refine ⟨_, _, _, _, rfl, rfl, SqL.of (by walk_at "at"), (by rfl), ?_⟩
  | refine ⟨_, _, _, _, _, rfl, (by walk_at "at"), (by assumption), (by assumption), Lk.h, ?_⟩
  | refine ⟨_, _, _, rfl, rfl, (by walk_at "at"), ?_⟩
  | refine ⟨_, _, _, rfl, (by walk_at "at"), LkN.h, ?_⟩
  | refine ⟨_, _, _, _, rfl, (by walk_at "at"), (by assumption), (by assumption), (by apply few_lt; decide), ?_⟩
  | refine ⟨_, _, (by walk_at "at"), (by apply few_lt; decide), ?_⟩
  | refine ⟨_, _, rfl, Or.inl (SqL.of (by walk_at "at")), ?_⟩))
open Wrvdot (State Answer step Level clipsNow withClips)
section
variable {K : PySem.W.Frag} {G : Gh} {X : List Addr} {H : Hp} {cv : Addr} {c : Cv} {s : State} {l : Lay} {r : List Lay}
/-- a mark more -/
theorem CanvasAt.member (h : CanvasAt K G X H cv c s) (el : c.lays = l :: r) {v : V} {e : Ent} (m : MemAt K G (hide (X ++ c.own cv) H) (8 - s.levels.length) v e) (hz : memCount c.lays + 1 + s.levels.length ≤ s.marks) :
    CanvasAt K G X (upd H l.lm (.lst (l.us ++ [v]))) cv { c with lays := l.more v e :: r } { s with list := s.list ++ e.1 } := by
  obtain ⟨o, ⟨v1, p1, p2⟩, ⟨v2, q1, q2⟩, hl, ls, nd, xs, few⟩ := h
  obtain ⟨⟨n1, n2, n3⟩, ⟨n4, n5⟩, n6, n7⟩ := own_ne nd
  have ml : l ∈ c.lays := by rw [el]; exact List.mem_cons_self ..
  have mo := (own_mem (c := c) (cv := cv)).2.2.2.2 l ml
  obtain ⟨t1, t2⟩ := own_top nd el
  have eo : Cv.own { c with lays := l.more v e :: r } cv = c.own cv := by
    unfold Cv.own
    rw [el]
    rfl
  have eh : hide (X ++ Cv.own { c with lays := l.more v e :: r } cv) (upd H l.lm (.lst (l.us ++ [v]))) = hide (X ++ c.own cv) H := by
    rw [eo]
    exact hide_upd (List.mem_append_right _ mo.1)
  have nn := (n7 l ml).1
  refine ⟨by rw [upd_ne (Ne.symm nn.1)]; exact o, ⟨v1, by rw [upd_ne (Ne.symm nn.2.1)]; exact p1, by rw [eh]; exact p2⟩, ⟨v2, by rw [upd_ne (Ne.symm nn.2.2.1)]; exact q1, by rw [eh]; exact q2⟩, ?_, ?_, by rw [eo]; exact nd, by rw [eo]; exact xs_upd mo.1 xs, ?_⟩
  · show (upd H l.lm (.lst (l.us ++ [v]))) c.Ll = some (.lst ((l.more v e :: r).map fun l => V.ref l.a).reverse)
    rw [upd_ne (Ne.symm nn.2.2.2), hl, el]
    rfl
  · rw [el] at ls
    exact LaysAt.member (Grow.refl' eh.symm) upd_same (upd_ne (Ne.symm t1)) (fun q hq => ⟨upd_ne (t2 q hq).1.1, upd_ne (t2 q hq).1.2⟩) (by rw [eh]; exact m) ls
  · obtain ⟨f1, f2, f3, f4, f5, f6, f7⟩ := few
    refine ⟨f1, f2, f3, f4, f5, f6, ?_⟩
    show ((l.more v e :: r).map fun l => l.us.length).sum + s.levels.length ≤ s.marks
    rw [el] at hz
    unfold memCount at hz
    simp only [List.map_cons, List.sum_cons] at hz ⊢
    show (l.us ++ [v]).length + (r.map fun l => l.us.length).sum + s.levels.length ≤ s.marks
    rw [List.length_append]
    show l.us.length + 1 + (r.map fun l => l.us.length).sum + s.levels.length ≤ s.marks
    omega
end
section
variable {P : Program} {w : World} {K : PySem.W.Frag} {mg : Str → Option Value} {base : Heap}
instance lk_pieces_numbered {y x0 x1 x2 x3 x4 : V} : Lk (putF "pieces" y (fl_Canvas x0 x1 x2 x3 x4)) "numbered" x3 := ⟨by rw [pt_Canvas_pieces]; exact Lk.h⟩
instance few_pieces {y x0 x1 x2 x3 x4 : V} : Few (putF "pieces" y (fl_Canvas x0 x1 x2 x3 x4)) 5 := ⟨by rw [pt_Canvas_pieces]; exact Few.h⟩
instance lk_num2 {y z x0 x1 x2 x3 x4 : V} : Lk (putF "numbered" z (putF "pieces" y (fl_Canvas x0 x1 x2 x3 x4))) "numbered" z := ⟨by rw [pt_Canvas_pieces, pt_Canvas_numbered]; exact Lk.h⟩
theorem sc_Canvas_add_mark : FnScope ["self", "paint", "how", "rule", "path", "here"] ["self", "paint", "how", "rule", "path"] (defScope s_Canvas_add_mark) := ⟨rfl, rfl, rfl, by decide +kernel, rfl, by decide +kernel, by decide +kernel⟩
theorem bd_Canvas_add_mark : BindAll "add_mark" "Canvas.add_mark" s_Canvas_add_mark ["self", "paint", "how", "rule", "path"] := fun _ _ _ _ _ _ us hl => match us, hl with | [_, _, _, _, _], _ => rfl
theorem ok_Canvas_add_mark (T : Txt K mg) : Ok P w K mg base (L2.CX P w) 4 (He.fAd K ("Canvas", some "add_mark")) ["self", "paint", "how", "rule", "path"] (fun vs H Q E => ∃ (G : Gh) (X : List Addr) (cv : Addr) (c : Cv) (s : State) (pi how rule : Nat) (pa : Addr) (p : List Wrvdot.Piece), vs = [.ref cv, .int (pi : Int), .int (how : Int), .int (rule : Int), .ref pa] ∧ CanvasAt K G X H cv c s ∧
    ListOf PcAt H pa p ∧ pa ∉ X ++ c.own cv ∧ p.length ≤ 30000 ∧ Does K X cv c H (step s (.mark pi how rule p)) Q E) := by
  refine mk_okX T.f_Canvas_add_mark sc_Canvas_add_mark bd_Canvas_add_mark (fun _ _ _ _ ⟨_, _, _, _, _, _, _, _, _, _, e, _⟩ => by rw [e]; rfl) fun cdv A outer s0 H vs Q E hr h => ?_
  obtain ⟨G, X, cv, c, s, pi, how, rule, pa, p, rfl, hc, hp, hpn, hz, d⟩ := h
  obtain ⟨ho, ⟨v1, p1, p2⟩, ⟨v2, q1, q2⟩, hl, lss, nd, xs, few⟩ := id hc
  obtain ⟨l, r, o, hw, el, ⟨⟨ldx, la⟩, lb, lcc, ⟨ws, lf, lk⟩, l4, lo⟩, _⟩ := lss.top
  have lw := lk.1
  have lq := q2.1
  obtain ⟨us, hpa, aus⟩ := id hp
  have lus := aus.1
  have fc_Canvas := T.c_Canvas
  have fc_Group := T.c_Group
  have fc_Layer := T.c_Layer
  have fn_Canvas_layers := T.n_Canvas_layers
  have fn_Canvas_numbered := T.n_Canvas_numbered
  have fn_Canvas_paints := T.n_Canvas_paints
  have fn_Canvas_pieces := T.n_Canvas_pieces
  have fn_Group_clips := T.n_Group_clips
  have fn_Group_members := T.n_Group_members
  have fn_Layer_clips := T.n_Layer_clips
  have fn_Layer_members := T.n_Layer_members
  refine ⟨_, (Evl.pss_cut (ps_if (PW.pt (pw_or (pt_cmpR op_ge (pv 1) (pe_callB (kx_len (K := K) rfl) (by rfl) T.z_len PySem.boot_len (pa_cons (kx_fld (K := K) rfl (pv 0) rfl) pa_nil)) (nomark _)) (pw_or (pt_cmpR op_gt (pv 2) pe_int (nomark _)) (pw_or (pt_cmpR op_gt (pv 3) pe_int (nomark _)) (pw_or1 (pt_not (pt_val (c_call (ok_is_path (K := K) T) hr (by decide) rfl T.g_is_path pass0 (pa_cons (pv 4) pa_nil))))))))) (pss_one (ps_raise rfl (takes_of rfl rfl rfl rfl) (pmk_own0 PySem.F.excBase_Exception T.x_InvalidCall.1 T.g_InvalidCall T.x_InvalidCall.2.1 (raises_own T.x_InvalidCall.2.2.1 T.x_InvalidCall.2.2.2) (by exact rfl)))) pss_nil)
      (Evl.pss_cut (ps_if (PW.pt (pw_or (pt_cmpR op_ge (kx_fld (K := K) rfl (pv 0) rfl) (c_int rfl T.i_MOST_MEMBERS) (nomark _)) (pw_or1 (pt_cmpR op_gt (pe_op op_add (kx_fld (K := K) rfl (pv 0) rfl) (pe_callB (kx_len (K := K) rfl) (by rfl) T.z_len PySem.boot_len (pa_cons (pv 4) pa_nil))) (c_int rfl T.i_MOST_PIECES) (nomark _))))) (pss_one (ps_raise rfl (takes_of rfl rfl rfl rfl) (pmk_own0 PySem.F.excBase_Exception T.x_LimitReached.1 T.g_LimitReached T.x_LimitReached.2.1 (raises_own T.x_LimitReached.2.2.1 T.x_LimitReached.2.2.2) (by exact rfl)))) pss_nil)
      (pss_cons (ps_set (i := 5) sc_Canvas_add_mark.nd rfl (Or.inl rfl) (pe_ix (kx_ixl (K := K) rfl) (kx_fld (K := K) rfl (pv 0) rfl) (pe_un un_neg pe_int) (fun _ _ => rfl)))
      (pss_cons (ps_expr (kx_bm (K := K) rfl PySem.F.plainAttrs_list PySem.F.slot_list_append PySem.F.type_list_append mt_append (kx_fld (K := K) rfl (pv 5) rfl) (pa_cons (c_make (ok_Mark_init (K := K) T) T.k_Mark hr (by decide) rfl T.g_Mark (fun _ => pass0) (pa_cons (c_make (ok_Shape_init (K := K) T) T.k_Shape hr (by decide) rfl T.g_Shape (fun _ => pass0) (pa_cons (pv 3) (pa_cons (pv 4) pa_nil))) (pa_cons (pe_callTy (kx_listOf (K := K) rfl) (by rfl) T.z_list (by decide +kernel) (pa_cons (kx_fld (K := K) rfl (pv 5) rfl) pa_nil)) (pa_cons (pe_ix (kx_ixl (K := K) rfl) (kx_fld (K := K) rfl (pv 0) rfl) (pv 1) (fun _ _ => rfl)) (pa_cons (pv 2) pa_nil))))) pa_nil)))
      (pss_cons (kx_aug (K := K) rfl (pv 0) (pe_callB (kx_len (K := K) rfl) (by rfl) T.z_len PySem.boot_len (pa_cons (pv 4) pa_nil)) in_add)
      (pss_cons (kx_aug (K := K) rfl (pv 0) pe_int in_add)
      (pss_one (ps_ret (pe_op op_sub (kx_fld (K := K) rfl (pv 0) rfl) pe_int))))))))), ?_⟩
  walk_at "go"
  refine ⟨fun σ' H' => (∃ e : Option V, σ' = [some (.ref cv), some (.int (pi : Int)), some (.int (how : Int)), some (.int (rule : Int)), some (.ref pa), e]) ∧ Same H H' ∧ pi < s.paints.length ∧ how ≤ 7 ∧ rule ≤ 1 ∧ Wrvdot.pathOk p = true, ?_, ?_⟩
  · walk_at "go"
    refine ite2 (fun c0 => ?_) (fun c0 => ?_)
    · have c1 : (v2.length : Int) ≤ pi := ddec c0
      have er : step s (.mark pi how rule p) = (s, .refused (-1)) := by
        show (match s.paints[pi]? with
          | none => _
          | some x => _) = _
        rw [List.getElem?_eq_none (by omega)] <;> rfl
      rw [er] at d
      exact d.no hc (Same.refl _)
    have c1 : ¬ (v2.length : Int) ≤ pi := dnot c0
    have lt : pi < s.paints.length := by omega
    have no : ∀ H', Same H H' → (8 ≤ how ∨ 1 < rule ∨ Wrvdot.pathOk p = false) → E (.ref (He.ga K "InvalidCall")) none H' := fun H' sme z => by
      have er : step s (.mark pi how rule p) = (s, .refused (-1)) := by
        show (match s.paints[pi]? with
          | none => _
          | some x => _) = _
        rw [List.getElem?_eq_getElem lt]
        exact if_pos z
      rw [er] at d
      exact d.no hc sme
    walk_at "go"
    refine ite2 (fun c0 => ?_) (fun c0 => ?_)
    · have c2 : (7 : Int) < how := ddec c0
      exact no _ (Same.refl _) (.inl (by omega))
    have c2 : ¬ (7 : Int) < how := dnot c0
    walk_at "go"
    refine ite2 (fun c0 => ?_) (fun c0 => ?_)
    · have c3 : (1 : Int) < rule := ddec c0
      exact no _ (Same.refl _) (.inr (.inl (by omega)))
    have c3 : ¬ (1 : Int) < rule := dnot c0
    walk_at "go"
    refine ⟨pa, p, rfl, hp, hz, fun H1 s1 => ?_⟩
    walk_at "go"
    cases hok : Wrvdot.pathOk p with
    | false => exact no _ s1 (.inr (.inr hok))
    | true => exact ⟨⟨_, rfl⟩, s1, lt, by omega, by omega, rfl⟩
  rintro σ' H1 ⟨⟨e1, rfl⟩, s1, lt, h7, hr1, hok⟩
  have ep := List.getElem?_eq_getElem lt
  generalize s.paints[pi] = pnt at ep
  have ho1 := s1 _ _ ho
  have hl1 := s1 _ _ hl
  have la1 := s1 _ _ (hide_sub _ _ _ _ la)
  have lf1 := s1 _ _ lf
  have lb1 := s1 _ _ lb
  have hpa1 := s1 _ _ hpa
  have q11 := s1 _ _ q1
  refine ⟨fun σ' H' => (∃ e : Option V, σ' = [some (.ref cv), some (.int (pi : Int)), some (.int (how : Int)), some (.int (rule : Int)), some (.ref pa), e]) ∧ H' = H1 ∧ s.marks < 32 ∧ s.pieces + p.length ≤ 256, ?_, ?_⟩
  · walk_at "go"
    have no : (32 ≤ s.marks ∨ 256 < s.pieces + p.length) → E (.ref (He.ga K "LimitReached")) none H1 := fun z => by
      have er : step s (.mark pi how rule p) = (s, .refused (-3)) := by
        show (match s.paints[pi]? with
          | none => _
          | some x => _) = _
        rw [ep]
        exact (if_neg (by rw [hok]; show ¬ (8 ≤ how ∨ 1 < rule ∨ true = false); simp; omega)).trans (if_pos z)
      rw [er] at d
      exact d.no hc s1
    refine ite2 (fun c0 => ?_) (fun c0 => ?_)
    · have c1 : (32 : Int) ≤ s.marks := ddec c0
      exact no (.inl (by omega))
    have c1 : ¬ (32 : Int) ≤ s.marks := dnot c0
    walk_at "go"
    refine ite2 (fun c0 => ?_) (fun c0 => ?_)
    · have c2 : (256 : Int) < (s.pieces : Int) + us.length := ddec c0
      exact no (.inr (by omega))
    · have c2 : ¬ (256 : Int) < (s.pieces : Int) + us.length := dnot c0
      exact ⟨⟨_, rfl⟩, rfl, by omega, by omega⟩
  rintro σ' H' ⟨⟨e2, rfl⟩, rfl, n32, n256⟩
  walk_at "go"
  refine ⟨_, _, _, _, rfl, rfl, SqL.of hl1, at_last1 (lays_ref el), ?_⟩
  walk_at "go"
  intro x dx hx hdx ne
  have s23 : Same H' (upd (upd H' dx (.own x)) x (.ins (He.ga K "Shape") dx [])) := fun a o e => by
    rw [upd_ne (ne_of_none e hx), upd_ne (ne_of_none e hdx)]
    exact e
  refine ⟨x, dx, pa, rule, p, rfl, upd_same, ⟨us, s23 _ _ hpa1, aus.imp fun _ _ h => TupI.mono s23 (TupI.mono s1 h)⟩, by omega, hok, hr1, fun H2 sl sv b2 hsl hsv sw => ?_⟩
  have hc1 := hc.same s1
  have sx := made_same hx hdx b2
  have shp := hc1.shape hx hdx b2 hsl hsv sw
  have ho2 := sx _ _ ho1
  have la2 := sx _ _ la1
  have lf2 := sx _ _ lf1
  have q12 := sx _ _ q11
  refine ⟨rfl, ?_⟩
  walk_at "go"
  intro q hq
  have sq := Same.new (o := .lst ws) hq
  have qq : (upd H2 q (.lst ws)) q = some (.lst ws) := upd_same
  have ho3 := sq _ _ ho2
  have la3 := sq _ _ la2
  have q13 := sq _ _ q12
  generalize upd H2 q (.lst ws) = H3 at sq qq ho3 la3 q13
  obtain ⟨pv1, hpv, pat⟩ := q2.at ep
  walk_at "go"
  refine ⟨_, _, _, _, rfl, rfl, SqL.of q13, at_of (j := pi) rfl hpv, ?_⟩
  walk_at "go"
  intro g gdx hg hgdx nge
  have s34 : Same H3 (upd (upd H3 gdx (.own g)) g (.ins (He.ga K "Mark") gdx [])) := fun a o e => by
    rw [upd_ne (ne_of_none e hg), upd_ne (ne_of_none e hgdx)]
    exact e
  refine ⟨g, gdx, q, _, _, _, ws, rfl, upd_same, s34 _ _ qq, by omega, fun H4 mls b4 hmls m4 g4 => ?_⟩
  have sg := made_same hg hgdx b4
  have s14 := (sx.trans sq).trans sg
  have s04 := s1.trans s14
  have hc4 := hc.same s04
  have ho4 := s14 _ _ ho1
  have lb4 := s14 _ _ lb1
  have hpa4 := s14 _ _ hpa1
  have h32 := few.2.2.2.1
  have hmc := few.2.2.2.2.2.2
  have hmc2 := hmc
  rw [el] at hmc2
  unfold memCount at hmc2
  rw [List.map_cons, List.sum_cons] at hmc2
  have wlu : l.us.length < sizeLine := szl (by omega)
  have ncv : cv ≠ l.lm := ne_of ho4 lb4 (by intro z; cases z)
  have ho5 : (upd H4 l.lm (.lst (l.us ++ [.ref g]))) cv = _ := (upd_ne ncv).trans ho4
  have ml : l ∈ c.lays := by rw [el]; exact List.mem_cons_self ..
  have mo := (own_mem (c := c) (cv := cv)).2.2.2.2 l ml
  have npa : pa ≠ l.lm := fun z => hpn (List.mem_append_right _ (by rw [z]; exact mo.1))
  have hpa5 : (upd H4 l.lm (.lst (l.us ++ [.ref g]))) pa = _ := (upd_ne npa).trans hpa4
  refine ⟨rfl, ?_⟩
  walk_at "go"
  rw [pt_Canvas_pieces, pt_Canvas_numbered, upd_upd, upd_comm (Ne.symm ncv)]
  have e1 : (s.marks : Int) + 1 = ((s.marks + 1 : Nat) : Int) := by omega
  have e2 : (s.pieces : Int) + us.length = ((s.pieces + p.length : Nat) : Int) := by omega
  rw [e1, e2]
  have hc5 := hc4.nums (m := s.marks + 1) (n := s.pieces + p.length) (by omega) n256 (by omega)
  have eh : hide (X ++ c.own cv) (upd H4 cv (.ins (He.ga K "Canvas") c.dx (fl_Canvas (.ref c.Lp) (.ref c.La) (.ref c.Ll) (.int ((s.marks + 1 : Nat) : Int)) (.int ((s.pieces + p.length : Nat) : Int))))) = hide (X ++ c.own cv) H4 := hide_upd (List.mem_append_right _ own_mem.1)
  have mk : MarkAt K G (hide (X ++ c.own cv) H4) (.ref g) (Wrvdot.shapeOf rule p) (clipsNow s) pnt how := by
    refine ⟨g, gdx, mls, pv1, rfl, (hide_at (hc.fresh (s1.free ((sx.trans sq).free hg)))).trans g4, ⟨_, (hide_at (hc.fresh (s1.free ((sx.trans sq).free (upd2_none hmls))))).trans m4, All.cons (shp.mono (hide_same (sq.trans sg))) (lk.imp fun _ _ h => h.mono (hide_same s04))⟩, pat.grow (Grow.of (hide_same s04)), h7, by omega⟩
  have hc6 := hc5.member (v := .ref g) (e := ([.mark (Wrvdot.shapeOf rule p) (clipsNow s) pnt how], how)) el (by rw [eh]; exact MemAt.mark ⟨_, _, _, _, mk, rfl⟩) (by show memCount c.lays + 1 + s.levels.length ≤ s.marks + 1; omega)
  have er : step s (.mark pi how rule p) = ({ s with list := s.list ++ [.mark (Wrvdot.shapeOf rule p) (clipsNow s) pnt how], marks := s.marks + 1, pieces := s.pieces + p.length }, .number s.marks) := by
    show (match s.paints[pi]? with
      | none => _
      | some x => _) = _
    rw [ep]
    exact (if_neg (by rw [hok]; show ¬ (8 ≤ how ∨ 1 < rule ∨ true = false); simp; omega)).trans (if_neg (by show ¬ (32 ≤ s.marks ∨ 256 < s.pieces + p.length); omega))
  rw [er] at d
  have eo : Cv.own { c with lays := l.more (.ref g) ([.mark (Wrvdot.shapeOf rule p) (clipsNow s) pnt how], how) :: r } cv = c.own cv := by
    unfold Cv.own
    rw [el]
    rfl
  refine qi_of ?_ (d _ G _ ?_ hc6)
  · show (s.marks : Int) = ((s.marks + 1 : Nat) : Int) - 1
    omega
  · rw [eo]
    exact (Keep.of (hide_same s04)).trans ((keep_upd own_mem.1).trans (keep_upd mo.1))
end
end Pd
end
section
set_option Elab.async false
set_option linter.all false
set_option maxRecDepth 100000
set_option maxHeartbeats 4000000
namespace Pd
open PySem PySem.Spec PyProof.Rows L2
local macro_rules | `(tactic| walk_at "at") => `(tactic| first
  | assumption
  | exact upd_same
  | (refine (show Same _ _ by assumption) _ _ ?_; walk_at "at")
  | (refine (show But _ _ _ by assumption) _ _ (by assumption) ?_; assumption)
  | (refine Same.new (by assumption) _ _ ?_; walk_at "at")
  | (refine (upd_ne (ne_of (by assumption) (by assumption) (by intro z; cases z))).trans ?_; walk_at "at"))
local macro_rules | `(tactic| walk_at "go") => `(tactic| repeat (first
  | refine ⟨_, rfl, ?_⟩
  | refine ⟨_, _, rfl, rfl, ?_⟩
  | refine ⟨_, _, rfl, ?_⟩
  | refine ⟨_, _, _, rfl, ?_⟩
  | refine And.intro rfl ?_
  | refine And.intro (Or.inl ⟨by decide, by decide⟩) ?_
  | refine And.intro (Or.inr ⟨by decide, by decide⟩) ?_
  | refine And.intro ⟨by decide, by decide⟩ ?_
  | refine And.intro (Or.inl ⟨by omega, by omega⟩) ?_
  | refine And.intro (Or.inr ⟨by omega, by omega⟩) ?_
  | refine And.intro ⟨by omega, by omega⟩ ?_
  | refine And.intro trivial ?_
  | refine And.intro (by omega) ?_
  | refine And.intro (sz (Nat.le_of_ble_eq_true rfl)) ?_
  | refine And.intro (Or.inl ⟨rfl, _, SqL.of (by walk_at "at")⟩) ?_
  | refine ⟨_, _, _, _, rfl, rfl, SqT.of (by walk_at "at"), (by rfl), ?_⟩
  | refine ⟨_, _, _, _, rfl, rfl, SqL.of (by walk_at "at"), (by rfl), ?_⟩
  | refine ⟨_, _, _, _, _, rfl, (by walk_at "at"), (by assumption), (by assumption), Lk.h, ?_⟩
  | refine ⟨_, _, _, rfl, rfl, (by walk_at "at"), ?_⟩
  | refine ⟨_, _, _, rfl, (by walk_at "at"), LkN.h, ?_⟩
  | refine ⟨_, _, _, _, rfl, (by walk_at "at"), (by assumption), (by assumption), (by apply few_lt; decide), ?_⟩
  | refine ⟨_, _, (by walk_at "at"), (by apply few_lt; decide), ?_⟩
  | refine ⟨_, _, rfl, Or.inl (SqL.of (by walk_at "at")), ?_⟩))
open Wrvdot (State Answer step Level clipsNow withClips)
section
variable {K : PySem.W.Frag} {G : Gh} {X : List Addr} {H H' : Hp} {cv : Addr} {c : Cv} {s : State} {l : Lay} {r : List Lay}
theorem CanvasAt.grow (h : CanvasAt K G X H cv c s) (g : Grow G H H') : CanvasAt K G X H' cv c s := by
  have own_ : ∀ a ∈ c.own cv, H' a = H a := fun a ha => by
    obtain ⟨o, k, _, d⟩ := h.owns a ha
    rw [k, g.1 _ _ k d]
  have nt : NoT (X ++ c.own cv) H' := fun a xs e m => by
    rcases List.mem_append.mp m with z | z
    · obtain ⟨n, o, k, t, hd⟩ := h.xs a z
      rw [g.1 _ _ k hd] at e
      cases e
      cases t
    · obtain ⟨o, k, t, _⟩ := h.owns a z
      rw [own_ a z, k] at e
      cases e
      cases t
  refine h.keep ⟨fun a o e hd => ?_, fun d hd => ?_⟩ own_ fun a ha => ?_
  · obtain ⟨n, k⟩ := hide_some e
    rw [hide_at n]
    exact g.1 _ _ k hd
  · have hd2 := g.2 d (hd.same (hide_sub _ _))
    obtain ⟨kvs, e, _⟩ := hd
    exact hd2.hid nt (hide_some e).1
  · obtain ⟨n, o, k, t, hd⟩ := h.xs a ha
    exact ⟨n, o, g.1 _ _ k hd, t, hd⟩
end
section
variable {P : Program} {w : World} {K : PySem.W.Frag} {mg : Str → Option Value} {base : Heap}
/-- the dots in order -/
def dotI (s : State) (g : Nat) (x y : Int) (pw : Nat) (k : Nat) : Int := (Wrvdot.told (Vd.dot s.list (Vd.colOf g) (x + ((k % pw : Nat) : Int)) (y + ((k / pw : Nat) : Int))) : Nat)
theorem dots_line (s : State) (g : Nat) (x y : Int) (pw ph : Nat) : (Wrvdot.dotsOf s.list g x y pw ph).map (fun (n : Nat) => V.int (n : Int)) = lineV (pw * ph) (dotI s g x y pw) := by
  unfold Wrvdot.dotsOf lineV
  rw [List.map_map]
  rfl
theorem sc_Canvas_draw_dots : FnScope ["self", "ground", "x", "y", "width", "height", "drawn", "j", "i"] ["self", "ground", "x", "y", "width", "height"] (defScope s_Canvas_draw_dots) := ⟨rfl, rfl, rfl, by decide +kernel, rfl, by decide +kernel, by decide +kernel⟩
theorem bd_Canvas_draw_dots : BindAll "draw_dots" "Canvas.draw_dots" s_Canvas_draw_dots ["self", "ground", "x", "y", "width", "height"] := fun _ _ _ _ _ _ us hl => match us, hl with | [_, _, _, _, _, _], _ => rfl
theorem ok_Canvas_draw_dots (T : Txt K mg) : Ok P w K mg base (L2.CX P w) 24 (He.fAd K ("Canvas", some "draw_dots")) ["self", "ground", "x", "y", "width", "height"] (fun vs H Q E => ∃ (G : Gh) (X : List Addr) (cv : Addr) (c : Cv) (s : State) (g pw ph : Nat) (x y : Int), vs = [.ref cv, .int (g : Int), .int x, .int y, .int (pw : Int), .int (ph : Int)] ∧ CanvasAt K G X H cv c s ∧ Does K X cv c H (step s (.dots g x y pw ph)) Q E) := by
  refine mk_okX T.f_Canvas_draw_dots sc_Canvas_draw_dots bd_Canvas_draw_dots (fun _ _ _ _ ⟨_, _, _, _, _, _, _, _, _, _, e, _⟩ => by rw [e]; rfl) fun cdv A outer s0 H vs Q E hr h => ?_
  obtain ⟨G, X, cv, c, s, g, pw, ph, x, y, rfl, hc, d⟩ := h
  obtain ⟨ho, _, _, hl, lss, nd, xs, few⟩ := id hc
  obtain ⟨l, r, o, hw, el, ⟨⟨ldx, la⟩, lb, lm, _⟩, lr⟩ := lss.top
  have ll : (c.lays.map fun l => V.ref l.a).reverse.length = s.levels.length + 1 := by
    rw [List.length_reverse, List.length_map, el, List.length_cons, lr]
  have fc_Canvas := T.c_Canvas
  have fc_Group := T.c_Group
  have fc_Layer := T.c_Layer
  have fn_Canvas_layers := T.n_Canvas_layers
  have fn_Group_members := T.n_Group_members
  have fn_Layer_members := T.n_Layer_members
  refine ⟨_, (Evl.pss_cut (ps_if (PW.pt (pw_or (pt_cmpR op_gt (pv 1) pe_int (nomark _)) (pw_or (pt_val (c_call (ok_is_far (K := K) T) hr (by decide) rfl T.g_is_far pass0 (pa_cons (pv 2) pa_nil))) (pw_or (pt_val (c_call (ok_is_far (K := K) T) hr (by decide) rfl T.g_is_far pass0 (pa_cons (pv 3) pa_nil))) (pw_or (pt_cmpR op_gt (pv 4) pe_int (nomark _)) (pw_or1 (pt_cmpR op_gt (pv 5) pe_int (nomark _)))))))) (pss_one (ps_raise rfl (takes_of rfl rfl rfl rfl) (pmk_own0 PySem.F.excBase_Exception T.x_InvalidCall.1 T.g_InvalidCall T.x_InvalidCall.2.1 (raises_own T.x_InvalidCall.2.2.1 T.x_InvalidCall.2.2.2) (by exact rfl)))) pss_nil)
      (Evl.pss_cut (ps_if (pt_cmpR op_gt (pe_callB (kx_len (K := K) rfl) (by rfl) T.z_len PySem.boot_len (pa_cons (kx_fld (K := K) rfl (pv 0) rfl) pa_nil)) pe_int (nomark _)) (pss_one (ps_raise rfl (takes_of rfl rfl rfl rfl) (pmk_own0 PySem.F.excBase_Exception T.x_GroupNotEnded.1 T.g_GroupNotEnded T.x_GroupNotEnded.2.1 (raises_own T.x_GroupNotEnded.2.2.1 T.x_GroupNotEnded.2.2.2) (by exact rfl)))) pss_nil)
      (pss_cons (ps_set (i := 6) sc_Canvas_draw_dots.nd rfl (Or.inl rfl) (pe_lst pa_nil))
      (pss_cons (ps_for (passes_of rfl) rfl (pi_range2 rfl T.z_range (pa_cons (pv 3) (pa_cons (pe_op op_add (pv 3) (pv 5)) pa_nil))) (pg_name (i := 7) sc_Canvas_draw_dots.nd rfl (Or.inl rfl)) (pss_one (ps_for (passes_of rfl) rfl (pi_range2 rfl T.z_range (pa_cons (pv 2) (pa_cons (pe_op op_add (pv 2) (pv 4)) pa_nil))) (pg_name (i := 8) sc_Canvas_draw_dots.nd rfl (Or.inl rfl)) (pss_one (ps_expr (kx_bm (K := K) rfl PySem.F.plainAttrs_list PySem.F.slot_list_append PySem.F.type_list_append mt_append (pv 6) (pa_cons (c_call (ok_dot_of (K := K) T) hr (by decide) rfl T.g_dot_of pass0 (pa_cons (kx_fld (K := K) rfl (pe_ix (kx_ixl (K := K) rfl) (kx_fld (K := K) rfl (pv 0) rfl) pe_int (fun _ _ => rfl)) rfl) (pa_cons (pv 1) (pa_cons (pv 8) (pa_cons (pv 7) pa_nil))))) pa_nil)))))))
      (pss_one (ps_ret (pv 6))))))), ?_⟩
  walk_at "go"
  have pf := place_far (x, y)
  refine ⟨fun σ' H' => (∃ e f h : Option V, σ' = [some (.ref cv), some (.int (g : Int)), some (.int x), some (.int y), some (.int (pw : Int)), some (.int (ph : Int)), e, f, h]) ∧ H' = H ∧ g < 16777216 ∧ Wrvdot.placeOk (x, y) = true ∧ pw ≤ 8 ∧ ph ≤ 8, ?_, ?_⟩
  · walk_at "go"
    have no : (16777216 ≤ g ∨ Wrvdot.placeOk (x, y) = false ∨ 8 < pw ∨ 8 < ph) → E (.ref (He.ga K "InvalidCall")) none H := fun z => by
      have er : step s (.dots g x y pw ph) = (s, .refused (-1)) := congrArg (Prod.mk s) (if_pos z)
      rw [er] at d
      exact d.no hc (Same.refl _)
    refine ite2 (fun c0 => ?_) (fun c0 => ?_)
    · have c1 : (16777215 : Int) < g := ddec c0
      exact no (.inl (by omega))
    have c1 : ¬ (16777215 : Int) < g := dnot c0
    walk_at "go"
    refine ite2 (fun c0 => ?_) (fun c0 => ?_)
    · have c2 : farB x = true := c0
      exact no (.inr (.inl (by rw [pf]; show (!(farB x || farB y)) = false; rw [c2] <;> rfl)))
    have c2 : farB x = false := Bool.eq_false_iff.mpr c0
    walk_at "go"
    refine ite2 (fun c0 => ?_) (fun c0 => ?_)
    · have c3 : farB y = true := c0
      exact no (.inr (.inl (by rw [pf]; show (!(farB x || farB y)) = false; rw [c2, c3] <;> rfl)))
    have c3 : farB y = false := Bool.eq_false_iff.mpr c0
    walk_at "go"
    refine ite2 (fun c0 => ?_) (fun c0 => ?_)
    · have c4 : (8 : Int) < pw := ddec c0
      exact no (.inr (.inr (.inl (by omega))))
    have c4 : ¬ (8 : Int) < pw := dnot c0
    walk_at "go"
    refine ite2 (fun c0 => ?_) (fun c0 => ?_)
    · have c5 : (8 : Int) < ph := ddec c0
      exact no (.inr (.inr (.inr (by omega))))
    · have c5 : ¬ (8 : Int) < ph := dnot c0
      exact ⟨⟨_, _, _, rfl⟩, rfl, by omega, by rw [pf]; show (!(farB x || farB y)) = true; rw [c2, c3] <;> rfl, by omega, by omega⟩
  rintro σ' H' ⟨⟨e1, e2, e3, rfl⟩, rfl, g24, pok, w8, h8⟩
  have nb : ¬ (16777216 ≤ g ∨ Wrvdot.placeOk (x, y) = false ∨ 8 < pw ∨ 8 < ph) := by
    rw [pok]
    simp
    omega
  have near := near_ok pok
  obtain ⟨⟨x1, x2⟩, y1, y2⟩ := near
  refine ⟨fun σ' H2 => (∃ e f h : Option V, σ' = [some (.ref cv), some (.int (g : Int)), some (.int x), some (.int y), some (.int (pw : Int)), some (.int (ph : Int)), e, f, h]) ∧ H2 = H' ∧ s.levels = [], ?_, ?_⟩
  · walk_at "go"
    refine ite2 (fun c0 => ?_) (fun c0 => ?_)
    · have c1 : (1 : Int) < (c.lays.map fun l => V.ref l.a).reverse.length := ddec c0
      have er : step s (.dots g x y pw ph) = (s, .refused (-5)) := congrArg (Prod.mk s) ((if_neg nb).trans (if_pos (by
        cases e : s.levels with
        | nil => rw [e] at ll; rw [ll] at c1; exact absurd c1 (by decide)
        | cons v vs => rfl)))
      rw [er] at d
      exact d.no hc (Same.refl _)
    · have c1 : ¬ (1 : Int) < (c.lays.map fun l => V.ref l.a).reverse.length := dnot c0
      exact ⟨⟨_, _, _, rfl⟩, rfl, List.eq_nil_of_length_eq_zero (by omega)⟩
  rintro σ' H2 ⟨⟨f1, f2, f3, rfl⟩, rfl, lv0⟩
  have er : step s (.dots g x y pw ph) = (s, .row (Wrvdot.dotsOf s.list g x y pw ph)) := congrArg (Prod.mk s) ((if_neg nb).trans (if_neg (by rw [lv0]; decide)))
  rw [er] at d
  rw [lv0] at lss lm
  have r0 : r = [] := List.eq_nil_of_length_eq_zero (by rw [lr, lv0] <;> rfl)
  subst r0
  rw [el] at lss
  have els : s.list = entsOf l := lss.2
  have mem8 : All (MemAt K G H2 8) l.us l.es := lm.imp fun _ _ h => MemAt.grow (Grow.of (hide_sub _ _)) h
  have lla : (c.lays.map fun l => V.ref l.a).reverse = [.ref l.a] := by rw [el]; rfl
  rw [lla] at hl
  have la1 := hide_sub _ _ _ _ la
  have lus : l.us.length ≤ 40 := by
    have := few.2.2.2.2.2.2
    have := few.2.2.2.1
    rw [el] at *
    unfold memCount at *
    simp at *
    omega
  walk_at "go"
  intro D hD
  have sD := Same.new (o := .lst []) hD
  have DD : (upd H2 D (.lst [])) D = some (.lst []) := upd_same
  generalize upd H2 D (.lst []) = H3 at sD DD
  walk_at "go"
  refine for_range (fun b σ H' => (∃ e f : Option V, σ = [some (.ref cv), some (.int (g : Int)), some (.int x), some (.int y), some (.int (pw : Int)), some (.int (ph : Int)), some (.ref D), e, f]) ∧ Grow G H2 H' ∧ H' D = some (.lst (lineV (b * pw) (dotI s g x y pw))))
    ⟨⟨_, _, rfl⟩, Grow.of sD, by rw [Nat.zero_mul]; exact DD⟩ ?_ ?_
  · rintro b σ H4 hb ⟨⟨e4, f4, rfl⟩, g4, D4⟩
    have hb2 : b < ph := by omega
    walk_at "go"
    refine for_range (fun a σ H' => (∃ f : Option V, σ = [some (.ref cv), some (.int (g : Int)), some (.int x), some (.int y), some (.int (pw : Int)), some (.int (ph : Int)), some (.ref D), some (.int (y + b)), f]) ∧ Grow G H2 H' ∧ H' D = some (.lst (lineV (b * pw + a) (dotI s g x y pw))))
      ⟨⟨_, rfl⟩, g4, D4⟩ ?_ ?_
    · rintro a σ H5 ha ⟨⟨f5, rfl⟩, g5, D5⟩
      have ha2 : a < pw := by omega
      have ho5 := g5.1 _ _ ho rfl
      have hl5 := g5.1 _ _ hl rfl
      have la5 := g5.1 _ _ la1 rfl
      have lb5 := g5.1 _ _ lb rfl
      have bp : b * pw ≤ 8 * 8 := Nat.mul_le_mul (by omega) w8
      have lD : (lineV (b * pw + a) (dotI s g x y pw)).length < sizeLine := by rw [lineV_len]; exact szl (by omega)
      walk_at "go"
      refine ⟨G, l.lm, l.us, l.es, g, x + a, y + b, rfl, g24, lb5, mem8.imp fun _ _ h => MemAt.grow g5 h, lus, ⟨by omega, by omega⟩, ⟨by omega, by omega⟩, fun H6 g6 => ?_⟩
      have D6 := g6.1 _ _ D5 rfl
      walk_at "go"
      have m1 : (b * pw + a) % pw = a := by rw [Nat.mul_comm, Nat.mul_add_mod]; exact Nat.mod_eq_of_lt ha2
      have m2 : (b * pw + a) / pw = b := by rw [Nat.mul_comm, Nat.mul_add_div (by omega), Nat.div_eq_of_lt ha2]; rfl
      have ed : ((Wrvdot.told (Vd.dot (l.es.map Prod.fst).flatten (Vd.colOf g) (x + a) (y + b)) : Nat) : Int) = dotI s g x y pw (b * pw + a) := by
        unfold dotI
        rw [m1, m2, els]
        rfl
      refine ⟨⟨_, rfl⟩, (g5.trans g6).mut hD D6, ?_⟩
      rw [upd_same, ed, lineV_snoc]
      rfl
    · rintro σ H5 ⟨⟨f5, rfl⟩, g5, D5⟩
      refine ⟨⟨_, _, rfl⟩, g5, ?_⟩
      have e : b * pw + (x + (pw : Int) - x).toNat = (b + 1) * pw := by
        rw [Nat.add_mul, Nat.one_mul]
        omega
      rw [e] at D5
      exact D5
  · rintro σ H4 ⟨⟨e4, f4, rfl⟩, g4, D4⟩
    have e : (y + (ph : Int) - y).toNat = ph := by omega
    rw [e, Nat.mul_comm, ← dots_line] at D4
    walk_at "go"
    exact d H4 G c (fun a u e hd => by
      obtain ⟨n, k⟩ := hide_some e
      rw [hide_at n]
      exact g4.1 _ _ k hd) (hc.grow g4) D D4
end
end Pd
end
section
set_option Elab.async false
set_option linter.all false
set_option maxRecDepth 100000
set_option maxHeartbeats 4000000
namespace Pd
open PySem PySem.Spec PyProof.Rows L2
open Wrvdot (State Answer step)
/-! ### what a call of the list is handed, what it leaves -/
/-! ### the numbers given, in the heap -/
structure Given (K : PySem.W.Frag) (X : List Addr) (H : Hp) (cv : Addr) (c : Cv) (g L : Addr) (ns : List Int) (i : Nat) : Prop where
  gx : g ∈ X
  at_ : ArgsAt K H g L ns i
  ls : SqL K (hide (X ++ c.own cv) H) L (ns.map V.int)
theorem SqL.kept {K : PySem.W.Frag} {H H' : Hp} {a : Addr} {xs : List V} (s : Keep H H') (h : SqL K H a xs) : SqL K H' a xs := by
  rcases h with (h | ⟨o, h⟩) | h
  · exact .inl (.inl (s _ _ h rfl))
  · exact .inl (.inr ⟨o, s _ _ h rfl⟩)
  · exact .inr h
/-- more is hidden ahead and behind -/
theorem keep_more {M M' N : List Addr} {H H' : Hp} (k : Keep (hide M H) (hide M' H')) : Keep (hide (N ++ M) H) (hide (N ++ M') H') := fun a o h d => by
  obtain ⟨n, e⟩ := hide_some h
  have n1 : a ∉ N := fun m => n (List.mem_append_left _ m)
  have n2 : a ∉ M := fun m => n (List.mem_append_right _ m)
  obtain ⟨n3, e3⟩ := hide_some (k a o ((hide_at n2).trans e) d)
  rw [hide_at (fun m => (List.mem_append.mp m).elim n1 n3)]
  exact e3
section
variable {K : PySem.W.Frag} {G G' : Gh} {X : List Addr} {H H1 H2 : Hp} {cv g L : Addr} {c c' : Cv} {s s' : State} {ns : List Int} {i j : Nat}
theorem but_hide {M : List Addr} (m : g ∈ M) (b : But g H H1) : Same (hide M H) (hide M H1) := fun a o h => by
  obtain ⟨n, e⟩ := hide_some h
  rw [hide_at n]
  exact b _ _ (fun z => n (by rw [z]; exact m)) e
theorem Given.but (h : Given K X H cv c g L ns i) (b : But g H H1) (a : ArgsAt K H1 g L ns j) : Given K X H1 cv c g L ns j :=
  ⟨h.gx, a, SqL.kept (Keep.of (but_hide (List.mem_append_left _ h.gx) b)) h.ls⟩
theorem CanvasAt.but (h : CanvasAt K G X H cv c s) (v : Given K X H cv c g L ns i) (b : But g H H1) (ag : ArgsAt K H1 g L ns j) : CanvasAt K G X H1 cv c s := by
  have gn := (h.xs g v.gx).1
  refine h.keep (Grow.of (but_hide (List.mem_append_left _ v.gx) b)) (fun a ha => ?_) fun a ha => ?_
  · obtain ⟨o, k, _⟩ := h.owns a ha
    rw [k, b _ _ (fun z => gn (by rw [← z]; exact ha)) k]
  · obtain ⟨n, o, k, t⟩ := h.xs a ha
    by_cases z : a = g
    · obtain ⟨⟨dx, e⟩, _⟩ := ag
      exact ⟨n, _, by rw [z]; exact e, rfl, rfl⟩
    · exact ⟨n, o, b _ _ z k, t⟩
theorem Given.same (h : Given K X H cv c g L ns i) (e : Same H H1) : Given K X H1 cv c g L ns i := ⟨h.gx, h.at_.mono e, SqL.kept (Keep.of (hide_same e)) h.ls⟩
theorem Given.keep (h : Given K X H cv c g L ns i) (hc : CanvasAt K G X H cv c s) (k : Keep (hide (c.own cv) H) (hide (c'.own cv) H1)) : Given K X H1 cv c' g L ns i := by
  have l1 := SqL.kept (keep_more (N := X) k) h.ls
  obtain ⟨⟨dx, e⟩, _⟩ := h.at_
  exact ⟨h.gx, ⟨⟨dx, (hide_some (k _ _ ((hide_at (hc.xs g h.gx).1).trans e) rfl)).2⟩, SqL.kept (Keep.of (hide_sub _ _)) l1⟩, l1⟩
end
/-! ### a call's answer -/
def outsC : Answer → List Int
  | .refused _ => []
  | .number n => [(n : Int)]
  | .row l => (l.length : Int) :: l.map fun (n : Nat) => (n : Int)
def TellC (K : PySem.W.Frag) (Q : VK) (E : XK) (a : Answer) (H : Hp) : Prop := match a with
  | .refused z => E (errC K z) none H
  | a => ∀ p, H p = some (.lst ((outsC a).map V.int)) → Q (.ref p) H
def Goes (K : PySem.W.Frag) (X : List Addr) (cv : Addr) (c : Cv) (g L : Addr) (ns : List Int) (j : Nat) (H : Hp) (r : State × Answer) (Q : VK) (E : XK) : Prop :=
  ∀ H' G' c', Keep (hide (g :: c.own cv) H) (hide (g :: Cv.own c' cv) H') → Given K X H' cv c' g L ns j → CanvasAt K G' X H' cv c' r.1 → TellC K Q E r.2 H'
section
variable {K : PySem.W.Frag} {G : Gh} {X : List Addr} {H H1 : Hp} {cv g L : Addr} {c : Cv} {s : State} {ns : List Int} {i j : Nat} {r : State × Answer} {Q Q' : VK} {E E' : XK}
theorem Goes.does (d : Goes K X cv c g L ns j H r Q E) (hc : CanvasAt K G X H cv c s) (v : Given K X H cv c g L ns i) (b : But g H H1) (a : ArgsAt K H1 g L ns j)
    (q : ∀ H2, (∀ H3, Same H2 H3 → TellC K Q E r.2 H3) → Tell K Q' E' r.2 H2) : Does K X cv c H1 r Q' E' := fun H2 G' c' k hc2 => q H2 fun H3 s3 => by
  have v1 := v.but b a
  have k1 : Keep (hide (g :: c.own cv) H) (hide (g :: c.own cv) H1) := Keep.of (but_hide (List.mem_cons_self) b)
  have k2 : Keep (hide (g :: c.own cv) H1) (hide (g :: Cv.own c' cv) H2) := keep_more (N := [g]) k
  exact d H3 G' c' ((k1.trans k2).trans (Keep.of (hide_same s3))) ((v1.keep (hc.but v b a) k).same s3) (hc2.same s3)
/-- the answer's number alone in a list -/
theorem tell_one {a : Answer} {H2 : Hp} (na : ∀ l, a ≠ .row l) (h : ∀ H3, Same H2 H3 → TellC K Q E a H3) : Tell K (fun v H => [v].length ≤ sizeLine ∧ ∀ p, H p = none → Q (.ref p) (upd H p (.lst [v]))) E a H2 := by
  cases a with
  | refused z => exact h _ (Same.refl _)
  | number n => exact ⟨sz (Nat.le_of_ble_eq_true rfl), fun p hp => h _ (Same.new hp) p upd_same⟩
  | row l => exact absurd rfl (na l)
end
/-- what every function of CALLS keeps -/
def spCall (K : PySem.W.Frag) (p : Int) : Sp := fun vs H Q E => ∃ (G : Gh) (X : List Addr) (cv : Addr) (c : Cv) (s : State) (g L : Addr) (ns : List Int) (i j : Nat) (xs : List Int) (rows : List (List Int)) (x : Wrvdot.Call), vs = [.ref cv, .ref g] ∧ CanvasAt K G X H cv c s ∧ Given K X H cv c g L ns i ∧
  Lies ns i xs rows j ∧ ns.length ≤ 30000 ∧ WrvdotNeutral.asked1 ((p :: xs) :: rows) = true ∧ WrvdotNeutral.callOf ((p :: xs) :: rows) = some x ∧ Goes K X cv c g L ns j H (step s x) Q E
theorem spCall_len {K : PySem.W.Frag} {p : Int} : ∀ vs H Q E, spCall K p vs H Q E → vs.length = 2 := fun _ _ _ _ ⟨_, _, _, _, _, _, _, _, _, _, _, _, _, e, _⟩ => by rw [e]; rfl
/-! ### what may be asked -/
open WrvdotNeutral (asked1 callOf whole32 n_ stops pieces piecesOk)
/-! ### rows of whole numbers as stops, pieces, colours -/
section
variable {H : Hp} {p : Addr} {l : List Int}
theorem nat_back : ∀ {l : List Int}, l.all whole32 = true → l.map V.int = (l.map n_).map fun (n : Nat) => V.int (n : Int)
  | [], _ => rfl
  | z :: r, h => by
    rw [List.all_cons, Bool.and_eq_true] at h
    obtain ⟨n, rfl, _⟩ := w32 h.1
    show V.int (n : Int) :: r.map V.int = V.int ((n_ (n : Int) : Nat) : Int) :: (r.map n_).map fun (n : Nat) => V.int (n : Int)
    rw [nat_back h.2]
    rfl
theorem lst_back (h : l.all whole32 = true) (hp : H p = some (.lst (l.map V.int))) : H p = some (.lst ((l.map n_).map fun (n : Nat) => V.int (n : Int))) := by
  rw [← nat_back h]
  exact hp
theorem nat_lt (h : l.all whole32 = true) : ∀ n ∈ l.map n_, n < 4294967296 := fun n hn => by
  obtain ⟨z, hz, rfl⟩ := List.mem_map.mp hn
  obtain ⟨m, rfl, hm⟩ := w32 (List.all_eq_true.mp h z hz)
  exact hm
theorem ListOf.of_map {α β : Type} {R : Hp → V → β → Prop} {f : α → β} {xs : List α} {ys : List β} (e : xs.map f = ys) (h : ListOf R H p ys) : ListOf (fun H v x => R H v (f x)) H p xs := by
  obtain ⟨vs, a, b, d⟩ := h
  subst e
  refine ⟨vs, a, by rw [b, List.length_map], fun i v x hv hx => d i v (f x) hv ?_⟩
  rw [List.getElem?_map, hx]
  rfl
theorem stops_map : ∀ (l : List Int), l.all whole32 = true → (stops l).map (fun (z : Nat × Nat) => [(z.1 : Int), (z.2 : Int)]) = pairs2 l
  | [], _ => rfl
  | [_], _ => rfl
  | a :: b :: r, h => by
    rw [List.all_cons, List.all_cons, Bool.and_eq_true, Bool.and_eq_true] at h
    obtain ⟨m, rfl, _⟩ := w32 h.1
    obtain ⟨n, rfl, _⟩ := w32 h.2.1
    show [(m : Int), (n : Int)] :: (stops r).map (fun (z : Nat × Nat) => [(z.1 : Int), (z.2 : Int)]) = [(m : Int), (n : Int)] :: pairs2 r
    rw [stops_map r h.2.2]
theorem stops_back (h : l.all whole32 = true) (hp : ListOf TupI H p (pairs2 l)) : ListOf SpAt H p (stops l) := ListOf.of_map (R := TupI) (f := fun (z : Nat × Nat) => [(z.1 : Int), (z.2 : Int)]) (stops_map l h) hp
theorem stops_le : ∀ (l : List Int), (stops l).length ≤ l.length
  | [] => Nat.le_refl _
  | [_] => Nat.zero_le _
  | _ :: _ :: r => by
    have := stops_le r
    show (stops r).length + 1 ≤ r.length + 2
    omega
theorem stops_len (l : List Int) (h : l.length ≤ 30000) : (stops l).length ≤ 30000 := Nat.le_trans (stops_le l) h
theorem stops_lt : ∀ {l : List Int}, l.all whole32 = true → ∀ z ∈ stops l, z.2 < 4294967296
  | [], _, z, hz => by simp [stops] at hz
  | [_], _, z, hz => by simp [stops] at hz
  | a :: b :: r, h, z, hz => by
    rw [List.all_cons, List.all_cons, Bool.and_eq_true, Bool.and_eq_true] at h
    rcases List.mem_cons.mp hz with e | e
    · obtain ⟨n, rfl, hn⟩ := w32 h.2.1
      rw [e]
      exact hn
    · exact stops_lt h.2.2 z e
theorem pieces_map : ∀ (l : List Int), piecesOk l = true → (pieces l).map (fun (p : Wrvdot.Piece) => [if p.begins = true then (1 : Int) else 0, p.at_.1, p.at_.2]) = trips3 l
  | [], _ => rfl
  | [_], _ => rfl
  | [_, _], _ => rfl
  | k :: x :: y :: r, h => by
    simp only [piecesOk, Bool.and_eq_true, decide_eq_true_eq] at h
    obtain ⟨k0, k1, _, _, _, _, hr⟩ := h
    show [if (k == 1) = true then (1 : Int) else 0, x, y] :: (pieces r).map (fun (p : Wrvdot.Piece) => [if p.begins = true then (1 : Int) else 0, p.at_.1, p.at_.2]) = [k, x, y] :: trips3 r
    rw [pieces_map r hr]
    have e : (if (k == 1) = true then (1 : Int) else 0) = k := by
      by_cases z : k = 1
      · rw [z]
        rfl
      · rw [if_neg (by simpa using z)]
        omega
    rw [e]
theorem pieces_back (h : piecesOk l = true) (hp : ListOf TupI H p (trips3 l)) : ListOf PcAt H p (pieces l) := ListOf.of_map (R := TupI) (f := fun (p : Wrvdot.Piece) => [if p.begins = true then (1 : Int) else 0, p.at_.1, p.at_.2]) (pieces_map l h) hp
theorem pieces_le : ∀ (l : List Int), (pieces l).length ≤ l.length
  | [] => Nat.le_refl _
  | [_] => Nat.zero_le _
  | [_, _] => Nat.zero_le _
  | k :: x :: y :: r => by
    have := pieces_le r
    show (pieces r).length + 1 ≤ r.length + 3
    omega
theorem pieces_len (l : List Int) (h : l.length ≤ 30000) : (pieces l).length ≤ 30000 := Nat.le_trans (pieces_le l) h
end
end Pd
end
section
set_option Elab.async false
set_option linter.all false
set_option maxRecDepth 100000
set_option maxHeartbeats 4000000
namespace Pd
open PySem PySem.Spec PyProof.Rows L2
local macro_rules | `(tactic| walk_at "at") => `(tactic| first
  | assumption
  | exact upd_same
  | (refine (show Same _ _ by assumption) _ _ ?_; walk_at "at")
  | (refine (show But _ _ _ by assumption) _ _ (by assumption) ?_; assumption)
  | (refine Same.new (by assumption) _ _ ?_; walk_at "at")
  | (refine (upd_ne (ne_of (by assumption) (by assumption) (by intro z; cases z))).trans ?_; walk_at "at"))
local macro_rules | `(tactic| walk_at "go") => `(tactic| repeat (first
  | refine ⟨_, rfl, ?_⟩
  | refine ⟨_, _, rfl, rfl, ?_⟩
  | refine ⟨_, _, rfl, ?_⟩
  | refine ⟨_, _, _, rfl, ?_⟩
  | refine And.intro rfl ?_
  | refine And.intro (Or.inl ⟨by decide, by decide⟩) ?_
  | refine And.intro (Or.inr ⟨by decide, by decide⟩) ?_
  | refine And.intro ⟨by decide, by decide⟩ ?_
  | refine And.intro (Or.inl ⟨by omega, by omega⟩) ?_
  | refine And.intro (Or.inr ⟨by omega, by omega⟩) ?_
  | refine And.intro ⟨by omega, by omega⟩ ?_
  | refine And.intro trivial ?_
  | refine And.intro (by omega) ?_
  | refine And.intro (sz (Nat.le_of_ble_eq_true rfl)) ?_
  | refine And.intro (Or.inl ⟨rfl, _, SqL.of (by walk_at "at")⟩) ?_
  | refine ⟨_, _, _, _, rfl, rfl, SqT.of (by walk_at "at"), (by rfl), ?_⟩
  | refine ⟨_, _, _, _, rfl, rfl, SqL.of (by walk_at "at"), (by rfl), ?_⟩
  | refine ⟨_, _, _, _, _, rfl, (by walk_at "at"), (by assumption), (by assumption), Lk.h, ?_⟩
  | refine ⟨_, _, _, rfl, rfl, (by walk_at "at"), ?_⟩
  | refine ⟨_, _, _, rfl, (by walk_at "at"), LkN.h, ?_⟩
  | refine ⟨_, _, _, _, rfl, (by walk_at "at"), (by assumption), (by assumption), (by apply few_lt; decide), ?_⟩
  | refine ⟨_, _, (by walk_at "at"), (by apply few_lt; decide), ?_⟩
  | refine ⟨_, _, rfl, Or.inl (SqL.of (by walk_at "at")), ?_⟩))
open Wrvdot (State Answer step)
open WrvdotNeutral (asked1 callOf whole32 n_ stops pieces piecesOk)
section
variable {P : Program} {w : World} {K : PySem.W.Frag} {mg : Str → Option Value} {base : Heap}
theorem sc_call_clear : FnScope ["canvas", "given"] ["canvas", "given"] (defScope s_call_clear) := ⟨rfl, rfl, rfl, by decide +kernel, rfl, by decide +kernel, by decide +kernel⟩
theorem bd_call_clear : BindAll "call_clear" "call_clear" s_call_clear ["canvas", "given"] := fun _ _ _ _ _ _ us hl => match us, hl with | [_, _], _ => rfl
theorem ok_call_clear (T : Txt K mg) : Ok P w K mg base (L2.CX P w) 25 (He.fAd K ("call_clear", none)) ["canvas", "given"] (spCall K 0) := by
  refine mk_okX T.f_call_clear sc_call_clear bd_call_clear spCall_len fun cdv A outer s0 H0 vs Q E hr h => ?_
  obtain ⟨G, X, cv, c, s, g, L, ns, i, j, xs, rows, cl, rfl, hc, gv, li, hn, h1, h2, d⟩ := h
  obtain ⟨rfl, rfl, rfl⟩ := ask0 h1 h2
  have aa0 := gv.at_
  obtain ⟨⟨gd0, hg0⟩, _⟩ := id aa0
  have bb0 : But g H0 H0 := But.refl _ _
  have ej : i + 0 = j := li.len.symm
  have ho := hc.obj
  refine ⟨_, (pss_one (ps_ret (pe_lst (pa_cons (c_meth0 (ok_Canvas_clear_page (K := K) T) hr (by decide) T.c_Canvas T.m_Canvas_clear_page pass0 (pv 0)) pa_nil)))), ?_⟩
  walk_at "go"
  have aE : ArgsAt K H0 g L ns j := ej ▸ aa0
  exact ⟨G, X, cv, c, s, rfl, hc, d.does hc gv bb0 aE fun H9 q => tell_one (noRow s _) q⟩
theorem sc_call_picture : FnScope ["canvas", "given", "width", "height", "colours"] ["canvas", "given"] (defScope s_call_picture) := ⟨rfl, rfl, rfl, by decide +kernel, rfl, by decide +kernel, by decide +kernel⟩
theorem bd_call_picture : BindAll "call_picture" "call_picture" s_call_picture ["canvas", "given"] := fun _ _ _ _ _ _ us hl => match us, hl with | [_, _], _ => rfl
theorem ok_call_picture (T : Txt K mg) : Ok P w K mg base (L2.CX P w) 25 (He.fAd K ("call_picture", none)) ["canvas", "given"] (spCall K 1) := by
  refine mk_okX T.f_call_picture sc_call_picture bd_call_picture spCall_len fun cdv A outer s0 H0 vs Q E hr h => ?_
  obtain ⟨G, X, cv, c, s, g, L, ns, i, j, xs, rows, cl, rfl, hc, gv, li, hn, h1, h2, d⟩ := h
  obtain ⟨ka, kb, l, rfl, rfl, ha, hb, hl, rfl⟩ := ask1 h1 h2
  have aa0 := gv.at_
  obtain ⟨⟨gd0, hg0⟩, _⟩ := id aa0
  have bb0 : But g H0 H0 := But.refl _ _
  have e0 := li.get (k := 0) rfl
  have e1 := li.get (k := 1) rfl
  have e2 := li.get (k := 2) rfl
  have er : (ns.drop (i + 2 + 1)).take l.length = l := li.row.1
  have ej : i + 2 + 1 + l.length = j := li.row.2.1
  have hj := li.le
  have hln : l.length ≤ 30000 := by omega
  refine ⟨_, (pss_cons (ps_set (i := 2) sc_call_picture.nd rfl (Or.inl rfl) (c_meth0 (ok_Arguments_take (K := K) T) hr (by decide) T.c_Arguments T.m_Arguments_take pass0 (pv 1)))
      (pss_cons (ps_set (i := 3) sc_call_picture.nd rfl (Or.inl rfl) (c_meth0 (ok_Arguments_take (K := K) T) hr (by decide) T.c_Arguments T.m_Arguments_take pass0 (pv 1)))
      (pss_cons (ps_set (i := 4) sc_call_picture.nd rfl (Or.inl rfl) (c_meth0 (ok_Arguments_take_list (K := K) T) hr (by decide) T.c_Arguments T.m_Arguments_take_list pass0 (pv 1)))
      (pss_one (ps_ret (pe_lst (pa_cons (c_meth (ok_Canvas_add_picture (K := K) T) hr (by decide) T.c_Canvas T.m_Canvas_add_picture (out_of (takes_of rfl rfl rfl rfl)) (pv 0) (pa_cons (pv 2) (pa_cons (pv 3) (pa_cons (pv 4) pa_nil)))) pa_nil))))))), ?_⟩
  walk_at "go"
  refine ⟨g, L, ns, i + 0, _, rfl, aa0, e0, fun H1 b aa1 => ?_⟩
  have bb1 := bb0.trans b
  clear b
  obtain ⟨⟨gd1, hg1⟩, _⟩ := id aa1
  walk_at "go"
  refine ⟨g, L, ns, i + 1, _, rfl, aa1, e1, fun H2 b aa2 => ?_⟩
  have bb2 := bb1.trans b
  clear b
  obtain ⟨⟨gd2, hg2⟩, _⟩ := id aa2
  walk_at "go"
  refine ⟨g, L, ns, i + 2, l.length, rfl, aa2, e2, by omega, fun H3 p b aa3 fp hp => ?_⟩
  rw [er] at hp
  replace fp : H0 p = none := by
    cases z : H0 p with
    | none => rfl
    | some o =>
      have pg : p ≠ g := fun e => by rw [e, hg2] at fp; cases fp
      rw [bb2 p o pg z] at fp
      cases fp
  have bb3 := bb2.trans b
  clear b
  obtain ⟨⟨gd3, hg3⟩, _⟩ := id aa3
  have hcE := hc.but gv bb3 aa3
  have ho := hcE.obj
  walk_at "go"
  have aE : ArgsAt K H3 g L ns j := ej ▸ aa3
  exact ⟨G, X, cv, c, s, ka, kb, p, l.map n_, rfl, hcE, lst_back hl hp, by rw [List.length_map]; omega, nat_lt hl, ha, hb, d.does hc gv bb3 aE fun H9 q => tell_one (noRow s _) q⟩
theorem sc_call_plain : FnScope ["canvas", "given", "colour"] ["canvas", "given"] (defScope s_call_plain) := ⟨rfl, rfl, rfl, by decide +kernel, rfl, by decide +kernel, by decide +kernel⟩
theorem bd_call_plain : BindAll "call_plain" "call_plain" s_call_plain ["canvas", "given"] := fun _ _ _ _ _ _ us hl => match us, hl with | [_, _], _ => rfl
theorem ok_call_plain (T : Txt K mg) : Ok P w K mg base (L2.CX P w) 25 (He.fAd K ("call_plain", none)) ["canvas", "given"] (spCall K 2) := by
  refine mk_okX T.f_call_plain sc_call_plain bd_call_plain spCall_len fun cdv A outer s0 H0 vs Q E hr h => ?_
  obtain ⟨G, X, cv, c, s, g, L, ns, i, j, xs, rows, cl, rfl, hc, gv, li, hn, h1, h2, d⟩ := h
  obtain ⟨ka, rfl, rfl, ha, rfl⟩ := ask2 h1 h2
  have aa0 := gv.at_
  obtain ⟨⟨gd0, hg0⟩, _⟩ := id aa0
  have bb0 : But g H0 H0 := But.refl _ _
  have e0 := li.get (k := 0) rfl
  have ej : i + 1 = j := li.len.symm
  refine ⟨_, (pss_cons (ps_set (i := 2) sc_call_plain.nd rfl (Or.inl rfl) (c_meth0 (ok_Arguments_take (K := K) T) hr (by decide) T.c_Arguments T.m_Arguments_take pass0 (pv 1)))
      (pss_one (ps_ret (pe_lst (pa_cons (c_meth (ok_Canvas_add_plain (K := K) T) hr (by decide) T.c_Canvas T.m_Canvas_add_plain (out_of (takes_of rfl rfl rfl rfl)) (pv 0) (pa_cons (pv 2) pa_nil)) pa_nil))))), ?_⟩
  walk_at "go"
  refine ⟨g, L, ns, i + 0, _, rfl, aa0, e0, fun H1 b aa1 => ?_⟩
  have bb1 := bb0.trans b
  clear b
  obtain ⟨⟨gd1, hg1⟩, _⟩ := id aa1
  have hcE := hc.but gv bb1 aa1
  have ho := hcE.obj
  walk_at "go"
  have aE : ArgsAt K H1 g L ns j := ej ▸ aa1
  exact ⟨G, X, cv, c, s, ka, rfl, hcE, ha, d.does hc gv bb1 aE fun H9 q => tell_one (noRow s _) q⟩
theorem sc_call_linear : FnScope ["canvas", "given", "a", "b", "how", "stops"] ["canvas", "given"] (defScope s_call_linear) := ⟨rfl, rfl, rfl, by decide +kernel, rfl, by decide +kernel, by decide +kernel⟩
theorem bd_call_linear : BindAll "call_linear" "call_linear" s_call_linear ["canvas", "given"] := fun _ _ _ _ _ _ us hl => match us, hl with | [_, _], _ => rfl
theorem ok_call_linear (T : Txt K mg) : Ok P w K mg base (L2.CX P w) 25 (He.fAd K ("call_linear", none)) ["canvas", "given"] (spCall K 3) := by
  refine mk_okX T.f_call_linear sc_call_linear bd_call_linear spCall_len fun cdv A outer s0 H0 vs Q E hr h => ?_
  obtain ⟨G, X, cv, c, s, g, L, ns, i, j, xs, rows, cl, rfl, hc, gv, li, hn, h1, h2, d⟩ := h
  obtain ⟨a1, a2, b1, b2, k, l, rfl, rfl, hl, rfl⟩ := ask3 h1 h2
  have aa0 := gv.at_
  obtain ⟨⟨gd0, hg0⟩, _⟩ := id aa0
  have bb0 : But g H0 H0 := But.refl _ _
  have e0 := li.get (k := 0) rfl
  have e1 := li.get (k := 1) rfl
  have e2 := li.get (k := 2) rfl
  have e3 := li.get (k := 3) rfl
  have e4 := li.get (k := 4) rfl
  have e5 := li.get (k := 5) rfl
  have er : (ns.drop (i + 5 + 1)).take l.length = l := li.row.1
  have ej : i + 5 + 1 + l.length = j := li.row.2.1
  have hj := li.le
  have hln : l.length ≤ 30000 := by omega
  refine ⟨_, (pss_cons (ps_set (i := 2) sc_call_linear.nd rfl (Or.inl rfl) (c_meth0 (ok_Arguments_take_place (K := K) T) hr (by decide) T.c_Arguments T.m_Arguments_take_place pass0 (pv 1)))
      (pss_cons (ps_set (i := 3) sc_call_linear.nd rfl (Or.inl rfl) (c_meth0 (ok_Arguments_take_place (K := K) T) hr (by decide) T.c_Arguments T.m_Arguments_take_place pass0 (pv 1)))
      (pss_cons (ps_set (i := 4) sc_call_linear.nd rfl (Or.inl rfl) (c_meth0 (ok_Arguments_take (K := K) T) hr (by decide) T.c_Arguments T.m_Arguments_take pass0 (pv 1)))
      (pss_cons (ps_set (i := 5) sc_call_linear.nd rfl (Or.inl rfl) (c_meth0 (ok_Arguments_take_stops (K := K) T) hr (by decide) T.c_Arguments T.m_Arguments_take_stops pass0 (pv 1)))
      (pss_one (ps_ret (pe_lst (pa_cons (c_meth (ok_Canvas_add_linear (K := K) T) hr (by decide) T.c_Canvas T.m_Canvas_add_linear (out_of (takes_of rfl rfl rfl rfl)) (pv 0) (pa_cons (pv 2) (pa_cons (pv 3) (pa_cons (pv 4) (pa_cons (pv 5) pa_nil))))) pa_nil)))))))), ?_⟩
  walk_at "go"
  refine ⟨g, L, ns, i + 0, _, _, rfl, aa0, e0, e1, fun H1 v0 b aa1 t0 => ?_⟩
  have bb1 := bb0.trans b
  clear b
  obtain ⟨⟨gd1, hg1⟩, _⟩ := id aa1
  walk_at "go"
  refine ⟨g, L, ns, i + 2, _, _, rfl, aa1, e2, e3, fun H2 v1 b aa2 t1 => ?_⟩
  have bb2 := bb1.trans b
  replace t0 := t0.but b (fun ys e => by rw [hg1] at e; cases e)
  clear b
  obtain ⟨⟨gd2, hg2⟩, _⟩ := id aa2
  walk_at "go"
  refine ⟨g, L, ns, i + 4, _, rfl, aa2, e4, fun H3 b aa3 => ?_⟩
  have bb3 := bb2.trans b
  replace t0 := t0.but b (fun ys e => by rw [hg2] at e; cases e)
  replace t1 := t1.but b (fun ys e => by rw [hg2] at e; cases e)
  clear b
  obtain ⟨⟨gd3, hg3⟩, _⟩ := id aa3
  walk_at "go"
  refine ⟨g, L, ns, i + 5, l.length, rfl, aa3, e5, by omega, hn, fun H4 p b aa4 hp => ?_⟩
  rw [er] at hp
  have bb4 := bb3.trans b
  replace t0 := t0.but b (fun ys e => by rw [hg3] at e; cases e)
  replace t1 := t1.but b (fun ys e => by rw [hg3] at e; cases e)
  clear b
  obtain ⟨⟨gd4, hg4⟩, _⟩ := id aa4
  have hcE := hc.but gv bb4 aa4
  have ho := hcE.obj
  walk_at "go"
  have aE : ArgsAt K H4 g L ns j := ej ▸ aa4
  exact ⟨G, X, cv, c, s, v0, v1, (a1, a2), (b1, b2), k, p, stops l, rfl, hcE, t0, t1, stops_back hl hp, stops_len l hln, stops_lt hl, d.does hc gv bb4 aE fun H9 q => tell_one (noRow s _) q⟩
theorem sc_call_radial : FnScope ["canvas", "given", "m", "radius", "how", "stops"] ["canvas", "given"] (defScope s_call_radial) := ⟨rfl, rfl, rfl, by decide +kernel, rfl, by decide +kernel, by decide +kernel⟩
theorem bd_call_radial : BindAll "call_radial" "call_radial" s_call_radial ["canvas", "given"] := fun _ _ _ _ _ _ us hl => match us, hl with | [_, _], _ => rfl
theorem ok_call_radial (T : Txt K mg) : Ok P w K mg base (L2.CX P w) 25 (He.fAd K ("call_radial", none)) ["canvas", "given"] (spCall K 4) := by
  refine mk_okX T.f_call_radial sc_call_radial bd_call_radial spCall_len fun cdv A outer s0 H0 vs Q E hr h => ?_
  obtain ⟨G, X, cv, c, s, g, L, ns, i, j, xs, rows, cl, rfl, hc, gv, li, hn, h1, h2, d⟩ := h
  obtain ⟨a1, a2, r, k, l, rfl, rfl, hl, rfl⟩ := ask4 h1 h2
  have aa0 := gv.at_
  obtain ⟨⟨gd0, hg0⟩, _⟩ := id aa0
  have bb0 : But g H0 H0 := But.refl _ _
  have e0 := li.get (k := 0) rfl
  have e1 := li.get (k := 1) rfl
  have e2 := li.get (k := 2) rfl
  have e3 := li.get (k := 3) rfl
  have e4 := li.get (k := 4) rfl
  have er : (ns.drop (i + 4 + 1)).take l.length = l := li.row.1
  have ej : i + 4 + 1 + l.length = j := li.row.2.1
  have hj := li.le
  have hln : l.length ≤ 30000 := by omega
  refine ⟨_, (pss_cons (ps_set (i := 2) sc_call_radial.nd rfl (Or.inl rfl) (c_meth0 (ok_Arguments_take_place (K := K) T) hr (by decide) T.c_Arguments T.m_Arguments_take_place pass0 (pv 1)))
      (pss_cons (ps_set (i := 3) sc_call_radial.nd rfl (Or.inl rfl) (c_meth0 (ok_Arguments_take (K := K) T) hr (by decide) T.c_Arguments T.m_Arguments_take pass0 (pv 1)))
      (pss_cons (ps_set (i := 4) sc_call_radial.nd rfl (Or.inl rfl) (c_meth0 (ok_Arguments_take (K := K) T) hr (by decide) T.c_Arguments T.m_Arguments_take pass0 (pv 1)))
      (pss_cons (ps_set (i := 5) sc_call_radial.nd rfl (Or.inl rfl) (c_meth0 (ok_Arguments_take_stops (K := K) T) hr (by decide) T.c_Arguments T.m_Arguments_take_stops pass0 (pv 1)))
      (pss_one (ps_ret (pe_lst (pa_cons (c_meth (ok_Canvas_add_radial (K := K) T) hr (by decide) T.c_Canvas T.m_Canvas_add_radial (out_of (takes_of rfl rfl rfl rfl)) (pv 0) (pa_cons (pv 2) (pa_cons (pv 3) (pa_cons (pv 4) (pa_cons (pv 5) pa_nil))))) pa_nil)))))))), ?_⟩
  walk_at "go"
  refine ⟨g, L, ns, i + 0, _, _, rfl, aa0, e0, e1, fun H1 v0 b aa1 t0 => ?_⟩
  have bb1 := bb0.trans b
  clear b
  obtain ⟨⟨gd1, hg1⟩, _⟩ := id aa1
  walk_at "go"
  refine ⟨g, L, ns, i + 2, _, rfl, aa1, e2, fun H2 b aa2 => ?_⟩
  have bb2 := bb1.trans b
  replace t0 := t0.but b (fun ys e => by rw [hg1] at e; cases e)
  clear b
  obtain ⟨⟨gd2, hg2⟩, _⟩ := id aa2
  walk_at "go"
  refine ⟨g, L, ns, i + 3, _, rfl, aa2, e3, fun H3 b aa3 => ?_⟩
  have bb3 := bb2.trans b
  replace t0 := t0.but b (fun ys e => by rw [hg2] at e; cases e)
  clear b
  obtain ⟨⟨gd3, hg3⟩, _⟩ := id aa3
  walk_at "go"
  refine ⟨g, L, ns, i + 4, l.length, rfl, aa3, e4, by omega, hn, fun H4 p b aa4 hp => ?_⟩
  rw [er] at hp
  have bb4 := bb3.trans b
  replace t0 := t0.but b (fun ys e => by rw [hg3] at e; cases e)
  clear b
  obtain ⟨⟨gd4, hg4⟩, _⟩ := id aa4
  have hcE := hc.but gv bb4 aa4
  have ho := hcE.obj
  walk_at "go"
  have aE : ArgsAt K H4 g L ns j := ej ▸ aa4
  exact ⟨G, X, cv, c, s, v0, (a1, a2), r, k, p, stops l, rfl, hcE, t0, stops_back hl hp, stops_len l hln, stops_lt hl, d.does hc gv bb4 aE fun H9 q => tell_one (noRow s _) q⟩
theorem sc_call_pictured : FnScope ["canvas", "given", "picture", "how", "smooth", "six"] ["canvas", "given"] (defScope s_call_pictured) := ⟨rfl, rfl, rfl, by decide +kernel, rfl, by decide +kernel, by decide +kernel⟩
theorem bd_call_pictured : BindAll "call_pictured" "call_pictured" s_call_pictured ["canvas", "given"] := fun _ _ _ _ _ _ us hl => match us, hl with | [_, _], _ => rfl
theorem ok_call_pictured (T : Txt K mg) : Ok P w K mg base (L2.CX P w) 25 (He.fAd K ("call_pictured", none)) ["canvas", "given"] (spCall K 5) := by
  refine mk_okX T.f_call_pictured sc_call_pictured bd_call_pictured spCall_len fun cdv A outer s0 H0 vs Q E hr h => ?_
  obtain ⟨G, X, cv, c, s, g, L, ns, i, j, xs, rows, cl, rfl, hc, gv, li, hn, h1, h2, d⟩ := h
  obtain ⟨ka, kb, kc, l, rfl, rfl, rfl⟩ := ask5 h1 h2
  have aa0 := gv.at_
  obtain ⟨⟨gd0, hg0⟩, _⟩ := id aa0
  have bb0 : But g H0 H0 := But.refl _ _
  have e0 := li.get (k := 0) rfl
  have e1 := li.get (k := 1) rfl
  have e2 := li.get (k := 2) rfl
  have e3 := li.get (k := 3) rfl
  have er : (ns.drop (i + 3 + 1)).take l.length = l := li.row.1
  have ej : i + 3 + 1 + l.length = j := li.row.2.1
  have hj := li.le
  have hln : l.length ≤ 30000 := by omega
  refine ⟨_, (pss_cons (ps_set (i := 2) sc_call_pictured.nd rfl (Or.inl rfl) (c_meth0 (ok_Arguments_take (K := K) T) hr (by decide) T.c_Arguments T.m_Arguments_take pass0 (pv 1)))
      (pss_cons (ps_set (i := 3) sc_call_pictured.nd rfl (Or.inl rfl) (c_meth0 (ok_Arguments_take (K := K) T) hr (by decide) T.c_Arguments T.m_Arguments_take pass0 (pv 1)))
      (pss_cons (ps_set (i := 4) sc_call_pictured.nd rfl (Or.inl rfl) (c_meth0 (ok_Arguments_take (K := K) T) hr (by decide) T.c_Arguments T.m_Arguments_take pass0 (pv 1)))
      (pss_cons (ps_set (i := 5) sc_call_pictured.nd rfl (Or.inl rfl) (c_meth0 (ok_Arguments_take_list (K := K) T) hr (by decide) T.c_Arguments T.m_Arguments_take_list pass0 (pv 1)))
      (pss_one (ps_ret (pe_lst (pa_cons (c_meth (ok_Canvas_add_pictured (K := K) T) hr (by decide) T.c_Canvas T.m_Canvas_add_pictured (out_of (takes_of rfl rfl rfl rfl)) (pv 0) (pa_cons (pv 2) (pa_cons (pv 3) (pa_cons (pv 4) (pa_cons (pv 5) pa_nil))))) pa_nil)))))))), ?_⟩
  walk_at "go"
  refine ⟨g, L, ns, i + 0, _, rfl, aa0, e0, fun H1 b aa1 => ?_⟩
  have bb1 := bb0.trans b
  clear b
  obtain ⟨⟨gd1, hg1⟩, _⟩ := id aa1
  walk_at "go"
  refine ⟨g, L, ns, i + 1, _, rfl, aa1, e1, fun H2 b aa2 => ?_⟩
  have bb2 := bb1.trans b
  clear b
  obtain ⟨⟨gd2, hg2⟩, _⟩ := id aa2
  walk_at "go"
  refine ⟨g, L, ns, i + 2, _, rfl, aa2, e2, fun H3 b aa3 => ?_⟩
  have bb3 := bb2.trans b
  clear b
  obtain ⟨⟨gd3, hg3⟩, _⟩ := id aa3
  walk_at "go"
  refine ⟨g, L, ns, i + 3, l.length, rfl, aa3, e3, by omega, fun H4 p b aa4 fp hp => ?_⟩
  rw [er] at hp
  replace fp : H0 p = none := by
    cases z : H0 p with
    | none => rfl
    | some o =>
      have pg : p ≠ g := fun e => by rw [e, hg3] at fp; cases fp
      rw [bb3 p o pg z] at fp
      cases fp
  have bb4 := bb3.trans b
  clear b
  obtain ⟨⟨gd4, hg4⟩, _⟩ := id aa4
  have hcE := hc.but gv bb4 aa4
  have ho := hcE.obj
  walk_at "go"
  have aE : ArgsAt K H4 g L ns j := ej ▸ aa4
  exact ⟨G, X, cv, c, s, ka, kb, kc, p, l, rfl, hcE, hp, hc.fresh fp, hln, d.does hc gv bb4 aE fun H9 q => tell_one (noRow s _) q⟩
theorem sc_call_clip : FnScope ["canvas", "given", "rule", "path"] ["canvas", "given"] (defScope s_call_clip) := ⟨rfl, rfl, rfl, by decide +kernel, rfl, by decide +kernel, by decide +kernel⟩
theorem bd_call_clip : BindAll "call_clip" "call_clip" s_call_clip ["canvas", "given"] := fun _ _ _ _ _ _ us hl => match us, hl with | [_, _], _ => rfl
theorem ok_call_clip (T : Txt K mg) : Ok P w K mg base (L2.CX P w) 25 (He.fAd K ("call_clip", none)) ["canvas", "given"] (spCall K 6) := by
  refine mk_okX T.f_call_clip sc_call_clip bd_call_clip spCall_len fun cdv A outer s0 H0 vs Q E hr h => ?_
  obtain ⟨G, X, cv, c, s, g, L, ns, i, j, xs, rows, cl, rfl, hc, gv, li, hn, h1, h2, d⟩ := h
  obtain ⟨ka, l, rfl, rfl, hl, rfl⟩ := ask6 h1 h2
  have aa0 := gv.at_
  obtain ⟨⟨gd0, hg0⟩, _⟩ := id aa0
  have bb0 : But g H0 H0 := But.refl _ _
  have e0 := li.get (k := 0) rfl
  have e1 := li.get (k := 1) rfl
  have er : (ns.drop (i + 1 + 1)).take l.length = l := li.row.1
  have ej : i + 1 + 1 + l.length = j := li.row.2.1
  have hj := li.le
  have hln : l.length ≤ 30000 := by omega
  refine ⟨_, (pss_cons (ps_set (i := 2) sc_call_clip.nd rfl (Or.inl rfl) (c_meth0 (ok_Arguments_take (K := K) T) hr (by decide) T.c_Arguments T.m_Arguments_take pass0 (pv 1)))
      (pss_cons (ps_set (i := 3) sc_call_clip.nd rfl (Or.inl rfl) (c_meth0 (ok_Arguments_take_path (K := K) T) hr (by decide) T.c_Arguments T.m_Arguments_take_path pass0 (pv 1)))
      (pss_one (ps_ret (pe_lst (pa_cons (c_meth (ok_Canvas_begin_clip (K := K) T) hr (by decide) T.c_Canvas T.m_Canvas_begin_clip (out_of (takes_of rfl rfl rfl rfl)) (pv 0) (pa_cons (pv 2) (pa_cons (pv 3) pa_nil))) pa_nil)))))), ?_⟩
  walk_at "go"
  refine ⟨g, L, ns, i + 0, _, rfl, aa0, e0, fun H1 b aa1 => ?_⟩
  have bb1 := bb0.trans b
  clear b
  obtain ⟨⟨gd1, hg1⟩, _⟩ := id aa1
  walk_at "go"
  refine ⟨g, L, ns, i + 1, l.length, rfl, aa1, e1, by omega, hn, fun H2 p b aa2 fp hp => ?_⟩
  rw [er] at hp
  replace fp : H0 p = none := by
    cases z : H0 p with
    | none => rfl
    | some o =>
      have pg : p ≠ g := fun e => by rw [e, hg1] at fp; cases fp
      rw [bb1 p o pg z] at fp
      cases fp
  have bb2 := bb1.trans b
  clear b
  obtain ⟨⟨gd2, hg2⟩, _⟩ := id aa2
  have hcE := hc.but gv bb2 aa2
  have ho := hcE.obj
  walk_at "go"
  have aE : ArgsAt K H2 g L ns j := ej ▸ aa2
  exact ⟨G, X, cv, c, s, ka, p, pieces l, rfl, hcE, pieces_back hl hp, pieces_len l hln, d.does hc gv bb2 aE fun H9 q => tell_one (noRow s _) q⟩
theorem sc_call_unclip : FnScope ["canvas", "given"] ["canvas", "given"] (defScope s_call_unclip) := ⟨rfl, rfl, rfl, by decide +kernel, rfl, by decide +kernel, by decide +kernel⟩
theorem bd_call_unclip : BindAll "call_unclip" "call_unclip" s_call_unclip ["canvas", "given"] := fun _ _ _ _ _ _ us hl => match us, hl with | [_, _], _ => rfl
theorem ok_call_unclip (T : Txt K mg) : Ok P w K mg base (L2.CX P w) 25 (He.fAd K ("call_unclip", none)) ["canvas", "given"] (spCall K 7) := by
  refine mk_okX T.f_call_unclip sc_call_unclip bd_call_unclip spCall_len fun cdv A outer s0 H0 vs Q E hr h => ?_
  obtain ⟨G, X, cv, c, s, g, L, ns, i, j, xs, rows, cl, rfl, hc, gv, li, hn, h1, h2, d⟩ := h
  obtain ⟨rfl, rfl, rfl⟩ := ask7 h1 h2
  have aa0 := gv.at_
  obtain ⟨⟨gd0, hg0⟩, _⟩ := id aa0
  have bb0 : But g H0 H0 := But.refl _ _
  have ej : i + 0 = j := li.len.symm
  have ho := hc.obj
  refine ⟨_, (pss_one (ps_ret (pe_lst (pa_cons (c_meth0 (ok_Canvas_end_clip (K := K) T) hr (by decide) T.c_Canvas T.m_Canvas_end_clip (out_of (takes_of rfl rfl rfl rfl)) (pv 0)) pa_nil)))), ?_⟩
  walk_at "go"
  have aE : ArgsAt K H0 g L ns j := ej ▸ aa0
  exact ⟨G, X, cv, c, s, rfl, hc, d.does hc gv bb0 aE fun H9 q => tell_one (noRow s _) q⟩
theorem sc_call_group : FnScope ["canvas", "given", "opacity", "how"] ["canvas", "given"] (defScope s_call_group) := ⟨rfl, rfl, rfl, by decide +kernel, rfl, by decide +kernel, by decide +kernel⟩
theorem bd_call_group : BindAll "call_group" "call_group" s_call_group ["canvas", "given"] := fun _ _ _ _ _ _ us hl => match us, hl with | [_, _], _ => rfl
theorem ok_call_group (T : Txt K mg) : Ok P w K mg base (L2.CX P w) 25 (He.fAd K ("call_group", none)) ["canvas", "given"] (spCall K 8) := by
  refine mk_okX T.f_call_group sc_call_group bd_call_group spCall_len fun cdv A outer s0 H0 vs Q E hr h => ?_
  obtain ⟨G, X, cv, c, s, g, L, ns, i, j, xs, rows, cl, rfl, hc, gv, li, hn, h1, h2, d⟩ := h
  obtain ⟨ka, kb, rfl, rfl, rfl⟩ := ask8 h1 h2
  have aa0 := gv.at_
  obtain ⟨⟨gd0, hg0⟩, _⟩ := id aa0
  have bb0 : But g H0 H0 := But.refl _ _
  have e0 := li.get (k := 0) rfl
  have e1 := li.get (k := 1) rfl
  have ej : i + 2 = j := li.len.symm
  refine ⟨_, (pss_cons (ps_set (i := 2) sc_call_group.nd rfl (Or.inl rfl) (c_meth0 (ok_Arguments_take (K := K) T) hr (by decide) T.c_Arguments T.m_Arguments_take pass0 (pv 1)))
      (pss_cons (ps_set (i := 3) sc_call_group.nd rfl (Or.inl rfl) (c_meth0 (ok_Arguments_take (K := K) T) hr (by decide) T.c_Arguments T.m_Arguments_take pass0 (pv 1)))
      (pss_one (ps_ret (pe_lst (pa_cons (c_meth (ok_Canvas_begin_group (K := K) T) hr (by decide) T.c_Canvas T.m_Canvas_begin_group (out_of (takes_of rfl rfl rfl rfl)) (pv 0) (pa_cons (pv 2) (pa_cons (pv 3) pa_nil))) pa_nil)))))), ?_⟩
  walk_at "go"
  refine ⟨g, L, ns, i + 0, _, rfl, aa0, e0, fun H1 b aa1 => ?_⟩
  have bb1 := bb0.trans b
  clear b
  obtain ⟨⟨gd1, hg1⟩, _⟩ := id aa1
  walk_at "go"
  refine ⟨g, L, ns, i + 1, _, rfl, aa1, e1, fun H2 b aa2 => ?_⟩
  have bb2 := bb1.trans b
  clear b
  obtain ⟨⟨gd2, hg2⟩, _⟩ := id aa2
  have hcE := hc.but gv bb2 aa2
  have ho := hcE.obj
  walk_at "go"
  have aE : ArgsAt K H2 g L ns j := ej ▸ aa2
  exact ⟨G, X, cv, c, s, ka, kb, rfl, hcE, d.does hc gv bb2 aE fun H9 q => tell_one (noRow s _) q⟩
theorem sc_call_end : FnScope ["canvas", "given"] ["canvas", "given"] (defScope s_call_end) := ⟨rfl, rfl, rfl, by decide +kernel, rfl, by decide +kernel, by decide +kernel⟩
theorem bd_call_end : BindAll "call_end" "call_end" s_call_end ["canvas", "given"] := fun _ _ _ _ _ _ us hl => match us, hl with | [_, _], _ => rfl
theorem ok_call_end (T : Txt K mg) : Ok P w K mg base (L2.CX P w) 25 (He.fAd K ("call_end", none)) ["canvas", "given"] (spCall K 9) := by
  refine mk_okX T.f_call_end sc_call_end bd_call_end spCall_len fun cdv A outer s0 H0 vs Q E hr h => ?_
  obtain ⟨G, X, cv, c, s, g, L, ns, i, j, xs, rows, cl, rfl, hc, gv, li, hn, h1, h2, d⟩ := h
  obtain ⟨rfl, rfl, rfl⟩ := ask9 h1 h2
  have aa0 := gv.at_
  obtain ⟨⟨gd0, hg0⟩, _⟩ := id aa0
  have bb0 : But g H0 H0 := But.refl _ _
  have ej : i + 0 = j := li.len.symm
  have ho := hc.obj
  refine ⟨_, (pss_one (ps_ret (pe_lst (pa_cons (c_meth0 (ok_Canvas_end_group (K := K) T) hr (by decide) T.c_Canvas T.m_Canvas_end_group (out_of (takes_of rfl rfl rfl rfl)) (pv 0)) pa_nil)))), ?_⟩
  walk_at "go"
  have aE : ArgsAt K H0 g L ns j := ej ▸ aa0
  exact ⟨G, X, cv, c, s, rfl, hc, d.does hc gv bb0 aE fun H9 q => tell_one (noRow s _) q⟩
theorem sc_call_mark : FnScope ["canvas", "given", "paint", "how", "rule", "path"] ["canvas", "given"] (defScope s_call_mark) := ⟨rfl, rfl, rfl, by decide +kernel, rfl, by decide +kernel, by decide +kernel⟩
theorem bd_call_mark : BindAll "call_mark" "call_mark" s_call_mark ["canvas", "given"] := fun _ _ _ _ _ _ us hl => match us, hl with | [_, _], _ => rfl
theorem ok_call_mark (T : Txt K mg) : Ok P w K mg base (L2.CX P w) 25 (He.fAd K ("call_mark", none)) ["canvas", "given"] (spCall K 10) := by
  refine mk_okX T.f_call_mark sc_call_mark bd_call_mark spCall_len fun cdv A outer s0 H0 vs Q E hr h => ?_
  obtain ⟨G, X, cv, c, s, g, L, ns, i, j, xs, rows, cl, rfl, hc, gv, li, hn, h1, h2, d⟩ := h
  obtain ⟨ka, kb, kc, l, rfl, rfl, hl, rfl⟩ := ask10 h1 h2
  have aa0 := gv.at_
  obtain ⟨⟨gd0, hg0⟩, _⟩ := id aa0
  have bb0 : But g H0 H0 := But.refl _ _
  have e0 := li.get (k := 0) rfl
  have e1 := li.get (k := 1) rfl
  have e2 := li.get (k := 2) rfl
  have e3 := li.get (k := 3) rfl
  have er : (ns.drop (i + 3 + 1)).take l.length = l := li.row.1
  have ej : i + 3 + 1 + l.length = j := li.row.2.1
  have hj := li.le
  have hln : l.length ≤ 30000 := by omega
  refine ⟨_, (pss_cons (ps_set (i := 2) sc_call_mark.nd rfl (Or.inl rfl) (c_meth0 (ok_Arguments_take (K := K) T) hr (by decide) T.c_Arguments T.m_Arguments_take pass0 (pv 1)))
      (pss_cons (ps_set (i := 3) sc_call_mark.nd rfl (Or.inl rfl) (c_meth0 (ok_Arguments_take (K := K) T) hr (by decide) T.c_Arguments T.m_Arguments_take pass0 (pv 1)))
      (pss_cons (ps_set (i := 4) sc_call_mark.nd rfl (Or.inl rfl) (c_meth0 (ok_Arguments_take (K := K) T) hr (by decide) T.c_Arguments T.m_Arguments_take pass0 (pv 1)))
      (pss_cons (ps_set (i := 5) sc_call_mark.nd rfl (Or.inl rfl) (c_meth0 (ok_Arguments_take_path (K := K) T) hr (by decide) T.c_Arguments T.m_Arguments_take_path pass0 (pv 1)))
      (pss_one (ps_ret (pe_lst (pa_cons (c_meth (ok_Canvas_add_mark (K := K) T) hr (by decide) T.c_Canvas T.m_Canvas_add_mark (out_of (takes_of rfl rfl rfl rfl)) (pv 0) (pa_cons (pv 2) (pa_cons (pv 3) (pa_cons (pv 4) (pa_cons (pv 5) pa_nil))))) pa_nil)))))))), ?_⟩
  walk_at "go"
  refine ⟨g, L, ns, i + 0, _, rfl, aa0, e0, fun H1 b aa1 => ?_⟩
  have bb1 := bb0.trans b
  clear b
  obtain ⟨⟨gd1, hg1⟩, _⟩ := id aa1
  walk_at "go"
  refine ⟨g, L, ns, i + 1, _, rfl, aa1, e1, fun H2 b aa2 => ?_⟩
  have bb2 := bb1.trans b
  clear b
  obtain ⟨⟨gd2, hg2⟩, _⟩ := id aa2
  walk_at "go"
  refine ⟨g, L, ns, i + 2, _, rfl, aa2, e2, fun H3 b aa3 => ?_⟩
  have bb3 := bb2.trans b
  clear b
  obtain ⟨⟨gd3, hg3⟩, _⟩ := id aa3
  walk_at "go"
  refine ⟨g, L, ns, i + 3, l.length, rfl, aa3, e3, by omega, hn, fun H4 p b aa4 fp hp => ?_⟩
  rw [er] at hp
  replace fp : H0 p = none := by
    cases z : H0 p with
    | none => rfl
    | some o =>
      have pg : p ≠ g := fun e => by rw [e, hg3] at fp; cases fp
      rw [bb3 p o pg z] at fp
      cases fp
  have bb4 := bb3.trans b
  clear b
  obtain ⟨⟨gd4, hg4⟩, _⟩ := id aa4
  have hcE := hc.but gv bb4 aa4
  have ho := hcE.obj
  walk_at "go"
  have aE : ArgsAt K H4 g L ns j := ej ▸ aa4
  exact ⟨G, X, cv, c, s, ka, kb, kc, p, pieces l, rfl, hcE, pieces_back hl hp, hc.fresh fp, pieces_len l hln, d.does hc gv bb4 aE fun H9 q => tell_one (noRow s _) q⟩
theorem sc_call_dots : FnScope ["canvas", "given", "ground", "x", "y", "width", "height", "drawn"] ["canvas", "given"] (defScope s_call_dots) := ⟨rfl, rfl, rfl, by decide +kernel, rfl, by decide +kernel, by decide +kernel⟩
theorem bd_call_dots : BindAll "call_dots" "call_dots" s_call_dots ["canvas", "given"] := fun _ _ _ _ _ _ us hl => match us, hl with | [_, _], _ => rfl
theorem ok_call_dots (T : Txt K mg) : Ok P w K mg base (L2.CX P w) 25 (He.fAd K ("call_dots", none)) ["canvas", "given"] (spCall K 11) := by
  refine mk_okX T.f_call_dots sc_call_dots bd_call_dots spCall_len fun cdv A outer s0 H0 vs Q E hr h => ?_
  obtain ⟨G, X, cv, c, s, g, L, ns, i, j, xs, rows, cl, rfl, hc, gv, li, hn, h1, h2, d⟩ := h
  obtain ⟨gr, x, y, pw, ph, rfl, rfl, rfl⟩ := ask11 h1 h2
  have aa0 := gv.at_
  obtain ⟨⟨gd0, hg0⟩, _⟩ := id aa0
  have bb0 : But g H0 H0 := But.refl _ _
  have e0 := li.get (k := 0) rfl
  have e1 := li.get (k := 1) rfl
  have e2 := li.get (k := 2) rfl
  have e3 := li.get (k := 3) rfl
  have e4 := li.get (k := 4) rfl
  have ej : i + 5 = j := li.len.symm
  refine ⟨_, (pss_cons (ps_set (i := 2) sc_call_dots.nd rfl (Or.inl rfl) (c_meth0 (ok_Arguments_take (K := K) T) hr (by decide) T.c_Arguments T.m_Arguments_take pass0 (pv 1)))
      (pss_cons (ps_set (i := 3) sc_call_dots.nd rfl (Or.inl rfl) (c_meth0 (ok_Arguments_take (K := K) T) hr (by decide) T.c_Arguments T.m_Arguments_take pass0 (pv 1)))
      (pss_cons (ps_set (i := 4) sc_call_dots.nd rfl (Or.inl rfl) (c_meth0 (ok_Arguments_take (K := K) T) hr (by decide) T.c_Arguments T.m_Arguments_take pass0 (pv 1)))
      (pss_cons (ps_set (i := 5) sc_call_dots.nd rfl (Or.inl rfl) (c_meth0 (ok_Arguments_take (K := K) T) hr (by decide) T.c_Arguments T.m_Arguments_take pass0 (pv 1)))
      (pss_cons (ps_set (i := 6) sc_call_dots.nd rfl (Or.inl rfl) (c_meth0 (ok_Arguments_take (K := K) T) hr (by decide) T.c_Arguments T.m_Arguments_take pass0 (pv 1)))
      (pss_cons (ps_set (i := 7) sc_call_dots.nd rfl (Or.inl rfl) (c_meth (ok_Canvas_draw_dots (K := K) T) hr (by decide) T.c_Canvas T.m_Canvas_draw_dots (out_of (takes_of rfl rfl rfl rfl)) (pv 0) (pa_cons (pv 2) (pa_cons (pv 3) (pa_cons (pv 4) (pa_cons (pv 5) (pa_cons (pv 6) pa_nil)))))))
      (pss_one (ps_ret (pe_op op_cat (pe_lst (pa_cons (pe_callB (kx_len (K := K) rfl) (by rfl) T.z_len PySem.boot_len (pa_cons (pv 7) pa_nil)) pa_nil)) (pv 7)))))))))), ?_⟩
  walk_at "go"
  refine ⟨g, L, ns, i + 0, _, rfl, aa0, e0, fun H1 b aa1 => ?_⟩
  have bb1 := bb0.trans b
  clear b
  obtain ⟨⟨gd1, hg1⟩, _⟩ := id aa1
  walk_at "go"
  refine ⟨g, L, ns, i + 1, _, rfl, aa1, e1, fun H2 b aa2 => ?_⟩
  have bb2 := bb1.trans b
  clear b
  obtain ⟨⟨gd2, hg2⟩, _⟩ := id aa2
  walk_at "go"
  refine ⟨g, L, ns, i + 2, _, rfl, aa2, e2, fun H3 b aa3 => ?_⟩
  have bb3 := bb2.trans b
  clear b
  obtain ⟨⟨gd3, hg3⟩, _⟩ := id aa3
  walk_at "go"
  refine ⟨g, L, ns, i + 3, _, rfl, aa3, e3, fun H4 b aa4 => ?_⟩
  have bb4 := bb3.trans b
  clear b
  obtain ⟨⟨gd4, hg4⟩, _⟩ := id aa4
  walk_at "go"
  refine ⟨g, L, ns, i + 4, _, rfl, aa4, e4, fun H5 b aa5 => ?_⟩
  have bb5 := bb4.trans b
  clear b
  obtain ⟨⟨gd5, hg5⟩, _⟩ := id aa5
  have hcE := hc.but gv bb5 aa5
  have ho := hcE.obj
  walk_at "go"
  have aE : ArgsAt K H5 g L ns j := ej ▸ aa5
  refine ⟨G, X, cv, c, s, gr, pw, ph, x, y, rfl, hcE, d.does hc gv bb5 aE fun H9 q => ?_⟩
  have nn := noNum s gr x y pw ph
  have rl := row_of s (.dots gr x y pw ph)
  revert q nn rl
  generalize (step s (.dots gr x y pw ph)).2 = an
  intro q nn rl
  cases an with
  | refused z => exact q _ (Same.refl _)
  | number n => exact absurd rfl (nn n)
  | row l =>
    intro D hD
    walk_at "go"
    intro p hp
    have l64 := rl l rfl
    have Dp := Same.new (o := .lst [V.int ((l.map fun (n : Nat) => V.int (n : Int)).length : Int)]) hp _ _ hD
    refine ⟨_, rfl, p, D, _, _, rfl, rfl, upd_same, Dp, sz (by rw [List.length_map]; simp only [List.length_cons, List.length_nil]; omega), fun r hr => ?_⟩
    refine q _ ((Same.new hp).trans (Same.new hr)) r ?_
    rw [upd_same]
    show some (HO.lst (V.int ((l.map fun (n : Nat) => V.int (n : Int)).length : Int) :: l.map fun (n : Nat) => V.int (n : Int))) = some (HO.lst (V.int (l.length : Int) :: (l.map fun (n : Nat) => (n : Int)).map V.int))
    rw [List.length_map, List.map_map]
    rfl
end
end Pd
end
section
set_option Elab.async false
set_option linter.all false
set_option maxRecDepth 100000
set_option maxHeartbeats 4000000
namespace Pd
open PySem PySem.Spec PyProof.Rows L2
local macro_rules | `(tactic| walk_at "at") => `(tactic| first
  | assumption
  | exact upd_same
  | (refine (show Same _ _ by assumption) _ _ ?_; walk_at "at")
  | (refine (show But _ _ _ by assumption) _ _ (by assumption) ?_; assumption)
  | (refine Same.new (by assumption) _ _ ?_; walk_at "at")
  | (refine (upd_ne (ne_of (by assumption) (by assumption) (by intro z; cases z))).trans ?_; walk_at "at"))
local macro_rules | `(tactic| walk_at "go") => `(tactic| repeat (first
  | refine ⟨_, rfl, ?_⟩
  | refine ⟨_, _, rfl, rfl, ?_⟩
  | refine ⟨_, _, rfl, ?_⟩
  | refine ⟨_, _, _, rfl, ?_⟩
  | refine And.intro rfl ?_
  | refine And.intro (Or.inl ⟨by decide, by decide⟩) ?_
  | refine And.intro (Or.inr ⟨by decide, by decide⟩) ?_
  | refine And.intro ⟨by decide, by decide⟩ ?_
  | refine And.intro (Or.inl ⟨by omega, by omega⟩) ?_
  | refine And.intro (Or.inr ⟨by omega, by omega⟩) ?_
  | refine And.intro ⟨by omega, by omega⟩ ?_
  | refine And.intro trivial ?_
  | refine And.intro (by omega) ?_
  | refine And.intro (sz (Nat.le_of_ble_eq_true rfl)) ?_
  | refine And.intro (Or.inl ⟨rfl, _, SqL.of (by walk_at "at")⟩) ?_
  | refine ⟨_, _, _, _, rfl, rfl, SqT.of (by walk_at "at"), (by rfl), ?_⟩
  | refine ⟨_, _, _, _, rfl, rfl, SqL.of (by walk_at "at"), (by rfl), ?_⟩
  | refine ⟨_, _, _, _, _, rfl, (by walk_at "at"), (by assumption), (by assumption), Lk.h, ?_⟩
  | refine ⟨_, _, _, rfl, rfl, (by walk_at "at"), ?_⟩
  | refine ⟨_, _, _, rfl, (by walk_at "at"), LkN.h, ?_⟩
  | refine ⟨_, _, _, _, rfl, (by walk_at "at"), (by assumption), (by assumption), (by apply few_lt; decide), ?_⟩
  | refine ⟨_, _, (by walk_at "at"), (by apply few_lt; decide), ?_⟩
  | refine ⟨_, _, rfl, Or.inl (SqL.of (by walk_at "at")), ?_⟩))
open Wrvdot (State Answer step)
open WrvdotNeutral (asked1 callOf whole32 n_ stops pieces piecesOk)
/-! ### a call of what an expression gives: the promise goes with the address -/
def tCallE (P : Program) (w : World) (K : PySem.W.Frag) (mg : Str → Option Value) (base : Heap) (CX : CXT) (j : Nat) (tf : TE) (E : L2.St → XK) (t : TA) : TE := fun σ H Q => tf σ H fun x H1 => ∃ (a : Addr) (ps : List Str) (sp : Sp), x = .ref a ∧ Ok P w K mg base CX j a ps sp ∧ t σ H1 fun vs H2 => sp vs H2 Q (E σ)
theorem pe_callE {X : Cx} {P : Program} {w : World} {K : PySem.W.Frag} {mg : Str → Option Value} {base : Heap} {CX : CXT} {j k : Nat} {E : L2.St → XK} {fe e : Expr} {es : List Expr} {pos : Pos} {tf : TE} {t : TA} (h1 : X.prog = P) (h2 : X.w = w) (h3 : X.K = K) (h4 : X.mg = mg) (h5 : X.base = base)
    (hf : PE X fe tf) (hr : Room k X.A) (hj : j ≤ k) (hx : ∀ σ, PassesAt CX X σ (E σ)) (ha : PA X (e :: es) t)
    (hev : eval (.Call fe (e :: es) [] pos) X.env = (do callWith pos (← eval fe X.env) [] (backTo pos (starEach (e :: es) X.env)) (backToKw pos (keywordEach [] X.env))) := by rfl)
    (he : starEach (e :: es) X.env = (false, eval e X.env) :: starEach es X.env := by rfl) (hpl : (backTo pos (starEach es X.env)).any (·.1) = false := by rfl) :
    PE X (.Call fe (e :: es) [] pos) (tCallE P w K mg base CX j tf E t) := by
  subst h1 h2 h3 h4 h5
  refine ⟨fun pins s σ H Q I h => ?_⟩
  rw [hev]
  refine wpAny_bind (thn (hf.run pins s σ H _ I h) fun u s1 ⟨x, H1, I1, rx, a, ps, sp, ex, F, q⟩ => ?_)
  subst ex
  cases rx
  obtain ⟨fd, F1, b⟩ := F.run
  refine PySem.W.callWith_K (h₀ := X.base) I.ok.mod.kin F.kp (thn (ha.run pos pins s1 σ _ _ I1 q) fun us s2 ⟨vs, H2, I2, r, q2⟩ => ⟨I2.kIn, ?_⟩) he hpl
  exact run_fnS F1 (hr.mono hj) b (hx σ) I2 r q2
section
variable {P : Program} {w : World} {K : PySem.W.Frag} {mg : Str → Option Value} {base : Heap}
theorem okCalls (T : Txt K mg) : ∀ n : Nat, n < 12 → ∃ a : Addr, (callsD.map (He.Dv.v K))[n]? = some (V.ref a) ∧ Ok P w K mg base (L2.CX P w) 25 a ["canvas", "given"] (spCall K (n : Int))
  | 0, _ => ⟨_, rfl, ok_call_clear T⟩
  | 1, _ => ⟨_, rfl, ok_call_picture T⟩
  | 2, _ => ⟨_, rfl, ok_call_plain T⟩
  | 3, _ => ⟨_, rfl, ok_call_linear T⟩
  | 4, _ => ⟨_, rfl, ok_call_radial T⟩
  | 5, _ => ⟨_, rfl, ok_call_pictured T⟩
  | 6, _ => ⟨_, rfl, ok_call_clip T⟩
  | 7, _ => ⟨_, rfl, ok_call_unclip T⟩
  | 8, _ => ⟨_, rfl, ok_call_group T⟩
  | 9, _ => ⟨_, rfl, ok_call_end T⟩
  | 10, _ => ⟨_, rfl, ok_call_mark T⟩
  | 11, _ => ⟨_, rfl, ok_call_dots T⟩
  | n + 12, h => by omega
/-- one call, answered -/
def spAnswer (K : PySem.W.Frag) : Sp := fun vs H Q _ => ∃ (G : Gh) (X : List Addr) (cv : Addr) (c : Cv) (s : State) (g L : Addr) (ns : List Int) (i j : Nat) (p : Int) (xs : List Int) (rows : List (List Int)) (x : Wrvdot.Call), vs = [.ref cv, .ref g] ∧ CanvasAt K G X H cv c s ∧ Given K X H cv c g L ns i ∧
  ns[i]? = some p ∧ Lies ns (i + 1) xs rows j ∧ ns.length ≤ 30000 ∧ asked1 ((p :: xs) :: rows) = true ∧ callOf ((p :: xs) :: rows) = some x ∧
  ∀ H' G' c' q, Keep (hide (g :: c.own cv) H) (hide (g :: Cv.own c' cv) H') → Given K X H' cv c' g L ns j → CanvasAt K G' X H' cv c' (step s x).1 → q ∉ X → H' q = some (.lst ((WrvdotNeutral.told (step s x).2).map V.int)) → Q (.ref q) H'
theorem sc_answer_of : FnScope ["canvas", "given", "number"] ["canvas", "given"] (defScope s_answer_of) := ⟨rfl, rfl, rfl, by decide +kernel, rfl, by decide +kernel, by decide +kernel⟩
theorem bd_answer_of : BindAll "answer_of" "answer_of" s_answer_of ["canvas", "given"] := fun _ _ _ _ _ _ us hl => match us, hl with | [_, _], _ => rfl
/-- the suites of the clauses -/
def tNeg (n : Nat) : TS := tRet (tLst (tCons (tUn (rU fun i => .int (-i)) (tC (.int (n : Int)))) tNil))
theorem ok_answer_of (T : Txt K mg) : Ok P w K mg base CX0 26 (He.fAd K ("answer_of", none)) ["canvas", "given"] (spAnswer K) := by
  refine mk_ok T.f_answer_of sc_answer_of bd_answer_of (fun _ _ _ _ ⟨_, _, _, _, _, _, _, _, _, _, _, _, _, _, e, _⟩ => by rw [e]; rfl) fun cdv A outer s0 H0 vs Q E hr h => ?_
  obtain ⟨G, X, cv, c, s, g, L, ns, i, j, p, xs, rows, x, rfl, hc, gv, hp, li, hn, h1, h2, fin⟩ := h
  have a0 := gv.at_
  obtain ⟨⟨gd0, hg0⟩, _⟩ := id a0
  refine ⟨_, pss_cons (ps_set (i := 2) sc_answer_of.nd rfl (Or.inl rfl) (c_meth0 (ok_Arguments_take (K := K) T) hr (by decide) T.c_Arguments T.m_Arguments_take pass0 (pv 1)))
    (pss_one (ps_try_many (tb := fun W => tRet (tOp rCat (tLst (tCons (tC (.int 0)) tNil)) (tCallE P w K mg base (L2.CX P w) 25 (tOp (rIxT K) (tC (.ref (He.ga K "CALLS"))) (tVar 2)) (WE W) (tCons (tVar 0) (tCons (tVar 1) tNil)))))
      (l := [(.ref (He.ga K "InvalidCall"), fun _ _ _ => tNeg 1), (.ref (He.ga K "LimitReached"), fun _ _ _ => tNeg 3), (.ref (He.ga K "GroupNotEnded"), fun _ _ _ => tNeg 5)]) (Wout := fun _ _ _ _ => False) rfl rfl takes0
      (fun W pn xe tk _ => pss_one (ps_ret (pe_op op_cat (pe_lst (pa_cons pe_int pa_nil)) (pe_callE rfl rfl rfl rfl rfl (pe_ix (kx_ixt (K := K) rfl) (pe_glob rfl T.g_CALLS rfl (by decide)) (pv 2) (fun _ _ => rfl)) hr (by decide) (fun σ => passAt tk σ) (pa_cons (pv 0) (pa_cons (pv 1) pa_nil))))))
      (.cons ⟨rfl, by decide, Or.inl T.g_InvalidCall⟩ (fun _ _ _ _ _ _ _ => pss_one (ps_ret (pe_lst (pa_cons (pe_un un_neg pe_int) pa_nil))))
      (.cons ⟨rfl, by decide, Or.inl T.g_LimitReached⟩ (fun _ _ _ _ _ _ _ => pss_one (ps_ret (pe_lst (pa_cons (pe_un un_neg pe_int) pa_nil))))
      (.cons ⟨rfl, by decide, Or.inl T.g_GroupNotEnded⟩ (fun _ _ _ _ _ _ _ => pss_one (ps_ret (pe_lst (pa_cons (pe_un un_neg pe_int) pa_nil)))) .nil))))), ?_⟩
  walk_at "go"
  refine ⟨g, L, ns, i, _, rfl, a0, hp, fun H1 b1 a1 => ?_⟩
  have hc1 := hc.but gv b1 a1
  have gv1 := gv.but b1 a1
  walk_at "go"
  intro p0 hp0
  have s2 : Same H1 (upd H1 p0 (.lst [.int 0])) := Same.new hp0
  have l0 : (upd H1 p0 (.lst [.int 0])) p0 = some (.lst [.int 0]) := upd_same
  have p0n : p0 ∉ g :: c.own cv := fun m => hc1.fresh hp0 (by
    rcases List.mem_cons.mp m with z | z
    · exact List.mem_append_left _ (z ▸ gv.gx)
    · exact List.mem_append_right _ z)
  show tCallE P w K mg base (L2.CX P w) 25 (tOp (rIxT K) (tC (V.ref (He.ga K "CALLS"))) (tVar 2)) _ _ _ (upd H1 p0 (.lst [.int 0])) _
  generalize upd H1 p0 (.lst [.int 0]) = H2 at s2 l0
  have hc2 := hc1.same s2
  have gv2 := gv1.same s2
  obtain ⟨n, n12, rfl⟩ := asked_le h1
  obtain ⟨fa, efa, okf⟩ := okCalls (P := P) (w := w) (base := base) T n n12
  refine ⟨_, rfl, _, _, _, _, rfl, rfl, T.calls H2, atI_nat efa, fa, _, _, rfl, okf, ?_⟩
  walk_at "go"
  refine ⟨G, X, cv, c, s, g, L, ns, i + 1, j, xs, rows, x, rfl, hc2, gv2, li, hn, h1, h2, fun H3 G3 c3 k3 gv3 hc3 => ?_⟩
  have kk : Keep (hide (g :: c.own cv) H0) (hide (g :: c3.own cv) H3) := (Keep.of (but_hide List.mem_cons_self b1)).trans ((Keep.of (hide_same s2)).trans k3)
  have l03 : H3 p0 = some (.lst [.int 0]) := (hide_some (k3 _ _ ((hide_at p0n).trans l0) rfl)).2
  have nX : ∀ q, H3 q = none → q ∉ X := fun q hq m => by
    obtain ⟨_, o, k, _⟩ := hc3.xs q m
    rw [hq] at k
    cases k
  have fin2 : ∀ H4 q, Same H3 H4 → q ∉ X → H4 q = some (.lst ((WrvdotNeutral.told (step s x).2).map V.int)) → Q (.ref q) H4 := fun H4 q s4 nq hq => fin H4 G3 c3 q (kk.trans (Keep.of (hide_same s4))) (gv3.same s4) (hc3.same s4) nq hq
  clear fin
  have rf := refused_of s x
  have rl := row_of s x
  revert fin2 rf rl
  generalize (step s x).2 = an
  intro fin2 rf rl
  have one : ∀ z : Int, WrvdotNeutral.told an = [z] → [V.int z].length ≤ sizeLine ∧ ∀ q, H3 q = none → Q (.ref q) (upd H3 q (.lst [.int z])) := fun z e => ⟨sz (Nat.le_of_ble_eq_true rfl), fun q hq => fin2 _ q (Same.new hq) (nX q hq) (by rw [e]; exact upd_same)⟩
  have cat : ∀ l : List Int, l.length ≤ 100 → WrvdotNeutral.told an = 0 :: l → ∀ q, H3 q = some (.lst (l.map V.int)) → rCat (.ref p0) (.ref q) H3 Q := fun l hl e q hq => ⟨p0, q, _, _, rfl, rfl, l03, hq, sz (by rw [List.length_map]; simp only [List.length_cons, List.length_nil]; omega), fun r hr => fin2 _ r (Same.new hr) (nX r hr) (by rw [e]; exact upd_same)⟩
  cases an with
  | refused z =>
    rcases rf z rfl with rfl | rfl | rfl
    · exact ⟨true, T.x_InvalidCall_InvalidCall, fun _ a ha => ⟨_, rfl, one _ rfl⟩, (fun e => by cases e)⟩
    · exact ⟨false, T.x_LimitReached_InvalidCall, (fun e => by cases e), fun _ => ⟨true, T.x_LimitReached_LimitReached, fun _ a ha => ⟨_, rfl, one _ rfl⟩, (fun e => by cases e)⟩⟩
    · exact ⟨false, T.x_GroupNotEnded_InvalidCall, (fun e => by cases e), fun _ => ⟨false, T.x_GroupNotEnded_LimitReached, (fun e => by cases e), fun _ => ⟨true, T.x_GroupNotEnded_GroupNotEnded, fun _ a ha => ⟨_, rfl, one _ rfl⟩, (fun e => by cases e)⟩⟩⟩
  | number m => exact fun q hq => cat _ (Nat.le_of_ble_eq_true rfl) rfl q hq
  | row l => exact fun q hq => cat _ (by have := rl l rfl; simp only [outsC, List.length_cons, List.length_map]; omega) rfl q hq
end
end Pd
end
section
set_option Elab.async false
set_option linter.all false
set_option maxRecDepth 100000
set_option maxHeartbeats 4000000
namespace Pd
open PySem PySem.Spec PyProof.Rows L2
local macro_rules | `(tactic| walk_at "at") => `(tactic| first
  | assumption
  | exact upd_same
  | (refine (show Same _ _ by assumption) _ _ ?_; walk_at "at")
  | (refine (show But _ _ _ by assumption) _ _ (by assumption) ?_; assumption)
  | (refine Same.new (by assumption) _ _ ?_; walk_at "at")
  | (refine (upd_ne (ne_of (by assumption) (by assumption) (by intro z; cases z))).trans ?_; walk_at "at"))
local macro_rules | `(tactic| walk_at "go") => `(tactic| repeat (first
  | refine ⟨_, rfl, ?_⟩
  | refine ⟨_, _, rfl, rfl, ?_⟩
  | refine ⟨_, _, rfl, ?_⟩
  | refine ⟨_, _, _, rfl, ?_⟩
  | refine And.intro rfl ?_
  | refine And.intro (Or.inl ⟨by decide, by decide⟩) ?_
  | refine And.intro (Or.inr ⟨by decide, by decide⟩) ?_
  | refine And.intro ⟨by decide, by decide⟩ ?_
  | refine And.intro (Or.inl ⟨by omega, by omega⟩) ?_
  | refine And.intro (Or.inr ⟨by omega, by omega⟩) ?_
  | refine And.intro ⟨by omega, by omega⟩ ?_
  | refine And.intro trivial ?_
  | refine And.intro (by omega) ?_
  | refine And.intro (sz (Nat.le_of_ble_eq_true rfl)) ?_
  | refine And.intro (Or.inl ⟨rfl, _, SqL.of (by walk_at "at")⟩) ?_
  | refine ⟨_, _, _, _, rfl, rfl, SqT.of (by walk_at "at"), (by rfl), ?_⟩
  | refine ⟨_, _, _, _, rfl, rfl, SqL.of (by walk_at "at"), (by rfl), ?_⟩
  | refine ⟨_, _, _, _, _, rfl, (by walk_at "at"), (by assumption), (by assumption), Lk.h, ?_⟩
  | refine ⟨_, _, _, rfl, rfl, (by walk_at "at"), ?_⟩
  | refine ⟨_, _, _, rfl, (by walk_at "at"), LkN.h, ?_⟩
  | refine ⟨_, _, _, _, rfl, (by walk_at "at"), (by assumption), (by assumption), (by apply few_lt; decide), ?_⟩
  | refine ⟨_, _, (by walk_at "at"), (by apply few_lt; decide), ?_⟩
  | refine ⟨_, _, rfl, Or.inl (SqL.of (by walk_at "at")), ?_⟩))
open Wrvdot (State Answer step)
open WrvdotNeutral (asked1 callOf)
theorem hide_new {M : List Addr} {H H' : Hp} (s : Same H H') (f : ∀ a ∈ M, H a = none) : Same H (hide M H') := fun a o e => by
  rw [hide_at (fun m => by rw [f a m] at e; cases e)]
  exact s _ _ e
section
variable {K : PySem.W.Frag} {G : Gh} {X : List Addr} {H H1 : Hp} {cv g L fnd : Addr} {c : Cv} {s : State} {ns : List Int} {i : Nat} {o : HO}
/-- what the caller changes itself -/
theorem CanvasAt.mut (h : CanvasAt K G X H cv c s) (m : fnd ∈ X) (t : isT o = false) (d : isD o = false) : CanvasAt K G X (upd H fnd o) cv c s := by
  have n := (h.xs fnd m).1
  refine h.keep (Grow.refl' (hide_upd (List.mem_append_left _ m)).symm) (fun a ha => upd_ne fun e => n (by rw [← e]; exact ha)) fun a ha => ?_
  obtain ⟨n1, u, k, z⟩ := h.xs a ha
  by_cases e : a = fnd
  · exact ⟨n1, o, by rw [e, upd_same], t, d⟩
  · exact ⟨n1, u, by rw [upd_ne e]; exact k, z⟩
theorem Given.mut (h : Given K X H cv c g L ns i) (m : fnd ∈ X) (n : g ≠ fnd) : Given K X (upd H fnd o) cv c g L ns i := by
  have l1 : SqL K (hide (X ++ c.own cv) (upd H fnd o)) L (ns.map V.int) := by
    rw [hide_upd (List.mem_append_left _ m)]
    exact h.ls
  obtain ⟨⟨dx, e⟩, _⟩ := h.at_
  exact ⟨h.gx, ⟨⟨dx, by rw [upd_ne n]; exact e⟩, SqL.kept (Keep.of (hide_sub _ _)) l1⟩, l1⟩
/-- more is changed by the caller: new objects -/
theorem CanvasAt.also (h : CanvasAt K G X H cv c s) (e : Same H H1) {N : List Addr} (f : ∀ a ∈ N, H a = none) (t : ∀ a ∈ N, ∃ o, H1 a = some o ∧ isT o = false ∧ isD o = false) : CanvasAt K G (N ++ X) H1 cv c s := by
  refine h.keep (Grow.of (hide_step (fun a o _ k => e a o k) fun a m => ?_)) (fun a ha => ?_) fun a ha => ?_
  · rcases List.mem_append.mp m with z | z
    · rcases List.mem_append.mp z with z | z
      · exact .inr (f a z)
      · exact .inl (List.mem_append_left _ z)
    · exact .inl (List.mem_append_right _ z)
  · obtain ⟨o, k, _⟩ := h.owns a ha
    rw [k, e _ _ k]
  · rcases List.mem_append.mp ha with z | z
    · refine ⟨fun m => ?_, t a z⟩
      obtain ⟨o, k, _⟩ := h.owns a m
      rw [f a z] at k
      cases k
    · obtain ⟨n, o, k, q⟩ := h.xs a z
      exact ⟨n, o, e _ _ k, q⟩
end
/-- answers: a list of whole numbers is handed in, the specification's list comes out -/
def spAnswers (K : PySem.W.Frag) : Sp := fun vs H Q _ => ∃ (a : Addr) (ns : List Int), vs = [.ref a] ∧ SqL K H a (ns.map V.int) ∧ ns.length ≤ 30000 ∧ PyWrvdot.answers_asked ns = true ∧
  ∀ (H' : Hp) (p : Addr), H' p = some (.lst ((PyWrvdot.answers ns).map V.int)) → Q (.ref p) H'
/-- so it stands ahead of each call -/
def Stand (K : PySem.W.Frag) (cv g fnd L : Addr) (ns : List Int) (m : Nat) (σ : L2.St) (H : Hp) : Prop := ∃ (G : Gh) (c : Cv) (s : State) (i f : Nat) (cs : List (List (List Int))) (fs : List Int) (e : Option V), m = ns.length - i ∧ σ = [some (.ref L), some (.ref cv), some (.ref g), some (.ref fnd), e] ∧
  CanvasAt K G [g, fnd] H cv c s ∧ Given K [g, fnd] H cv c g L ns i ∧ PyFlat.calls PyWrvdot.shape f (ns.drop i) = some cs ∧ (∀ q ∈ cs, asked1 q = true) ∧ H fnd = some (.lst (fs.map V.int)) ∧
  fs ++ PyFlat.told (PyFlat.played WrvdotNeutral.step s cs) = PyWrvdot.answers ns
theorem szb {n : Nat} (h : n < 10000001) : n < sizeLine := Nat.lt_of_lt_of_le h (by decide)
section
variable {P : Program} {w : World} {K : PySem.W.Frag} {mg : Str → Option Value} {base : Heap}
/-- as mk_ok, of a known object -/
theorem mk_fn {x qual : Str} {st : Stmt} {f : Addr} {fd : FuncData} {N ps : List Str} {k : Nat} {sp : Sp} (F : FunD K x qual (defArgs st) (defBody st) (defScope st) [] [] f fd) (S : FnScope N ps (defScope st)) (len : ∀ vs H Q E, sp vs H Q E → vs.length = ps.length)
    (body : ∀ (cdv : Value) (A : Around) (outer : List Env) (s : Shared) (H : Hp) (vs : List V) (Q : VK) (E : XK), Room k (A.deeper (envOfC qual (defScope st) s.heap.objs.size f cdv)) → sp vs H Q E →
      ∃ t, PSs (cxOf CX0 P w K mg base N qual (defScope st) f cdv A outer s H E).nox (defBody st) t ∧ t { nx := fun _ H' => Q .non H', rt := Q } (start N vs) H) : FnOk P w K mg base CX0 (k + 1) f fd ps sp := by
  refine F.ok S len fun cdv A outer s H vs Q E hr h => ?_
  obtain ⟨t, h1, h2⟩ := body cdv A outer s H vs Q E hr h
  exact ⟨t, h1.nox, h2⟩
theorem sc_answers : FnScope ["calls", "canvas", "given", "found", "answer"] ["calls"] (defScope s_answers) := ⟨rfl, rfl, rfl, by decide +kernel, rfl, by decide +kernel, by decide +kernel⟩
theorem bd_answers : BindAll "answers" "answers" s_answers ["calls"] := fun _ _ _ _ _ _ us hl => match us, hl with | [_], _ => rfl
theorem run_answers (T : Txt K mg) {fd : FuncData} (F : FunD K "answers" "answers" (defArgs s_answers) (defBody s_answers) (defScope s_answers) [] [] (He.fAd K ("answers", none)) fd) : FnOk P w K mg base CX0 27 (He.fAd K ("answers", none)) fd ["calls"] (spAnswers K) := by
  refine mk_fn F sc_answers (fun _ _ _ _ ⟨_, _, e, _⟩ => by rw [e]; rfl) fun cdv A outer s0 H0 vs Q E hr h => ?_
  obtain ⟨L, ns, rfl, hL, hn, hask, fin⟩ := h
  obtain ⟨cs, hcs, hall, htold, hlen⟩ := asked_of hask
  
  refine ⟨_, (pss_cons (ps_set (i := 1) sc_answers.nd rfl (Or.inl rfl) (c_make0 (ok_Canvas_init (K := K) T) T.k_Canvas hr (by decide) rfl T.g_Canvas (fun _ => pass0)))
      (pss_cons (ps_set (i := 2) sc_answers.nd rfl (Or.inl rfl) (c_make (ok_Arguments_init (K := K) T) T.k_Arguments hr (by decide) rfl T.g_Arguments (fun _ => pass0) (pa_cons (pv 0) pa_nil)))
      (pss_cons (ps_set (i := 3) sc_answers.nd rfl (Or.inl rfl) (pe_lst pa_nil))
      (pss_cons (ps_while PassesOwn.never (pt_val (c_meth0 (ok_Arguments_are_left (K := K) T) hr (by decide) T.c_Arguments T.m_Arguments_are_left pass0 (pv 2))) (pss_cons (ps_set (i := 4) sc_answers.nd rfl (Or.inl rfl) (c_call (ok_answer_of (K := K) T) hr (by decide) rfl T.g_answer_of pass0 (pa_cons (pv 1) (pa_cons (pv 2) pa_nil))))
      (pss_cons (ps_expr (kx_bm (K := K) rfl PySem.F.plainAttrs_list PySem.F.slot_list_append PySem.F.type_list_append mt_append (pv 3) (pa_cons (pe_callB (kx_len (K := K) rfl) (by rfl) T.z_len PySem.boot_len (pa_cons (pv 4) pa_nil)) pa_nil)))
      (pss_one (ps_expr (kx_bm (K := K) rfl PySem.F.plainAttrs_list PySem.F.slot_list_extend PySem.F.type_list_extend mt_extend (pv 3) (pa_cons (pv 4) pa_nil)))))))
      (pss_one (ps_ret (pv 3))))))), ?_⟩
  walk_at "go"
  intro cv cdx hcv hcdx cne
  refine ⟨cv, cdx, rfl, upd_same, fun H1 G c b1 own hc => ⟨rfl, ?_⟩⟩
  have s1 := made_same hcv hcdx b1
  have own0 : ∀ a ∈ c.own cv, H0 a = none := fun a ha => by
    rcases own a ha with z | z
    · rw [z]
      exact hcv
    · cases q : H0 a with
      | none => rfl
      | some o =>
        rw [upd_ne (ne_of_none q hcv), upd_ne (ne_of_none q hcdx), q] at z
        cases z
  clear b1 own
  walk_at "go"
  intro g gdx hg hgdx gne
  refine ⟨g, gdx, .ref L, rfl, upd_same, fun H2 b2 ag => ⟨rfl, ?_⟩⟩
  have s2 := made_same hg hgdx b2
  clear b2
  obtain ⟨gd, ag⟩ := ag
  walk_at "go"
  intro fnd hf
  have gf : g ≠ fnd := ne_of_none ag hf
  have s3 : Same H2 (upd H2 fnd (.lst [])) := Same.new hf
  have f3 : (upd H2 fnd (.lst [])) fnd = some (.lst []) := upd_same
  have g3 := s3 _ _ ag
  generalize upd H2 fnd (.lst []) = H3 at s3 f3 g3
  have nw : ∀ a ∈ [g, fnd], H1 a = none := fun a ha => by
    rcases List.mem_cons.mp ha with z | z
    · rw [z]; exact hg
    · rw [List.mem_singleton.mp z]
      exact s2.free hf
  have hc3 : CanvasAt K G [g, fnd] H3 cv c Wrvdot.start := hc.also (N := [g, fnd]) (s2.trans s3) nw fun a ha => by
    rcases List.mem_cons.mp ha with z | z
    · exact ⟨_, by rw [z]; exact g3, rfl, rfl⟩
    · exact ⟨_, by rw [List.mem_singleton.mp z]; exact f3, rfl, rfl⟩
  have s03 : Same H0 H3 := s1.trans (s2.trans s3)
  have gv3 : Given K [g, fnd] H3 cv c g L ns 0 := by
    have l1 : SqL K (hide ([g, fnd] ++ c.own cv) H3) L (ns.map V.int) := SqL.kept (Keep.of (hide_new s03 fun a m => by
      rcases List.mem_append.mp m with z | z
      · exact s1.free (nw a z)
      · exact own0 a z)) hL
    exact ⟨List.mem_cons_self, ⟨⟨gd, g3⟩, SqL.kept (Keep.of (hide_sub _ _)) l1⟩, l1⟩
  walk_at "go"
  refine ⟨Stand K cv g fnd L ns, ⟨_, G, c, Wrvdot.start, 0, ns.length, cs, [], none, rfl, rfl, hc3, gv3, hcs, hall, f3, htold⟩, ?_⟩
  rintro m σ H4 ⟨G4, c4, s4, i, f, cs4, fs, e4, rfl, rfl, hc4, gv4, hcs4, hall4, f4, told4⟩
  have a4 := gv4.at_
  obtain ⟨⟨gd4, hg4⟩, _⟩ := id a4
  walk_at "go"
  refine ⟨g, L, ns, i, rfl, a4, ?_⟩
  walk_at "go"
  have fm : fnd ∈ [g, fnd] := List.mem_cons_of_mem _ List.mem_cons_self
  refine ite2 (fun c0 => ?_) (fun c0 => ?_)
  · have hi : i < ns.length := ddec c0
    obtain ⟨p, xs, rows, j, f2, cs2, hp, li, rfl, hcs2, ij⟩ := flat_next hcs4 hi
    have h1 := hall4 _ List.mem_cons_self
    obtain ⟨x, h2⟩ := asked_call h1
    have tn := told_next (s := s4) (cs := cs2) h2
    rw [tn] at told4
    refine ⟨_, fun _ _ h => h, ?_⟩
    walk_at "go"
    refine ⟨G4, [g, fnd], cv, c4, s4, g, L, ns, i, j, p, xs, rows, x, rfl, hc4, gv4, hp, li, hn, h1, h2, fun H5 G5 c5 q k5 gv5 hc5 nq hq => ?_⟩
    have f5 : H5 fnd = some (.lst (fs.map V.int)) := (hide_some (k5 _ _ ((hide_at (fun m => by
      rcases List.mem_cons.mp m with z | z
      · exact gf z.symm
      · exact (hc4.xs fnd fm).1 z)).trans f4) rfl)).2
    have qf : q ≠ fnd := fun e => nq (by rw [e]; exact fm)
    generalize WrvdotNeutral.told (step s4 x).2 = t at told4 hq
    have tl := congrArg List.length told4
    simp only [List.length_append, List.length_cons] at tl
    have w5 : (fs.map V.int).length < sizeLine := szb (by rw [List.length_map]; omega)
    walk_at "go"
    refine ⟨fnd, q, _, _, rfl, rfl, upd_same, (upd_ne qf).trans hq, Nat.le_of_lt (szb (by simp only [List.length_append, List.length_map, List.length_cons, List.length_nil]; omega)), ?_⟩
    refine ⟨ns.length - j, by omega, G5, c5, (step s4 x).1, j, f2, cs2, fs ++ (t.length : Int) :: t, _, rfl, rfl, (hc5.mut fm rfl rfl).mut fm rfl rfl, (gv5.mut fm gf).mut fm gf, hcs2, fun z hz => hall4 z (List.mem_cons_of_mem _ hz), ?_, ?_⟩
    · rw [upd_same, List.map_append, List.map_cons, List.length_map, List.append_assoc]
      rfl
    · rw [← told4, List.append_assoc]
  · have hi : ns.length ≤ i := Nat.le_of_not_lt (dnot c0)
    have e := flat_end hcs4 hi
    subst e
    walk_at "go"
    refine fin H4 fnd ?_
    rw [f4, ← told4]
    show some (HO.lst (fs.map V.int)) = some (HO.lst ((fs ++ []).map V.int))
    rw [List.append_nil]
end
end Pd
end
set_option Elab.async false
set_option linter.all false
set_option maxRecDepth 100000
set_option maxHeartbeats 4000000
namespace Pd
open PySem PySem.Spec PyProof.Rows L2
open PySem.W (WData Codec OpenSpec)
/-- the goal behind the head, where the head tells of SOME written part K -/
theorem walkK {r : OpenSpec} {k : Nat} {q : Program} {loose : List Str} {XP : (Str → Option Value) → Heap → Prop} {YP : World → Heap → Prop} {d : DefRec} {ps : List Str}
    (well : r.wellSaid = true) (len : r.args.length = ps.length) (room : Room k callerA)
    (F : ∀ (w : World) (mg : Str → Option Value) (fa : Addr) (h : Heap), YP w h → h.Ns mainGlobals mg → mg d.name = some (.ref fa) →
      ∃ (K : PySem.W.Frag) (fd : FuncData) (sp : Sp), K.In h ∧
        (∀ (s : Shared) (us : List Value), us.length = ps.length → BindsTo s fd ⟨us, []⟩ (ps.zip us)) ∧
        (∀ base : Heap, K.In base → base.Ns mainGlobals mg → FnOk r.prog w K mg base CX0 k fa fd ps sp) ∧
        ∀ (H : Hp) (xs : List V) (a : Codec.denoteAll r.args), OnlyF H → Codec.withinAll r.args a = true → Codec.app r.args r.asked a = true → DwAll K H xs (Codec.encAll r.args a) →
          sp xs H (fun v H' => Dw K H' v (r.ret.enc (Codec.app r.args r.f a))) fun _ _ _ => False) :
    PySem.W.WalkOS q loose XP YP r d [] (fun f vs => PySem.call f vs) := by
  intro w s0 s1 mg mb G Y fa o pm cd doc dV kV hobj hdat hcode hdfl hname hgens args vals as pre lay reads wells low
  obtain ⟨a, dec, ask⟩ := PySem.W.os_pre_some pre
  obtain ⟨enc, within⟩ := Codec.encAll_of_decAll r.args args a dec
  subst enc
  obtain ⟨K, fd, sp, KX, binds, okF, sat⟩ := F w mg fa _ Y G.T.g hname
  have lenA : (Codec.encAll r.args a).length = ps.length := by rw [encAll_len]; exact len
  have done := spec_call (R := []) (cl := classAt s0.heap) (d0 := r.ret.enc (Codec.app r.args r.f a)) (CX := CX0) KX G.T.g G.T.b G.T.builtins G.T.nolimit hgens wells
    (pl_encAll _ _) (layable_weight lay) room okF binds lenA (fun H xs only dw => sat H xs a only within ask dw) (fun _ _ _ z => z)
  refine PySem.W.enter_call (codeAny_mono done fun res s' post => ?_)
  obtain ⟨u, bs, rfl, got, old, sameOs, bare⟩ := post
  exact ⟨.inl ⟨u, _, bs, rfl, fun _ => rfl, got, (OpenSpec.post_iff well within _ _).mpr rfl, fun z => Bool.noConfusion (show false = true from z)⟩, old, sameOs, bare⟩

theorem the_call : PySem.W.WalkOS qv names (PySem.W.XL qv []) hk.says Rw (HandSHeadRun.topDef Prg 81) [] (fun f vs => PySem.call f vs) := by
  refine walkK (k := 27) (ps := ["calls"]) (by decide +kernel) rfl ⟨rfl, by decide, by decide⟩ ?_
  intro w mg fa h Y G hmg
  obtain ⟨K, KX, c⟩ := Y
  have T : Txt K mg := ⟨c.t.d, c.more, h, KX, G⟩
  have hmg2 : mg ("answers" : PySem.Str) = some (.ref fa) := by
    have e : (HandSHeadRun.topDef Prg 81).name = ("answers" : PySem.Str) := by kernel_rfl
    rw [← e]
    exact hmg
  have ef : fa = He.fAd K ("answers", none) := by
    have e := hmg2.symm.trans T.g_answers
    cases e
    rfl
  subst ef
  obtain ⟨fd, F⟩ := T.f_answers
  refine ⟨K, fd, spAnswers K, KX, F.bindsA fun _ _ _ _ _ _ us hl => match us, hl with | [_], _ => rfl, fun base _ _ => run_answers T F, ?_⟩
  intro H xs a hO hwi hask hx
  cases hx with
  | cons h1 h2 =>
    cases h2
    cases h1 with
    | lst hs ha =>
      have e := L2.ints_dw a.1 _ ha
      subst e
      have q : ((Codec.inLen 0 30000 a.1 && a.1.all (Codec.inInt (-2147483648) 4294967295)) && true) = true := hwi
      rw [Bool.and_eq_true, Bool.and_eq_true] at q
      exact ⟨_, a.1, rfl, hs, (Codec.inNat_iff.mp q.1.1).2, hask, fun H' p hp => .lst (L2.SqL.of hp) (L2.dw_ints _)⟩
end Pd
open PySem PySem.W PyProof.Rows
set_option maxRecDepth 100000 in
set_option maxHeartbeats 8000000 in
theorem PySem.Challenge.cw_pagedots_s01_answers_holds : PySem.Challenge.rw_pagedots_s01_answers.Holds := by
  w_on
  refine HeadRun.head_spec (r := PySem.Challenge.rw_pagedots_s01_answers) (q := Pd.qv) (H := Pd.hk) (ob := Pd.ob) (M := 7000) (loose := Pd.names) (d := HandSHeadRun.topDef Pd.Prg 81) (kwd := []) Pd.ob_eq
    (by kernel_rfl) (fun s => by kernel_rfl) Pd.runs (by kernel_rfl) (by kernel_rfl) (by kernel_rfl) os_shapes (by first | assumption | decide +kernel) (by decide +kernel) ⟨rfl, rfl, rfl, rfl, rfl, by decide +kernel⟩ ?hw ?hc
  case hw => exact ⟨[.list []], by decide +kernel, by decide +kernel⟩
  case hc => exact Pd.the_call

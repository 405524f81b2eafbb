import PyProof.Rows.All
import Wide.All
import OpenK.AllK
import Wide.FinOn
import KE.KStateDown
import HandS.ForMost
import HandS.More
import HandS.WordsExc
import HandS.Defaults
import HandS.MakeKwOnly
import HandS.Gcd
import HandS.Wide
import HandS.WideBits
import HandS.Deep
import HandS.Style
import HandS.Head0
import HandS.Head1
import HandS.Head2
import HandS.Head3
import HandS.HeadEnd
import HandS.HeadHook1
import HandS.HeadHook2
import PyProof.MaxThree
import Flt.RightSqrt
import PyProof.P3In
import PySem.Challenge.RW_armwarrant_k27_whole_nothing_meets_itsel
set_option Elab.async false
set_option linter.all false
set_option maxRecDepth 100000
set_option maxHeartbeats 0
namespace Aw
open PySem PySem.Spec PyProof.Rows L2
def top (i : Nat) : Stmt := PySem.Challenge.pw_armwarrant_k27_whole_nothing_meets_itsel.main.body.getD i (.Pass ⟨0, 0, 0, 0⟩)

/-- a keyword-only default of the def at f, if it is an object -/
def kwAt (f : Str × Option Str) (x : Str) (K : PySem.W.Frag) : Addr := match K.lookup (He.fAd K f) with
  | some ⟨_, _, .func fd, _⟩ => (match fd.kwdefaults with
    | .ref D => (match PySem.W.nsIn K D x with
      | some (some (.ref b)) => b
      | _ => 0)
    | _ => 0)
  | _ => 0
abbrev s_root_up : Stmt := (top 8)
def d_root_up : He.DefD := ⟨("root_up", none), "root_up", "root_up", defArgs s_root_up, defBody s_root_up, defScope s_root_up, [], []⟩
abbrev s_divide_up : Stmt := (top 9)
def d_divide_up : He.DefD := ⟨("divide_up", none), "divide_up", "divide_up", defArgs s_divide_up, defBody s_divide_up, defScope s_divide_up, [], []⟩
abbrev s_dot : Stmt := (top 10)
def d_dot : He.DefD := ⟨("dot", none), "dot", "dot", defArgs s_dot, defBody s_dot, defScope s_dot, [], []⟩
abbrev s_plus : Stmt := (top 11)
def d_plus : He.DefD := ⟨("plus", none), "plus", "plus", defArgs s_plus, defBody s_plus, defScope s_plus, [], []⟩
abbrev s_minus : Stmt := (top 12)
def d_minus : He.DefD := ⟨("minus", none), "minus", "minus", defArgs s_minus, defBody s_minus, defScope s_minus, [], []⟩
abbrev s_scaled : Stmt := (top 13)
def d_scaled : He.DefD := ⟨("scaled", none), "scaled", "scaled", defArgs s_scaled, defBody s_scaled, defScope s_scaled, [], []⟩
abbrev s_length_up : Stmt := (top 14)
def d_length_up : He.DefD := ⟨("length_up", none), "length_up", "length_up", defArgs s_length_up, defBody s_length_up, defScope s_length_up, [], []⟩
abbrev s_greatest : Stmt := (top 15)
def d_greatest : He.DefD := ⟨("greatest", none), "greatest", "greatest", defArgs s_greatest, defBody s_greatest, defScope s_greatest, [], []⟩
abbrev s_Move_init : Stmt := (inClass (top 17) 0)
def d_Move_init : He.DefD := ⟨("Move", some "__init__"), "__init__", "Move.__init__", defArgs s_Move_init, defBody s_Move_init, defScope s_Move_init, [], []⟩
abbrev s_Move_middle : Stmt := (inClass (top 17) 1)
def d_Move_middle : He.DefD := ⟨("Move", some "middle"), "middle", "Move.middle", defArgs s_Move_middle, defBody s_Move_middle, defScope s_Move_middle, [], []⟩
abbrev s_Move_halves : Stmt := (inClass (top 17) 2)
def d_Move_halves : He.DefD := ⟨("Move", some "halves"), "halves", "Move.halves", defArgs s_Move_halves, defBody s_Move_halves, defScope s_Move_halves, [], []⟩
abbrev s_Move_slack : Stmt := (inClass (top 17) 3)
def d_Move_slack : He.DefD := ⟨("Move", some "slack"), "slack", "Move.slack", defArgs s_Move_slack, defBody s_Move_slack, defScope s_Move_slack, [], []⟩
abbrev s_lower : Stmt := (top 18)
def d_lower : He.DefD := ⟨("lower", none), "lower", "lower", defArgs s_lower, defBody s_lower, defScope s_lower, [], []⟩
abbrev s_upper : Stmt := (top 19)
def d_upper : He.DefD := ⟨("upper", none), "upper", "upper", defArgs s_upper, defBody s_upper, defScope s_upper, [], []⟩
abbrev s_reduced : Stmt := (top 22)
def d_reduced : He.DefD := ⟨("reduced", none), "reduced", "reduced", defArgs s_reduced, defBody s_reduced, defScope s_reduced, [], []⟩
abbrev s_turned : Stmt := (top 23)
def d_turned : He.DefD := ⟨("turned", none), "turned", "turned", defArgs s_turned, defBody s_turned, defScope s_turned, [], []⟩
abbrev s_shifted : Stmt := (top 24)
def d_shifted : He.DefD := ⟨("shifted", none), "shifted", "shifted", defArgs s_shifted, defBody s_shifted, defScope s_shifted, [], []⟩
abbrev s_added : Stmt := (top 25)
def d_added : He.DefD := ⟨("added", none), "added", "added", defArgs s_added, defBody s_added, defScope s_added, [], []⟩
abbrev s_true_place : Stmt := (top 26)
def d_true_place : He.DefD := ⟨("true_place", none), "true_place", "true_place", defArgs s_true_place, defBody s_true_place, defScope s_true_place, [], []⟩
abbrev s_spot : Stmt := (top 27)
def d_spot : He.DefD := ⟨("spot", none), "spot", "spot", defArgs s_spot, defBody s_spot, defScope s_spot, [], []⟩
abbrev s_unknown : Stmt := (top 28)
def d_unknown : He.DefD := ⟨("unknown", none), "unknown", "unknown", defArgs s_unknown, defBody s_unknown, defScope s_unknown, [], []⟩
abbrev s_Gap_init : Stmt := (inClass (top 30) 0)
def d_Gap_init : He.DefD := ⟨("Gap", some "__init__"), "__init__", "Gap.__init__", defArgs s_Gap_init, defBody s_Gap_init, defScope s_Gap_init, [], []⟩
abbrev s_Gap_beyond : Stmt := (inClass (top 30) 1)
def d_Gap_beyond : He.DefD := ⟨("Gap", some "beyond"), "beyond", "Gap.beyond", defArgs s_Gap_beyond, defBody s_Gap_beyond, defScope s_Gap_beyond, [], []⟩
abbrev s_Gap_within : Stmt := (inClass (top 30) 2)
def d_Gap_within : He.DefD := ⟨("Gap", some "within"), "within", "Gap.within", defArgs s_Gap_within, defBody s_Gap_within, defScope s_Gap_within, [], []⟩
abbrev s_Gap_shorter : Stmt := (inClass (top 30) 3)
def d_Gap_shorter : He.DefD := ⟨("Gap", some "shorter"), "shorter", "Gap.shorter", defArgs s_Gap_shorter, defBody s_Gap_shorter, defScope s_Gap_shorter, [], []⟩
abbrev s_turned_round : Stmt := (top 31)
def d_turned_round : He.DefD := ⟨("turned_round", none), "turned_round", "turned_round", defArgs s_turned_round, defBody s_turned_round, defScope s_turned_round, [], []⟩
abbrev s_shortest : Stmt := (top 32)
def d_shortest : He.DefD := ⟨("shortest", none), "shortest", "shortest", defArgs s_shortest, defBody s_shortest, defScope s_shortest, [], []⟩
abbrev s_place_gap : Stmt := (top 33)
def d_place_gap : He.DefD := ⟨("place_gap", none), "place_gap", "place_gap", defArgs s_place_gap, defBody s_place_gap, defScope s_place_gap, [], []⟩
abbrev s_crossing_gap : Stmt := (top 35)
def d_crossing_gap : He.DefD := ⟨("crossing_gap", none), "crossing_gap", "crossing_gap", defArgs s_crossing_gap, defBody s_crossing_gap, defScope s_crossing_gap, [], []⟩
abbrev s_line_gap : Stmt := (top 36)
def d_line_gap : He.DefD := ⟨("line_gap", none), "line_gap", "line_gap", defArgs s_line_gap, defBody s_line_gap, defScope s_line_gap, [], []⟩
abbrev s_direction : Stmt := (top 39)
def d_direction : He.DefD := ⟨("direction", none), "direction", "direction", defArgs s_direction, defBody s_direction, defScope s_direction, [], []⟩
abbrev s_parts_places : Stmt := (top 40)
def d_parts_places : He.DefD := ⟨("parts_places", none), "parts_places", "parts_places", defArgs s_parts_places, defBody s_parts_places, defScope s_parts_places, [], []⟩
abbrev s_Mover_init : Stmt := (inClass (top 42) 0)
def d_Mover_init : He.DefD := ⟨("Mover", some "__init__"), "__init__", "Mover.__init__", defArgs s_Mover_init, defBody s_Mover_init, defScope s_Mover_init, [.adr (He.dflAt ("Mover", some "__init__") 0)], []⟩
abbrev s_Mover_bodies : Stmt := (inClass (top 42) 1)
def d_Mover_bodies : He.DefD := ⟨("Mover", some "bodies"), "bodies", "Mover.bodies", defArgs s_Mover_bodies, defBody s_Mover_bodies, defScope s_Mover_bodies, [], []⟩
abbrev s_Mover_lines : Stmt := (inClass (top 42) 2)
def d_Mover_lines : He.DefD := ⟨("Mover", some "lines"), "lines", "Mover.lines", defArgs s_Mover_lines, defBody s_Mover_lines, defScope s_Mover_lines, [], []⟩
abbrev s_Mover_unknowns : Stmt := (inClass (top 42) 3)
def d_Mover_unknowns : He.DefD := ⟨("Mover", some "unknowns"), "unknowns", "Mover.unknowns", defArgs s_Mover_unknowns, defBody s_Mover_unknowns, defScope s_Mover_unknowns, [], []⟩
abbrev s_Matter_init : Stmt := (inClass (top 43) 0)
def d_Matter_init : He.DefD := ⟨("Matter", some "__init__"), "__init__", "Matter.__init__", defArgs s_Matter_init, defBody s_Matter_init, defScope s_Matter_init, [.non], []⟩
abbrev s_Matter_pairs : Stmt := (inClass (top 43) 1)
def d_Matter_pairs : He.DefD := ⟨("Matter", some "pairs"), "pairs", "Matter.pairs", defArgs s_Matter_pairs, defBody s_Matter_pairs, defScope s_Matter_pairs, [], []⟩
abbrev s_Matter_views : Stmt := (inClass (top 43) 3)
def d_Matter_views : He.DefD := ⟨("Matter", some "views"), "views", "Matter.views", defArgs s_Matter_views, defBody s_Matter_views, defScope s_Matter_views, [], []⟩
abbrev s_sides : Stmt := (top 44)
def d_sides : He.DefD := ⟨("sides", none), "sides", "sides", defArgs s_sides, defBody s_sides, defScope s_sides, [], []⟩
abbrev s_way_between : Stmt := (top 45)
def d_way_between : He.DefD := ⟨("way_between", none), "way_between", "way_between", defArgs s_way_between, defBody s_way_between, defScope s_way_between, [], []⟩
abbrev s_is_parted : Stmt := (top 46)
def d_is_parted : He.DefD := ⟨("is_parted", none), "is_parted", "is_parted", defArgs s_is_parted, defBody s_is_parted, defScope s_is_parted, [], []⟩
abbrev s_contact : Stmt := (top 47)
def d_contact : He.DefD := ⟨("contact", none), "contact", "contact", defArgs s_contact, defBody s_contact, defScope s_contact, [], []⟩
abbrev s_is_leaf_right : Stmt := (top 51)
def d_is_leaf_right : He.DefD := ⟨("is_leaf_right", none), "is_leaf_right", "is_leaf_right", defArgs s_is_leaf_right, defBody s_is_leaf_right, defScope s_is_leaf_right, [], []⟩
abbrev s_is_right : Stmt := (top 52)
def d_is_right : He.DefD := ⟨("is_right", none), "is_right", "is_right", defArgs s_is_right, defBody s_is_right, defScope s_is_right, [], []⟩
abbrev s_judge : Stmt := (top 53)
def d_judge : He.DefD := ⟨("judge", none), "judge", "judge", defArgs s_judge, defBody s_judge, defScope s_judge, [], []⟩
abbrev s_Verdict_init : Stmt := (inClass (top 55) 0)
def d_Verdict_init : He.DefD := ⟨("Verdict", some "__init__"), "__init__", "Verdict.__init__", defArgs s_Verdict_init, defBody s_Verdict_init, defScope s_Verdict_init, [], []⟩
abbrev s_most_gain : Stmt := (top 56)
def d_most_gain : He.DefD := ⟨("most_gain", none), "most_gain", "most_gain", defArgs s_most_gain, defBody s_most_gain, defScope s_most_gain, [], []⟩
abbrev s_halves_second : Stmt := (top 57)
def d_halves_second : He.DefD := ⟨("halves_second", none), "halves_second", "halves_second", defArgs s_halves_second, defBody s_halves_second, defScope s_halves_second, [], []⟩
abbrev s_look : Stmt := (top 58)
def d_look : He.DefD := ⟨("look", none), "look", "look", defArgs s_look, defBody s_look, defScope s_look, [], []⟩
abbrev s_search : Stmt := (top 59)
def d_search : He.DefD := ⟨("search", none), "search", "search", defArgs s_search, defBody s_search, defScope s_search, [], []⟩
abbrev s_find_verdict : Stmt := (top 60)
def d_find_verdict : He.DefD := ⟨("find_verdict", none), "find_verdict", "find_verdict", defArgs s_find_verdict, defBody s_find_verdict, defScope s_find_verdict, [], []⟩
abbrev s_is_within : Stmt := (top 67)
def d_is_within : He.DefD := ⟨("is_within", none), "is_within", "is_within", defArgs s_is_within, defBody s_is_within, defScope s_is_within, [], []⟩
abbrev s_Joint_init : Stmt := (inClass (top 68) 0)
def d_Joint_init : He.DefD := ⟨("Joint", some "__init__"), "__init__", "Joint.__init__", defArgs s_Joint_init, defBody s_Joint_init, defScope s_Joint_init, [], [("box", .int 0), ("error", .int 0), ("speed", .int 1), ("accel", .int 1), ("brake", .int 1)]⟩
abbrev s_Body_init : Stmt := (inClass (top 73) 0)
def d_Body_init : He.DefD := ⟨("Body", some "__init__"), "__init__", "Body.__init__", defArgs s_Body_init, defBody s_Body_init, defScope s_Body_init, [], []⟩
abbrev s_Capsule_init : Stmt := (inClass (top 74) 0)
def d_Capsule_init : He.DefD := ⟨("Capsule", some "__init__"), "__init__", "Capsule.__init__", defArgs s_Capsule_init, defBody s_Capsule_init, defScope s_Capsule_init, [], []⟩
abbrev s_Arm_init : Stmt := (inClass (top 75) 0)
def d_Arm_init : He.DefD := ⟨("Arm", some "__init__"), "__init__", "Arm.__init__", defArgs s_Arm_init, defBody s_Arm_init, defScope s_Arm_init, [], [("beside", .adr (kwAt ("Arm", some "__init__") "beside"))]⟩
abbrev s_Arm_fits : Stmt := (inClass (top 75) 1)
def d_Arm_fits : He.DefD := ⟨("Arm", some "fits"), "fits", "Arm.fits", defArgs s_Arm_fits, defBody s_Arm_fits, defScope s_Arm_fits, [], []⟩
abbrev s_lw_rows : Stmt := (top 77)
def d_lw_rows : He.DefD := ⟨("_law_rows", none), "_law_rows", "_law_rows", defArgs s_lw_rows, defBody s_lw_rows, defScope s_lw_rows, [], []⟩
abbrev s_lw_joint : Stmt := (top 78)
def d_lw_joint : He.DefD := ⟨("_law_joint", none), "_law_joint", "_law_joint", defArgs s_lw_joint, defBody s_lw_joint, defScope s_lw_joint, [], []⟩
abbrev s_lw_capsule : Stmt := (top 79)
def d_lw_capsule : He.DefD := ⟨("_law_capsule", none), "_law_capsule", "_law_capsule", defArgs s_lw_capsule, defBody s_lw_capsule, defScope s_lw_capsule, [], []⟩
abbrev s_lw_values : Stmt := (top 80)
def d_lw_values : He.DefD := ⟨("_law_values", none), "_law_values", "_law_values", defArgs s_lw_values, defBody s_lw_values, defScope s_lw_values, [], []⟩
abbrev s_lw_arm : Stmt := (top 81)
def d_lw_arm : He.DefD := ⟨("_law_arm", none), "_law_arm", "_law_arm", defArgs s_lw_arm, defBody s_lw_arm, defScope s_lw_arm, [], []⟩
abbrev s_lw_mover : Stmt := (top 82)
def d_lw_mover : He.DefD := ⟨("_law_mover", none), "_law_mover", "_law_mover", defArgs s_lw_mover, defBody s_lw_mover, defScope s_lw_mover, [], []⟩
abbrev s_lw_turned : Stmt := (top 83)
def d_lw_turned : He.DefD := ⟨("_law_turned", none), "_law_turned", "_law_turned", defArgs s_lw_turned, defBody s_lw_turned, defScope s_lw_turned, [], []⟩
abbrev s_lw_true : Stmt := (top 84)
def d_lw_true : He.DefD := ⟨("_law_true", none), "_law_true", "_law_true", defArgs s_lw_true, defBody s_lw_true, defScope s_lw_true, [], []⟩
abbrev s_lw_meant : Stmt := (top 85)
def d_lw_meant : He.DefD := ⟨("_law_meant", none), "_law_meant", "_law_meant", defArgs s_lw_meant, defBody s_lw_meant, defScope s_lw_meant, [], []⟩
abbrev s_lw_offsets : Stmt := (top 86)
def d_lw_offsets : He.DefD := ⟨("_law_offsets", none), "_law_offsets", "_law_offsets", defArgs s_lw_offsets, defBody s_lw_offsets, defScope s_lw_offsets, [], []⟩
abbrev s_lw_true_line : Stmt := (top 87)
def d_lw_true_line : He.DefD := ⟨("_law_true_line", none), "_law_true_line", "_law_true_line", defArgs s_lw_true_line, defBody s_lw_true_line, defScope s_lw_true_line, [], []⟩
abbrev s_lw_mix : Stmt := (top 88)
def d_lw_mix : He.DefD := ⟨("_law_mix", none), "_law_mix", "_law_mix", defArgs s_lw_mix, defBody s_lw_mix, defScope s_lw_mix, [], []⟩
abbrev s_lw_far : Stmt := (top 89)
def d_lw_far : He.DefD := ⟨("_law_far", none), "_law_far", "_law_far", defArgs s_lw_far, defBody s_lw_far, defScope s_lw_far, [], []⟩
abbrev s_law : Stmt := (top 90)
def d_law : He.DefD := ⟨("law", none), "law", "law", defArgs s_law, defBody s_law, defScope s_law, [], []⟩
def fn : List He.DefD := ([d_root_up, d_divide_up, d_dot, d_plus, d_minus, d_scaled, d_length_up, d_greatest, d_Move_init, d_Move_middle, d_Move_halves, d_Move_slack, d_lower, d_upper, d_reduced, d_turned, d_shifted, d_added, d_true_place, d_spot, d_unknown, d_Gap_init, d_Gap_beyond, d_Gap_within, d_Gap_shorter, d_turned_round, d_shortest, d_place_gap, d_crossing_gap, d_line_gap, d_direction, d_parts_places, d_Mover_init, d_Mover_bodies, d_Mover_lines, d_Mover_unknowns, d_Matter_init, d_Matter_pairs, d_Matter_views, d_sides] : List He.DefD) ++ ([d_way_between, d_is_parted, d_contact, d_is_leaf_right, d_is_right, d_judge, d_Verdict_init, d_most_gain, d_halves_second, d_look, d_search, d_find_verdict, d_is_within, d_Joint_init, d_Body_init, d_Capsule_init, d_Arm_init, d_Arm_fits, d_lw_rows, d_lw_joint, d_lw_capsule, d_lw_values, d_lw_arm, d_lw_mover, d_lw_turned, d_lw_true, d_lw_meant, d_lw_offsets, d_lw_true_line, d_lw_mix, d_lw_far, d_law] : List He.DefD)
def fa : List He.Fa := ([.glo "root_up", .glo "divide_up", .glo "dot", .glo "plus", .glo "minus", .glo "scaled", .glo "length_up", .glo "greatest", .glo "lower", .glo "upper", .glo "reduced", .glo "turned", .glo "shifted", .glo "added", .glo "true_place", .glo "spot", .glo "unknown", .glo "turned_round", .glo "shortest", .glo "place_gap", .glo "crossing_gap", .glo "line_gap", .glo "direction", .glo "parts_places", .glo "sides", .glo "way_between", .glo "is_parted", .glo "contact", .glo "is_leaf_right", .glo "is_right", .glo "judge", .glo "most_gain", .glo "halves_second", .glo "look", .glo "search", .glo "find_verdict", .glo "is_within", .glo "_law_rows", .glo "_law_joint", .glo "_law_capsule"] : List He.Fa) ++ ([.glo "_law_values", .glo "_law_arm", .glo "_law_mover", .glo "_law_turned", .glo "_law_true", .glo "_law_meant", .glo "_law_offsets", .glo "_law_true_line", .glo "_law_mix", .glo "_law_far", .glo "law", .glo "Move", .cls "Move", .mkr "Move", .noat "Move" "first", .noat "Move" "last", .meth "Move" "middle", .meth "Move" "halves", .meth "Move" "slack", .glo "Gap", .cls "Gap", .mkr "Gap", .noat "Gap" "vector", .noat "Gap" "scale", .meth "Gap" "beyond", .meth "Gap" "within", .meth "Gap" "shorter", .glo "Mover", .cls "Mover", .mkr "Mover", .noat "Mover" "arm", .noat "Mover" "move", .noat "Mover" "held", .meth "Mover" "bodies", .meth "Mover" "lines", .meth "Mover" "unknowns", .glo "Matter", .cls "Matter", .mkr "Matter", .noat "Matter" "kind"] : List He.Fa) ++ ([.noat "Matter" "mover", .noat "Matter" "other", .meth "Matter" "pairs", .meth "Matter" "views", .glo "Verdict", .cls "Verdict", .mkr "Verdict", .noat "Verdict" "word", .noat "Verdict" "tree", .noat "Verdict" "at", .noat "Verdict" "looked", .glo "Joint", .cls "Joint", .mkr "Joint", .noat "Joint" "turns", .noat "Joint" "axis", .noat "Joint" "offset", .noat "Joint" "least", .noat "Joint" "most", .noat "Joint" "box", .noat "Joint" "error", .noat "Joint" "speed", .noat "Joint" "accel", .noat "Joint" "brake", .glo "Body", .cls "Body", .mkr "Body", .noat "Body" "first", .noat "Body" "last", .noat "Body" "radius", .glo "Capsule", .cls "Capsule", .mkr "Capsule", .noat "Capsule" "link", .noat "Capsule" "body", .glo "Arm", .cls "Arm", .mkr "Arm", .noat "Arm" "joints", .noat "Arm" "capsules"] : List He.Fa) ++ ([.noat "Arm" "beside", .meth "Arm" "fits", .glo "WHOLE", .free "len", .free "range", .free "int", .free "abs", .free "max", .free "min", .free "tuple", .free "list", .free "all", .int "UNIT" 1000000, .int "MOST" 1048576, .int "DEEPEST" 20, .int "FAR" 10000000, .int "STEEP" 8000000, .int "LOOSE" 100000, .int "FAST" 1000000000, .int "HARD" 10000000000, .int "THICK" 1000000, .int "MOST_JOINTS" 6, .int "MOST_CAPSULES" 8] : List He.Fa)
def loose : List Str := ([("_wall" : Str), ("ArmwarrantError" : Str), ("InvalidArm" : Str), ("InvalidMove" : Str), ("OutOfRange" : Str), ("root_up" : Str), ("divide_up" : Str), ("dot" : Str), ("plus" : Str), ("minus" : Str), ("scaled" : Str), ("length_up" : Str), ("greatest" : Str), ("Move" : Str), ("lower" : Str)] : List Str) ++ ([("upper" : Str), ("UNIT" : Str), ("reduced" : Str), ("turned" : Str), ("shifted" : Str), ("added" : Str), ("true_place" : Str), ("spot" : Str), ("unknown" : Str), ("Gap" : Str), ("turned_round" : Str), ("shortest" : Str), ("place_gap" : Str), ("crossing_gap" : Str), ("line_gap" : Str)] : List Str) ++ ([("MOST" : Str), ("direction" : Str), ("parts_places" : Str), ("Mover" : Str), ("Matter" : Str), ("sides" : Str), ("way_between" : Str), ("is_parted" : Str), ("contact" : Str), ("WHOLE" : Str), ("DEEPEST" : Str), ("is_leaf_right" : Str), ("is_right" : Str), ("judge" : Str), ("Verdict" : Str)] : List Str) ++ ([("most_gain" : Str), ("halves_second" : Str), ("look" : Str), ("search" : Str), ("find_verdict" : Str), ("FAR" : Str), ("STEEP" : Str), ("LOOSE" : Str), ("FAST" : Str), ("HARD" : Str), ("is_within" : Str), ("Joint" : Str), ("THICK" : Str), ("MOST_JOINTS" : Str), ("MOST_CAPSULES" : Str)] : List Str) ++ ([("Body" : Str), ("Capsule" : Str), ("Arm" : Str), ("_law_rows" : Str), ("_law_joint" : Str), ("_law_capsule" : Str), ("_law_values" : Str), ("_law_arm" : Str), ("_law_mover" : Str), ("_law_turned" : Str), ("_law_true" : Str), ("_law_meant" : Str), ("_law_offsets" : Str), ("_law_true_line" : Str), ("_law_mix" : Str)] : List Str) ++ ([("_law_far" : Str)] : List Str)
def bltB (K : PySem.W.Frag) (x : Str) (id : String) : Bool := match PySem.W.nsIn K mainGlobals x with
  | some (some (.builtin j)) => decide (j = id)
  | _ => false
def ex (K : PySem.W.Frag) : Bool := bltB K "gcd" "math.gcd" && (bltB K "isqrt" "math.isqrt" && He.tupB K "WHOLE" [.int 0, .int 0])
/-! ### what is looked at: the objects that the wanted names reach -/
def wanted : List Str := ([("root_up" : Str), ("divide_up" : Str), ("dot" : Str), ("plus" : Str), ("minus" : Str), ("scaled" : Str), ("length_up" : Str), ("greatest" : Str), ("lower" : Str), ("upper" : Str), ("reduced" : Str), ("turned" : Str), ("shifted" : Str), ("added" : Str), ("true_place" : Str)] : List Str) ++ ([("spot" : Str), ("unknown" : Str), ("turned_round" : Str), ("shortest" : Str), ("place_gap" : Str), ("crossing_gap" : Str), ("line_gap" : Str), ("direction" : Str), ("parts_places" : Str), ("sides" : Str), ("way_between" : Str), ("is_parted" : Str), ("contact" : Str), ("is_leaf_right" : Str), ("is_right" : Str)] : List Str) ++ ([("judge" : Str), ("most_gain" : Str), ("halves_second" : Str), ("look" : Str), ("search" : Str), ("find_verdict" : Str), ("is_within" : Str), ("_law_rows" : Str), ("_law_joint" : Str), ("_law_capsule" : Str), ("_law_values" : Str), ("_law_arm" : Str), ("_law_mover" : Str), ("_law_turned" : Str), ("_law_true" : Str)] : List Str) ++ ([("_law_meant" : Str), ("_law_offsets" : Str), ("_law_true_line" : Str), ("_law_mix" : Str), ("_law_far" : Str), ("law" : Str), ("Move" : Str), ("Gap" : Str), ("Mover" : Str), ("Matter" : Str), ("Verdict" : Str), ("Joint" : Str), ("Body" : Str), ("Capsule" : Str), ("Arm" : Str)] : List Str) ++ ([("WHOLE" : Str)] : List Str)
def refF (o : Obj) : List Addr := match o.data with
  | .func fd => He.refV fd.code ++ (He.refV fd.defaults ++ He.refV fd.kwdefaults)
  | .cls cd => [cd.ns]
  | .dict es _ => es.toList.flatMap fun e => He.refV e.val
  | _ => []
def refW (o : Obj) : List Addr := match o.data with
  | .dict es _ => es.toList.flatMap fun e => match e.key with
    | .str x _ => (match wanted.contains x with
      | true => He.refV e.val
      | false => [])
    | _ => []
  | _ => []
def grow1 (g : Addr → Option Obj) (f : Obj → List Addr) (as : List Addr) : List Addr := as.flatMap fun a => match g a with
  | some o => f o
  | none => []
/-- a list of numbers, reckoned ahead -/
def frL {α : Type} : List Addr → (List Addr → α) → α
  | [], k => k []
  | a :: r, k => HandSHeadRun.frNat a fun a => frL r fun r => k (a :: r)
theorem frL_eq {α : Type} : ∀ (l : List Addr) (k : List Addr → α), frL l k = k l
  | [], k => rfl
  | a :: r, k => by
    show HandSHeadRun.frNat a (fun a => frL r fun r => k (a :: r)) = k (a :: r)
    rw [HandSHeadRun.frNat_eq, frL_eq r]
def asN {α : Type} (g : Addr → Option Obj) (k : List Addr → α) : α :=
  frL (grow1 g refW [mainGlobals]) fun l1 => frL (grow1 g refF l1) fun l2 => frL (grow1 g refF l2) fun l3 => frL (grow1 g refF l3) fun l4 => k (mainGlobals :: (l1 ++ (l2 ++ (l3 ++ l4))))
def asNl (g : Addr → Option Obj) : List Addr := asN g id
theorem asN_eq {α : Type} (g : Addr → Option Obj) (k : List Addr → α) : asN g k = k (asNl g) := by
  unfold asNl asN
  simp only [frL_eq, id]
def frK {α : Type} (g : Addr → Option Obj) : List Addr → (PySem.W.Frag → α) → α
  | [], k => k []
  | a :: r, k => HandSHeadRun.frNat a fun a => match g a with
    | some ⟨c, d, dt, sl⟩ => frK g r fun K => k ((a, ⟨c, d, dt, sl⟩) :: K)
    | none => frK g r k
theorem frK_eq {α : Type} (g : Addr → Option Obj) : ∀ (as : List Addr) (k : PySem.W.Frag → α), frK g as k = k (He.frG g as)
  | [], k => rfl
  | a :: r, k => by
    show HandSHeadRun.frNat a (fun a => match g a with
      | some ⟨c, d, dt, sl⟩ => frK g r fun K => k ((a, ⟨c, d, dt, sl⟩) :: K)
      | none => frK g r k) = k (He.frG g (a :: r))
    rw [HandSHeadRun.frNat_eq]
    unfold He.frG
    rw [List.filterMap_cons]
    cases e : g a with
    | none =>
      show frK g r k = _
      rw [frK_eq g r]
      rfl
    | some o =>
      obtain ⟨c, d, dt, sl⟩ := o
      show frK g r (fun K => k ((a, ⟨c, d, dt, sl⟩) :: K)) = _
      rw [frK_eq g r]
      rfl
abbrev AlA : Type := List Bool × (List Bool × (Bool × List He.FnW))
def obsK (K : PySem.W.Frag) : AlA := (fa.map (fun f => f.ok K), (fn.map (fun d => d.ok K), (ex K, fn.map fun d => He.fnW K d.at_)))
def obsA (g : Addr → Option Obj) : AlA := asN g fun as => frK g as obsK
theorem obsA_K (g : Addr → Option Obj) : obsA g = obsK (He.frG g (asNl g)) := by
  unfold obsA
  rw [asN_eq, frK_eq]
def valA : AlA := (fa.map (fun _ => true), (fn.map (fun _ => true), (true, fn.map He.DefD.val)))
structure Says (K : PySem.W.Frag) : Prop where
  e : obsK K = valA
theorem map_true {α : Type} {p : α → Bool} : ∀ {l : List α}, l.map p = l.map (fun _ => true) → ∀ {x : α}, x ∈ l → p x = true
  | [], _, x, h => nomatch h
  | a :: r, e, x, h => by
    have e2 : p a :: r.map p = true :: r.map (fun _ => true) := e
    injection e2 with e3 e4
    rcases List.mem_cons.mp h with q | q
    · rw [q]; exact e3
    · exact map_true e4 q
theorem map_at {α β : Type} {p q : α → β} {l : List α} (e : l.map p = l.map q) {x : α} (h : x ∈ l) : p x = q x := by
  obtain ⟨i, hi, hx⟩ := List.mem_iff_getElem.mp h
  have e2 : (l.map p)[i]? = (l.map q)[i]? := by rw [e]
  rw [List.getElem?_map, List.getElem?_map, List.getElem?_eq_getElem hi, hx] at e2
  exact Option.some.inj e2
section
variable {K : PySem.W.Frag}
theorem Says.fact (c : Says K) (i : Nat) {f : He.Fa} (h : fa[i]? = some f := by rfl) : f.ok K = true :=
  map_true (congrArg (fun z : AlA => z.1) c.e) (List.mem_of_getElem? h)
theorem Says.def_ (c : Says K) (i : Nat) {d : He.DefD} (h : fn[i]? = some d := by rfl) : ∃ fd, FunD K d.name d.qual d.params d.body d.scope (d.dvs K) (d.kws K) (He.fAd K d.at_) fd :=
  He.DefD.funD (map_at (congrArg (fun z : AlA => z.2.2.2) c.e) (List.mem_of_getElem? h)) (map_true (congrArg (fun z : AlA => z.2.1) c.e) (List.mem_of_getElem? h))
theorem Says.ex (c : Says K) : Aw.ex K = true := congrArg (fun z : AlA => z.2.2.1) c.e
end
def hookA : PySem.W.Hook where
  α := AlA
  obs := fun s => obsA s.heap.get?
  val := fun _ => valA
  says := fun _ h => ∃ K : PySem.W.Frag, K.In h ∧ Says K
  of := fun _ s e => ⟨_, He.frG_in, ⟨(obsA_K s.heap.get?).symm.trans e⟩⟩
  keeps := fun _ _ _ ⟨K, hK, c⟩ k => ⟨K, PySem.W.Frag.In.keeps hK k, c⟩
theorem obsA_eq {g : Addr → Option Obj} {s : Shared} (h : ∀ a, g a = s.heap.get? a) : obsA g = hookA.obs s := by
  have e : g = s.heap.get? := funext h
  rw [e] <;> rfl
end Aw
namespace Aw
open PySem PySem.Spec PyProof.Rows L2
abbrev R : PySem.W.OpenRow := PySem.W.OpenLaw.row PySem.Challenge.rw_armwarrant_k27_whole_nothing_meets_itsel
abbrev hk : PySem.W.Hook := hookA
def ob (s : PySem.W.SharedT) : AlA := obsA (HandSHeadRun.getT s)
theorem ob_eq (s : PySem.W.SharedT) : ob s = hk.obs s.abs := obsA_eq (HandSHeadRun.getT_eq s)
theorem run (w : World) : HandSHeadRun.RunEqI R (PySem.W.view R.prog [0, 90]) hk ob 6000 loose w := by
  unfold HandSHeadRun.RunEqI
  kernel_rfl
end Aw
namespace Aw
open PySem PySem.Spec L2
/-! ### heaps that grow -/
theorem same_new {H : Hp} {p : Addr} {o : HO} (h : H p = none) : Same H (upd H p o) := fun a u e => by
  rw [upd_ne (ne_of_none e h)]; exact e
theorem sameL {K : PySem.W.Frag} {H H' : Hp} {a : Addr} {xs : List V} (e : Same H H') (h : SqL K H a xs) : SqL K H' a xs := e.seq h
theorem sameT {K : PySem.W.Frag} {H H' : Hp} {a : Addr} {xs : List V} (e : Same H H') (h : SqT K H a xs) : SqT K H' a xs := by
  rcases h with (h | ⟨o, h⟩) | h
  · exact .inl (.inl (e _ _ h))
  · exact .inl (.inr ⟨o, e _ _ h⟩)
  · exact .inr h
/-- F: what stands for good; H: the heap; they grow together, what H alone holds stays out of F -/
structure Gr (F H F' H' : Hp) : Prop where
  f : Same F F'
  h : Same H H'
  s : Same F' H'
  n : ∀ a, F a = none → H a ≠ none → F' a = none
theorem Gr.refl {F H : Hp} (s : Same F H) : Gr F H F H := ⟨Same.refl F, Same.refl H, s, fun _ h _ => h⟩
theorem some_ne {H H' : Hp} (s : Same H H') {a : Addr} (h : H a ≠ none) : H' a ≠ none := by
  cases e : H a with
  | none => exact absurd e h
  | some o => rw [s a o e]; exact fun q => nomatch q
theorem none_back {H H' : Hp} (s : Same H H') {a : Addr} (h : H' a = none) : H a = none := s.free h
theorem Gr.trans {F H F1 H1 F2 H2 : Hp} (a : Gr F H F1 H1) (b : Gr F1 H1 F2 H2) : Gr F H F2 H2 :=
  ⟨a.f.trans b.f, a.h.trans b.h, b.s, fun p h1 h2 => b.n p (a.n p h1 h2) (some_ne a.h h2)⟩
theorem same_both {F H : Hp} {p : Addr} {o : HO} (s : Same F H) : Same (upd F p o) (upd H p o) := fun a u e => by
  by_cases h : a = p
  · subst h; rw [upd_same] at e ⊢; exact e
  · rw [upd_ne h] at e ⊢; exact s a u e
theorem Gr.new {F H : Hp} {p : Addr} {o : HO} (s : Same F H) (h : H p = none) : Gr F H (upd F p o) (upd H p o) :=
  ⟨same_new (none_back s h), same_new h, same_both s, fun a h1 h2 => by
    rw [upd_ne (fun e => h2 (by rw [e]; exact h))]; exact h1⟩
theorem same_over {F H : Hp} {p : Addr} {o : HO} (s : Same F H) (h : F p = none) : Same F (upd H p o) := fun a u e => by
  rw [upd_ne (ne_of_none e h)]; exact s a u e
theorem Gr.own {F H : Hp} {p : Addr} {o : HO} (s : Same F H) (h : H p = none) : Gr F H F (upd H p o) :=
  ⟨Same.refl F, same_new h, same_over s (none_back s h), fun _ h1 _ => h1⟩
/-- an owned object p becomes part of F -/
theorem Gr.freeze {F H F' H' : Hp} {p : Addr} {o : HO} (g : Gr F H F' H') (h : H p = none) (h' : F' p = none) (e : H' p = some o) : Gr F H (upd F' p o) H' :=
  ⟨g.f.trans (same_new h'), g.h, fun a u q => by
    by_cases z : a = p
    · subst z; rw [upd_same] at q; rw [e]; exact q
    · rw [upd_ne z] at q; exact g.s a u q, fun a h1 h2 => by
    rw [upd_ne (fun z => h2 (by rw [z]; exact h))]; exact g.n a h1 h2⟩

/-! ### what a value means -/
structure Ty (α : Type) where
  rel : Hp → V → α → Prop
  mono : ∀ {F F' : Hp} {v : V} {x : α}, Same F F' → rel F v x → rel F' v x
/-- one value's meaning: a type and what it stands for -/
structure Ent where
  ok : Hp → V → Prop
  mono : ∀ {F F' : Hp} {v : V}, Same F F' → ok F v → ok F' v
def Ty.en {α : Type} (A : Ty α) (x : α) : Ent := ⟨fun F v => A.rel F v x, fun s h => A.mono s h⟩
abbrev Oks (F : Hp) (vs : List V) (es : List Ent) : Prop := Paired (fun v (t : Ent) => t.ok F v) vs es
theorem Oks.mono {F F' : Hp} (s : Same F F') {vs : List V} {es : List Ent} (h : Oks F vs es) : Oks F' vs es := Paired.mapP h fun _ t r => t.mono s r
theorem pget {α β : Type} {R : α → β → Prop} : ∀ {xs : List α} {ys : List β} {i : Nat} {y : β}, Paired R xs ys → ys[i]? = some y → ∃ x, xs[i]? = some x ∧ R x y
  | _, _, _, _, .nil, h => by simp at h
  | _, _, 0, y, .cons r t, h => by simp at h; subst h; exact ⟨_, rfl, r⟩
  | _, _, i + 1, y, .cons r t, h => by
    obtain ⟨x, e, q⟩ := pget (i := i) (y := y) t (by simpa using h)
    exact ⟨x, by simpa using e, q⟩
theorem pgetL {α β : Type} {R : α → β → Prop} : ∀ {xs : List α} {ys : List β} {i : Nat} {x : α}, Paired R xs ys → xs[i]? = some x → ∃ y, ys[i]? = some y ∧ R x y
  | _, _, _, _, .nil, h => by simp at h
  | _, _, 0, x, .cons r t, h => by simp at h; subst h; exact ⟨_, rfl, r⟩
  | _, _, i + 1, x, .cons r t, h => by
    obtain ⟨y, e, q⟩ := pgetL (i := i) (x := x) t (by simpa using h)
    exact ⟨y, by simpa using e, q⟩
theorem pset {α β : Type} {R : α → β → Prop} : ∀ {xs : List α} {ys : List β} (i : Nat) {x : α} {y : β}, Paired R xs ys → R x y → Paired R (xs.set i x) (ys.set i y)
  | _, _, _, _, _, .nil, _ => .nil
  | _, _, 0, _, _, .cons _ t, q => .cons q t
  | _, _, i + 1, _, _, .cons r t, q => .cons r (pset i t q)
theorem pmapR {α β γ : Type} {R : α → γ → Prop} {f : β → γ} : ∀ {xs : List α} {ys : List β}, Paired R xs (ys.map f) → Paired (fun x y => R x (f y)) xs ys
  | [], [], _ => .nil
  | _ :: _, _ :: _, .cons r t => .cons r (pmapR t)
theorem pmapR' {α β γ : Type} {R : α → γ → Prop} {f : β → γ} : ∀ {xs : List α} {ys : List β}, Paired (fun x y => R x (f y)) xs ys → Paired R xs (ys.map f)
  | _, _, .nil => .nil
  | _, _, .cons r t => .cons r (pmapR' t)

/-- an int of at most n bits -/
def bd (n : Nat) (x : Int) : Prop := x.natAbs < 2 ^ n
instance (n : Nat) (x : Int) : Decidable (bd n x) := inferInstanceAs (Decidable (x.natAbs < 2 ^ n))
theorem bd_mono {n m : Nat} {x : Int} (h : n ≤ m) (b : bd n x) : bd m x := Nat.lt_of_lt_of_le b (Nat.pow_le_pow_right (by decide) h)
theorem bd_add {n m : Nat} {x y : Int} (a : bd n x) (b : bd m y) : bd (max n m + 1) (x + y) := by
  have a' : x.natAbs < 2 ^ max n m := bd_mono (Nat.le_max_left n m) a
  have b' : y.natAbs < 2 ^ max n m := bd_mono (Nat.le_max_right n m) b
  unfold bd
  rw [Nat.pow_succ]
  omega
theorem bd_neg {n : Nat} {x : Int} (a : bd n x) : bd n (-x) := by unfold bd at *; omega
theorem bd_sub {n m : Nat} {x y : Int} (a : bd n x) (b : bd m y) : bd (max n m + 1) (x - y) := by
  have h := bd_add a (bd_neg b)
  rw [Int.sub_eq_add_neg]; exact h
theorem bd_mul {n m : Nat} {x y : Int} (a : bd n x) (b : bd m y) : bd (n + m) (x * y) := by
  unfold bd at *
  rw [Int.natAbs_mul, Nat.pow_add]
  exact Nat.mul_lt_mul'' a b
theorem bd_pos {n : Nat} {x : Int} (a : bd n x) : bd (n + 1) x := bd_mono (Nat.le_succ n) a
theorem bd_of {n : Nat} {x : Int} (h1 : -(2 ^ n : Int) < x) (h2 : x < 2 ^ n) : bd n x := by
  unfold bd
  have e : ((2 ^ n : Nat) : Int) = (2 : Int) ^ n := by simp
  omega
theorem bd_le {n : Nat} {x y : Int} (a : bd n y) (h1 : -y ≤ x) (h2 : x ≤ y) : bd n x := by unfold bd at *; omega
theorem bd_abs {n : Nat} {x y : Int} (a : bd n y) (h : x.natAbs ≤ y.natAbs) : bd n x := by unfold bd at *; omega
theorem bd_div {n : Nat} {x y : Int} (a : bd n x) (hy : 0 < y) : bd n (x / y) := by
  by_cases h0 : x = 0
  · subst h0; rw [Int.zero_ediv]; exact a
  refine bd_abs a ?_
  have h1 : x / y * y ≤ x := Int.ediv_mul_le x (by omega)
  have h2 : x < (x / y + 1) * y := Int.lt_ediv_add_one_mul_self x hy
  generalize x / y = q at h1 h2
  rcases Int.lt_trichotomy q 0 with q0 | q0 | q0
  · have z : (q + 1) * y ≤ q + 1 := by
      have : (q + 1) * y ≤ (q + 1) * 1 := Int.mul_le_mul_of_nonpos_left (by omega) (by omega)
      omega
    omega
  · subst q0; simp
  · have z : q * 1 ≤ q * y := Int.mul_le_mul_of_nonneg_left (by omega) (by omega)
    omega
theorem bd_max {n m : Nat} {x y : Int} (a : bd n x) (b : bd m y) : bd (max n m) (max x y) := by
  have a' : bd (max n m) x := bd_mono (Nat.le_max_left n m) a
  have b' : bd (max n m) y := bd_mono (Nat.le_max_right n m) b
  unfold bd at *
  omega
theorem bd_min {n m : Nat} {x y : Int} (a : bd n x) (b : bd m y) : bd (max n m) (min x y) := by
  have a' : bd (max n m) x := bd_mono (Nat.le_max_left n m) a
  have b' : bd (max n m) y := bd_mono (Nat.le_max_right n m) b
  unfold bd at *
  omega

/-- an int that keeps P -/
def tZ (P : Int → Prop) : Ty Int := ⟨fun _ v x => v = .int x ∧ P x, fun _ h => h⟩
abbrev tI (n : Nat) : Ty Int := tZ (bd n)
def tBl : Ty Bool := ⟨fun _ v x => v = .bl x, fun _ h => h⟩
def tStr : Ty Str := ⟨fun _ v x => v = .str x, fun _ h => h⟩
def tNon : Ty Unit := ⟨fun _ v _ => v = .non, fun _ h => h⟩
def tSub {α : Type} (A : Ty α) (P : α → Prop) : Ty α := ⟨fun F v x => A.rel F v x ∧ P x, fun s h => ⟨A.mono s h.1, h.2⟩⟩
/-- something of A that keeps P -/
def tEx {α : Type} (A : Ty α) (P : α → Prop) : Ty Unit := ⟨fun F v _ => ∃ x, A.rel F v x ∧ P x, fun s ⟨x, h, p⟩ => ⟨x, A.mono s h, p⟩⟩
def tOpt {α : Type} (A : Ty α) : Ty (Option α) := ⟨fun F v x => match x with
  | none => v = .non
  | some y => v ≠ .non ∧ A.rel F v y, fun {F F' v x} s h => by
  cases x with
  | none => exact h
  | some y => exact ⟨h.1, A.mono s h.2⟩⟩
section
variable (K : PySem.W.Frag)
/-- a tuple, item by item -/
def yTup {α : Type} (es : α → List Ent) : Ty α := ⟨fun F v x => ∃ a vs, v = .ref a ∧ SqT K F a vs ∧ Oks F vs (es x), fun s ⟨a, vs, e, q, r⟩ => ⟨a, vs, e, sameT s q, r.mono s⟩⟩
def yLst {α : Type} (es : α → List Ent) : Ty α := ⟨fun F v x => ∃ a vs, v = .ref a ∧ SqL K F a vs ∧ Oks F vs (es x), fun s ⟨a, vs, e, q, r⟩ => ⟨a, vs, e, sameL s q, r.mono s⟩⟩
/-- an instance of the class named C -/
def yObj {α : Type} (C : Str) (es : α → List (Str × Ent)) (P : α → Prop) : Ty α :=
  ⟨fun F v x => ∃ a dx gs, v = .ref a ∧ F a = some (.ins (He.ga K C) dx gs) ∧ Paired (fun (p : Str × V) (q : Str × Ent) => p.1 = q.1 ∧ q.2.ok F p.2) gs (es x) ∧ P x,
    fun s ⟨a, dx, gs, e, h, r, p⟩ => ⟨a, dx, gs, e, s a _ h, Paired.mapP r (fun _ q z => ⟨z.1, q.2.mono s z.2⟩), p⟩⟩
abbrev yTupL {α : Type} (A : Ty α) : Ty (List α) := yTup K fun xs => xs.map fun x => A.en x
abbrev yLstL {α : Type} (A : Ty α) : Ty (List α) := yLst K fun xs => xs.map fun x => A.en x
abbrev yT2 {α β : Type} (A : Ty α) (B : Ty β) : Ty (α × β) := yTup K fun p => [A.en p.1, B.en p.2]
abbrev yT3 {α β γ : Type} (A : Ty α) (B : Ty β) (C : Ty γ) : Ty (α × β × γ) := yTup K fun p => [A.en p.1, B.en p.2.1, C.en p.2.2]
abbrev yT4 {α β γ δ : Type} (A : Ty α) (B : Ty β) (C : Ty γ) (D : Ty δ) : Ty (α × β × γ × δ) := yTup K fun p => [A.en p.1, B.en p.2.1, C.en p.2.2.1, D.en p.2.2.2]
abbrev tV (n : Nat) : Ty (Int × Int × Int) := yT3 K (tI n) (tI n) (tI n)
abbrev tP (n : Nat) : Ty (Int × Int × Int × Int) := yT4 K (tI n) (tI n) (tI n) (tZ fun w => bd n w ∧ 0 < w)
end

/-! ### the state of a def's body -/
inductive Mu where
  | no
  | lst {α : Type} (i : Nat) (A : Ty α) (xs : List α)
  | obj (i : Nat) (C : Addr) (fs : List (Str × Ent))
/-- what the slots hold; the one thing that may still change -/
structure Ctx where
  g : List (Option Ent)
  m : Mu := .no
/-- the entry: F0 under H0; e: the address that may be changed although it stood -/
structure Bs where
  e : Option Addr
  F0 : Hp
  H0 : Hp
structure Reach (B : Bs) (F H : Hp) : Prop where
  ff : Same B.F0 F
  fh : Same F H
  n : ∀ a, B.F0 a = none → B.H0 a ≠ none → F a = none
  hh : ∀ a o, B.e ≠ some a → B.H0 a = some o → H a = some o
  ht : ∀ a, B.H0 a ≠ none → H a ≠ none
def MuOk (B : Bs) (F H : Hp) (σ : L2.St) : Mu → Prop
  | .no => True
  | .lst i A xs => ∃ a vs, σ[i]? = some (some (.ref a)) ∧ B.H0 a = none ∧ F a = none ∧ H a = some (.lst vs) ∧ Paired (fun v x => A.rel F v x) vs xs
  | .obj i C fs => ∃ a dx gs, σ[i]? = some (some (.ref a)) ∧ B.e = some a ∧ F a = none ∧ H a = some (.ins C dx gs) ∧ Paired (fun (p : Str × V) (q : Str × Ent) => p.1 = q.1 ∧ q.2.ok F p.2) gs fs
structure At (B : Bs) (G : Ctx) (σ : L2.St) (F H : Hp) : Prop where
  r : Reach B F H
  len : σ.length = G.g.length
  env : ∀ (i : Nat) (t : Ent), G.g[i]? = some (some t) → ∃ v, σ[i]? = some (some v) ∧ t.ok F v
  mu : MuOk B F H σ G.m
theorem Reach.grow {B : Bs} {F H F' H' : Hp} (r : Reach B F H) (g : Gr F H F' H') : Reach B F' H' :=
  ⟨r.ff.trans g.f, g.s, fun a h1 h2 => g.n a (r.n a h1 h2) (r.ht a h2), fun a o h1 h2 => g.h a o (r.hh a o h1 h2), fun a h => some_ne g.h (r.ht a h)⟩
theorem Reach.gr {F0 H0 F H : Hp} (r : Reach ⟨none, F0, H0⟩ F H) : Gr F0 H0 F H := ⟨r.ff, fun a o h => r.hh a o (fun q => nomatch q) h, r.fh, r.n⟩
theorem Reach.start {e : Option Addr} {F H : Hp} (s : Same F H) : Reach ⟨e, F, H⟩ F H := ⟨Same.refl F, s, fun _ h _ => h, fun _ _ _ h => h, fun _ h => h⟩
theorem MuOk.grow {B : Bs} {F H F' H' : Hp} {σ : L2.St} {m : Mu} (g : Gr F H F' H') (k : MuOk B F H σ m) : MuOk B F' H' σ m := by
  cases m with
  | no => trivial
  | lst i A xs =>
    obtain ⟨a, vs, h1, h2, h3, h4, h5⟩ := k
    exact ⟨a, vs, h1, h2, g.n a h3 (by rw [h4]; exact fun q => nomatch q), g.h a _ h4, Paired.mapP h5 fun _ x r => A.mono g.f r⟩
  | obj i C fs =>
    obtain ⟨a, dx, gs, h1, h2, h3, h4, h5⟩ := k
    exact ⟨a, dx, gs, h1, h2, g.n a h3 (by rw [h4]; exact fun q => nomatch q), g.h a _ h4, Paired.mapP h5 fun _ q z => ⟨z.1, q.2.mono g.f z.2⟩⟩
theorem At.grow {B : Bs} {G : Ctx} {σ : L2.St} {F H F' H' : Hp} (a : At B G σ F H) (g : Gr F H F' H') : At B G σ F' H' :=
  ⟨a.r.grow g, a.len, fun i t h => let ⟨v, e, r⟩ := a.env i t h; ⟨v, e, t.mono g.f r⟩, a.mu.grow g⟩
end Aw
namespace Aw
open PySem PySem.Spec L2
/-! ### operations by names of ours -/
def aAdd : R2 := rI0 fun i j => .int (i + j)
def aSub : R2 := rI0 fun i j => .int (i - j)
def CMulA (i j : Int) : Prop := CMulW i j ∨ CMul i j
def aMul : R2 := rI CMulA fun i j => .int (i * j)
def aDiv : R2 := rI CDivW fun i j => .int (i / j)
def aMod : R2 := rI (fun _ j => 0 < j) fun i j => .int (i % j)
def aShr : R2 := rI (fun _ j => 0 ≤ j) fun i j => .int (i / 2 ^ j.toNat)
def aShl : R2 := rI CPow fun i j => .int (i * 2 ^ j.toNat)
def CSq (i j : Int) : Prop := j = 2 ∧ (Builtin.Int.intBits i : Int) ≤ 1000000
def aPow : R2 := rI CSq fun i j => .int (i ^ j.toNat)
def aNeg : V → Hp → VK → Prop := rU fun i => .int (-i)
def aLt : R2 := rI0 fun i j => .bl (decide (i < j))
def aLe : R2 := rI0 fun i j => .bl (decide (i ≤ j))
def aGt : R2 := rI0 fun i j => .bl (decide (j < i))
def aGe : R2 := rI0 fun i j => .bl (decide (j ≤ i))
def aEq : R2 := rEq
def aNe : R2 := rNe
def aNotN : R2 := fun x y H Q => y = .non ∧ Q (.bl (!decide (x = .non))) H
def aNotB : R2 := rNotB
def aCat : R2 := rCat
def cAbs : List V → Hp → VK → Prop := fun xs H Q => ∃ i, xs = [.int i] ∧ Q (.int (if i < 0 then -i else i)) H
def cMax2 : List V → Hp → VK → Prop := fun xs H Q => ∃ i j, xs = [.int i, .int j] ∧ Q (.int (if j > i then j else i)) H
def cMax3 : List V → Hp → VK → Prop := fun xs H Q => ∃ i j k, xs = [.int i, .int j, .int k] ∧ Q (.int (if j > i then (if k > j then k else j) else (if k > i then k else i))) H
def cInt : List V → Hp → VK → Prop := fun xs H Q => (∃ i, xs = [.int i] ∧ Q (.int i) H) ∨ ∃ k, xs = [.bl k] ∧ Q (.int (if k then 1 else 0)) H
def cIsq : List V → Hp → VK → Prop := fun vs H Q => ∃ a : Int, vs = [.int a] ∧ 0 ≤ a ∧ a < 2 ^ 64 ∧ Q (.int ((Float64.isqrt a.toNat : Nat) : Int)) H
section
variable (K : PySem.W.Frag)
def cLen : List V → Hp → VK → Prop := fun xs H Q => ∃ p ys, xs = [.ref p] ∧ (SqL K H p ys ∨ SqT K H p ys) ∧ Q (.int ys.length) H
def cList : List V → Hp → VK → Prop := fun xs H Q => ∃ p ys, xs = [.ref p] ∧ (SqL K H p ys ∨ SqT K H p ys) ∧ ∀ l, H l = none → Q (.ref l) (upd H l (.lst ys))
def cTup : List V → Hp → VK → Prop := fun xs H Q => ∃ p ys, xs = [.ref p] ∧ ((SqL K H p ys ∧ ∀ l, H l = none → Q (.ref l) (upd H l (.tup ys))) ∨ (SqT K H p ys ∧ Q (.ref p) H))
end
section
variable {X : Cx}
theorem oAdd : OpR X (binaryOp .Add) aAdd := op_add
theorem oSub : OpR X (binaryOp .Sub) aSub := op_sub
theorem oMul : OpR X (binaryOp .Mult) aMul := opI fun _ _ _ _ _ _ _ hc q => PyProof.Rows.mul_int q (hc.elim (fun h => h.ok) fun h => h.ok)
theorem oDiv : OpR X (binaryOp .FloorDiv) aDiv := op_fdivW
theorem oMod : OpR X (binaryOp .Mod) aMod := op_mod
theorem oShr : OpR X (binaryOp .RShift) aShr := op_shr
theorem oShl : OpR X (binaryOp .LShift) aShl := op_shl
theorem oPow : OpR X (binaryOp .Pow) aPow := opI fun i j _ _ _ _ _ hc q => by
  obtain ⟨h1, h2⟩ := hc
  refine PyProof.Rows.pow_int (by omega) ?_ q
  subst h1
  have : (2 : Int) ^ 27 = 134217728 := by decide
  omega
theorem oNeg : UnR X (unaryOp .USub) aNeg := un_neg
theorem oLt : OpR X (compareOp .Lt) aLt := op_lt
theorem oLe : OpR X (compareOp .LtE) aLe := op_le
theorem oGt : OpR X (compareOp .Gt) aGt := op_gt
theorem oGe : OpR X (compareOp .GtE) aGe := op_ge
theorem oEq : OpR X (compareOp .Eq) aEq := op_eq
theorem oNe : OpR X (compareOp .NotEq) aNe := op_ne
theorem oNotN : OpR X (compareOp .IsNot) aNotN := op_notN
theorem oNotB : OpR X (compareOp .IsNot) aNotB := op_notBl
theorem oCat : OpR X (binaryOp .Add) aCat := op_cat
theorem kAbs : CallR X (.builtin "abs") cAbs := call_abs
theorem kMax2 (hc : X.calm = true) : CallR X (.builtin "max") cMax2 := call_max2 hc
theorem kMax3 (hc : X.calm = true) : CallR X (.builtin "max") cMax3 := by
  intro pins s σ H xs us Q I r h
  obtain ⟨i, j, k, rfl, q⟩ := h
  cases r with
  | cons r1 r =>
    cases r with
    | cons r2 r =>
      cases r with
      | cons r3 r =>
        cases r
        obtain ⟨t1, rfl⟩ := r1
        obtain ⟨t2, rfl⟩ := r2
        obtain ⟨t3, rfl⟩ := r3
        refine max_three_ints (I.ok.hd hc) fun h' tk kk => ⟨_, H, I.kept kk, ?_, q⟩
        split <;> split <;> exact ⟨_, rfl⟩
theorem kInt : CallR X (.type "int") cInt := call_int1
theorem kLen : CallR X (.builtin "len") (cLen X.K) := call_len_seq
theorem kList : CallR X (.type "list") (cList X.K) := call_list_of
theorem kTup : CallR X (.type "tuple") (cTup X.K) := call_tuple_of
theorem kIsq : CallR X (.builtin "math.isqrt") cIsq := by
  intro pins s σ H vs us Q I r h
  obtain ⟨a, rfl, h0, h1, q⟩ := h
  cases r with
  | cons r1 r =>
    cases r
    obtain ⟨t, rfl⟩ := r1
    exact PySem.W.mg_isqrt h0 h1 ⟨.int _, H, I.tok _, ⟨_, rfl⟩, q⟩
/-- x not in t: data of any depth, t a tuple -/
def aNotInT (K : PySem.W.Frag) : R2 := fun x y H Q => ∃ d ds, Dp K H x d ∧ Dp K H y (.tuple ds) ∧ SeqAt.shaped d = true ∧ SeqAt.shaped (.tuple ds) = true ∧ Q (.bl (!ds.any fun z => PyData.eqv z d)) H
theorem oNotInT (hu : X.A.units + 65 < cLine) : OpR X (compareOp .NotIn) (aNotInT X.K) := by
  intro pins s σ H x y v u Q I rx ry h
  obtain ⟨d, ds, hd, he, sd, se, q⟩ := h
  obtain ⟨as, r1⟩ := Dp.reads I d x v hd rx
  obtain ⟨bs, r2⟩ := Dp.reads I (.tuple ds) y u he ry
  exact SeqAt.notIn_tuple_reads r2 r1 (SeqAt.canLay_of_shaped se) (SeqAt.canLay_of_shaped sd) (PyProof.Rows.room_in_shaped sd hu) ⟨.bl _, H, I, rfl, q⟩
/-- a < b < c < d -/
def tChain3 (r r' r'' : R2) (ta tb tc td : TE) : TE := fun σ H Q => ta σ H fun x H1 => tb σ H1 fun y H2 => r x y H2 fun z H3 => ∃ k, z = .bl k ∧
  (if k = true then tc σ H3 fun w H4 => r' y w H4 fun z' H5 => ∃ k', z' = .bl k' ∧ (if k' = true then td σ H5 fun w' H6 => r'' w w' H6 Q else Q (.bl false) H5) else Q (.bl false) H3)
theorem pe_chain3 {a b c d : Expr} {ta tb tc td : TE} {pos : Pos} {op op' op'' : CmpOp} {r r' r'' : R2} (ho : OpR X (compareOp op) r) (ho' : OpR X (compareOp op') r') (ho'' : OpR X (compareOp op'') r'') (ha : PE X a ta) (hb : PE X b tb) (hc : PE X c tc) (hd : PE X d td)
    (hm : lastMarks [op, op', op''] [b, c, d] = false := by with_unfolding_all rfl) : PE X (.Compare a [op, op', op''] [b, c, d] pos) (tChain3 r r' r'' ta tb tc td) := by
  refine ⟨fun pins s σ H Q I h => ?_⟩
  refine PyProof.Rows.Compare_chain (thn (ha.run pins s σ H _ I h) fun v s1 ⟨x, H1, I1, r1, q1⟩ => PyProof.Rows.chain_link (thn (hb.run pins s1 σ H1 _ I1 q1) fun u s2 ⟨y, H2, I2, r2, q2⟩ =>
    thn (ho pins s2 σ H2 x y v u _ I2 r1 r2 q2) fun e s3 ⟨z, H3, I3, r3, k, e1, q3⟩ => ?_)) hm
  subst e1
  cases r3
  refine wpAny_truthy_bool ?_
  cases k with
  | false => exact PyProof.Rows.ite_ff ⟨.bl false, H3, I3, rfl, q3⟩
  | true =>
    refine PyProof.Rows.ite_tt (PyProof.Rows.chain_link (thn (hc.run pins s3 σ H3 _ I3 q3) fun w' s4 ⟨z', H4, I4, r4, q4⟩ => thn (ho' pins s4 σ H4 y z' u w' _ I4 r2 r4 q4) fun e2 s5 ⟨z2, H5, I5, r5, k2, e3, q5⟩ => ?_))
    subst e3
    cases r5
    refine wpAny_truthy_bool ?_
    cases k2 with
    | false => exact PyProof.Rows.ite_ff ⟨.bl false, H5, I5, rfl, q5⟩
    | true => exact PyProof.Rows.ite_tt (PyProof.Rows.chain_last (thn (hd.run pins s5 σ H5 _ I5 q5) fun w2 s6 ⟨z3, H6, I6, r6, q6⟩ => ho'' pins s6 σ H6 z' z3 w' w2 Q I6 r4 r6 q6))
theorem pt_chain3 {a b c d : Expr} {ta tb tc td : TE} {pos : Pos} {op op' op'' : CmpOp} {r r' r'' : R2} (ho : OpR X (compareOp op) r) (ho' : OpR X (compareOp op') r') (ho'' : OpR X (compareOp op'') r'') (ha : PE X a ta) (hb : PE X b tb) (hc : PE X c tc) (hd : PE X d td)
    (hm : lastMarks [op, op', op''] [b, c, d] = false := by with_unfolding_all rfl) : PT X (.Compare a [op, op', op''] [b, c, d] pos) (tTest (tChain3 r r' r'' ta tb tc td)) := by
  refine ⟨fun pins s σ H Q I h => ?_⟩
  refine PyProof.Rows.isTrue_chain (thn (ha.run pins s σ H _ I h) fun v s1 ⟨x, H1, I1, r1, q1⟩ => PyProof.Rows.test_link (thn (hb.run pins s1 σ H1 _ I1 q1) fun u s2 ⟨y, H2, I2, r2, q2⟩ =>
    thn (ho pins s2 σ H2 x y v u _ I2 r1 r2 q2) fun e s3 ⟨z, H3, I3, r3, k, e1, q3⟩ => ?_)) hm
  subst e1
  cases r3
  refine wpAny_truthy_bool ?_
  cases k with
  | false =>
    obtain ⟨k', e', q'⟩ := q3
    cases e'
    exact PyProof.Rows.ite_ff ⟨H3, I3, q'⟩
  | true =>
    refine PyProof.Rows.ite_tt (PyProof.Rows.test_link (thn (hc.run pins s3 σ H3 _ I3 q3) fun w' s4 ⟨z', H4, I4, r4, q4⟩ => thn (ho' pins s4 σ H4 y z' u w' _ I4 r2 r4 q4) fun e2 s5 ⟨z2, H5, I5, r5, k2, e3, q5⟩ => ?_))
    subst e3
    cases r5
    refine wpAny_truthy_bool ?_
    cases k2 with
    | false =>
      obtain ⟨k', e', q'⟩ := q5
      cases e'
      exact PyProof.Rows.ite_ff ⟨H5, I5, q'⟩
    | true =>
      refine PyProof.Rows.ite_tt (PyProof.Rows.test_last (thn (hd.run pins s5 σ H5 _ I5 q5) fun w2 s6 ⟨z3, H6, I6, r6, q6⟩ => thn (ho'' pins s6 σ H6 z' z3 w' w2 _ I6 r4 r6 q6) fun d' s7 ⟨z4, H7, I7, r7, k3, e4, q7⟩ => ?_))
      subst e4
      cases r7
      exact wpAny_truthy_bool ⟨H7, I7, q7⟩
theorem pt_val' {e : Expr} {t : TE} (h : PE X e t) (he : ∀ whole, isTrue e X.env whole = (do let v ← whole; standAt e.pos; holding [v] (truthy v)) := by intro _; rfl) : PT X e (tB t) := pt_val h he
end
/-! ### what evaluates to what -/
def Ev (te : TE) (G : Ctx) (t : Ent) : Prop := ∀ B σ F H, At B G σ F H → ∀ Q : VK, (∀ v F' H', Gr F H F' H' → t.ok F' v → Q v H') → te σ H Q
def EvT (tt : TT) (G : Ctx) (b : Bool) : Prop := ∀ B σ F H, At B G σ F H → ∀ Q : Bool → Hp → Prop, (∀ F' H', Gr F H F' H' → Q b H') → tt σ H Q
/-- some truth value -/
def EvTX (tt : TT) (G : Ctx) : Prop := ∀ B σ F H, At B G σ F H → ∀ Q : Bool → Hp → Prop, (∀ b F' H', Gr F H F' H' → Q b H') → tt σ H Q
def EvA (ta : TA) (G : Ctx) (es : List Ent) : Prop := ∀ B σ F H, At B G σ F H → ∀ Q : List V → Hp → Prop, (∀ vs F' H', Gr F H F' H' → Oks F' vs es → Q vs H') → ta σ H Q
/-- a new list, not yet told to stand for good -/
def EvO {α : Type} (te : TE) (G : Ctx) (A : Ty α) (xs : List α) : Prop := ∀ B σ F H, At B G σ F H → ∀ Q : VK, (∀ p vs F' H', Gr F H F' H' → H p = none → F' p = none → H' p = some (.lst vs) → Paired (fun v x => A.rel F' v x) vs xs → Q (.ref p) H') → te σ H Q
def Go (B : Bs) (G : Ctx) (P : L2.St → Hp → Prop) : Prop := ∀ σ F H, At B G σ F H → P σ H
theorem papp {α β : Type} {R : α → β → Prop} : ∀ {xs xs' : List α} {ys ys' : List β}, Paired R xs ys → Paired R xs' ys' → Paired R (xs ++ xs') (ys ++ ys')
  | _, _, _, _, .nil, h => h
  | _, _, _, _, .cons r t, h => .cons r (papp t h)
section
variable {G : Ctx} {ta tb tc td te : TE} {t u : TT} {α β γ δ : Type} {A : Ty α} {n m : Nat} {x y z : Int} {K : PySem.W.Frag}
theorem en_ok {A : Ty α} {F : Hp} {v : V} {x : α} : (A.en x).ok F v = A.rel F v x := rfl
theorem ev_var {i : Nat} {t : Ent} (h : G.g[i]? = some (some t)) : Ev (tVar i) G t := fun B σ F H a Q q =>
  let ⟨v, e, r⟩ := a.env i t h
  ⟨v, e, q v F H (Gr.refl a.r.fh) r⟩
theorem ev_int {i : Int} (h : bd n i) : Ev (tC (.int i)) G ((tI n).en i) := fun B σ F H a Q q => q _ F H (Gr.refl a.r.fh) ⟨rfl, h⟩
theorem ev_int64 {i : Int} (h : bd 64 i) : Ev (tC (.int i)) G ((tI 64).en i) := ev_int h
theorem ev_bl {b : Bool} : Ev (tC (.bl b)) G (tBl.en b) := fun B σ F H a Q q => q _ F H (Gr.refl a.r.fh) rfl
theorem ev_str {s : Str} : Ev (tC (.str s)) G (tStr.en s) := fun B σ F H a Q q => q _ F H (Gr.refl a.r.fh) rfl
theorem ev_non : Ev (tC .non) G (tNon.en ()) := fun B σ F H a Q q => q _ F H (Gr.refl a.r.fh) rfl
theorem ev_const {v : V} {t : Ent} (h : ∀ F, t.ok F v) : Ev (tC v) G t := fun B σ F H a Q q => q _ F H (Gr.refl a.r.fh) (h F)
theorem Ev.sub {te : TE} {t t' : Ent} (h : Ev te G t) (s : ∀ F v, t.ok F v → t'.ok F v) : Ev te G t' := fun B σ F H a Q q => h B σ F H a Q fun v F' H' g r => q v F' H' g (s F' v r)
theorem ev_le (h : Ev te G ((tI n).en x)) (hm : n ≤ m) : Ev te G ((tI m).en x) := h.sub fun _ _ r => ⟨r.1, bd_mono hm r.2⟩
theorem ev_is {A : Ty α} {x y : α} (h : Ev te G (A.en x)) (e : x = y) : Ev te G (A.en y) := e ▸ h
theorem ev_fin (h : Ev te G ((tI n).en x)) (hm : n ≤ m) (e : x = y) : Ev te G ((tI m).en y) := e ▸ ev_le h hm
theorem ev_finZ {P : Int → Prop} (h : Ev te G ((tI n).en x)) (e : x = y) (p : bd n x → P y) : Ev te G ((tZ P).en y) := by
  subst e; exact h.sub fun _ _ r => ⟨r.1, p r.2⟩
theorem ev_ex {A : Ty α} {P : α → Prop} {x : α} (h : Ev te G (A.en x)) (p : P x) : Ev te G ((tEx A P).en ()) := h.sub fun _ _ r => ⟨x, r, p⟩
/-! numbers -/
theorem ev_op2 {r : R2} {t1 t2 t3 : Ent} (ha : Ev ta G t1) (hb : Ev tb G t2) (hr : ∀ F H v w Q, t1.ok F v → t2.ok F w → (∀ z, t3.ok F z → Q z H) → r v w H Q) : Ev (tOp r ta tb) G t3 := fun B σ F H a Q q =>
  ha B σ F H a _ fun v F1 H1 g1 r1 => hb B σ F1 H1 (a.grow g1) _ fun w F2 H2 g2 r2 => hr F2 H2 v w Q (t1.mono g2.f r1) r2 fun z r3 => q z F2 H2 (g1.trans g2) r3
theorem ev_add (ha : Ev ta G ((tI n).en x)) (hb : Ev tb G ((tI m).en y)) : Ev (tOp aAdd ta tb) G ((tI (max n m + 1)).en (x + y)) :=
  ev_op2 ha hb fun _ _ _ _ _ r1 r2 q => ⟨x, y, r1.1, r2.1, q _ ⟨rfl, bd_add r1.2 r2.2⟩⟩
theorem ev_sub (ha : Ev ta G ((tI n).en x)) (hb : Ev tb G ((tI m).en y)) : Ev (tOp aSub ta tb) G ((tI (max n m + 1)).en (x - y)) :=
  ev_op2 ha hb fun _ _ _ _ _ r1 r2 q => ⟨x, y, r1.1, r2.1, q _ ⟨rfl, bd_sub r1.2 r2.2⟩⟩
theorem ev_mul (ha : Ev ta G ((tI n).en x)) (hb : Ev tb G ((tI m).en y)) (hl : n + m ≤ 900000) : Ev (tOp aMul ta tb) G ((tI (n + m)).en (x * y)) :=
  ev_op2 ha hb fun _ _ _ _ _ r1 r2 q => ⟨x, y, r1.1, r2.1, .inl (wide_mul (bd_pos r1.2) (bd_pos r2.2) (by omega) (by omega) (by omega)), q _ ⟨rfl, bd_mul r1.2 r2.2⟩⟩
theorem bd_64 {n : Nat} {x : Int} (h : bd n x) (hn : n ≤ 64) : -(2 ^ 64) < x ∧ x < 2 ^ 64 := by
  have h1 : bd 64 x := bd_mono hn h
  unfold bd at h1
  have : ((2 ^ 64 : Nat) : Int) = 2 ^ 64 := by decide
  omega
/-- a factor of at most 64 bits, the other one of any size -/
theorem ev_mulS (ha : Ev ta G ((tI n).en x)) (hb : Ev tb G ((tI m).en y)) (hl : m ≤ 64) : Ev (tOp aMul ta tb) G ((tI (n + m)).en (x * y)) :=
  ev_op2 ha hb fun _ _ _ _ _ r1 r2 q => ⟨x, y, r1.1, r2.1, .inr (.inr (bd_64 r2.2 hl)), q _ ⟨rfl, bd_mul r1.2 r2.2⟩⟩
theorem ev_mulS' (ha : Ev ta G ((tI n).en x)) (hb : Ev tb G ((tI m).en y)) (hl : n ≤ 64) : Ev (tOp aMul ta tb) G ((tI (n + m)).en (x * y)) :=
  ev_op2 ha hb fun _ _ _ _ _ r1 r2 q => ⟨x, y, r1.1, r2.1, .inr (.inl (bd_64 r1.2 hl)), q _ ⟨rfl, bd_mul r1.2 r2.2⟩⟩
theorem ev_div (ha : Ev ta G ((tI n).en x)) (hb : Ev tb G ((tI m).en y)) (h0 : 0 < y) (hl : m ≤ 8000) : Ev (tOp aDiv ta tb) G ((tI n).en (x / y)) :=
  ev_op2 ha hb fun _ _ _ _ _ r1 r2 q => ⟨x, y, r1.1, r2.1, wide_div h0 (bd_pos r2.2) (by omega) (by omega), q _ ⟨rfl, bd_div r1.2 h0⟩⟩
theorem ev_mod (ha : Ev ta G ((tI n).en x)) (hb : Ev tb G ((tI m).en y)) (h0 : 0 < y) : Ev (tOp aMod ta tb) G ((tI m).en (x % y)) :=
  ev_op2 ha hb fun _ _ _ _ _ r1 r2 q => ⟨x, y, r1.1, r2.1, h0, q _ ⟨rfl, bd_le r2.2 (by have := Int.emod_nonneg x (show y ≠ 0 by omega); omega) (Int.le_of_lt (Int.emod_lt_of_pos x h0))⟩⟩
theorem ev_shr (ha : Ev ta G ((tI n).en x)) (hb : Ev tb G ((tI m).en y)) (h0 : 0 ≤ y) : Ev (tOp aShr ta tb) G ((tI n).en (x / 2 ^ y.toNat)) :=
  ev_op2 ha hb fun _ _ _ _ _ r1 r2 q => ⟨x, y, r1.1, r2.1, h0, q _ ⟨rfl, bd_div r1.2 (Int.pow_pos (by decide))⟩⟩
theorem bd_one_shl (k : Nat) : bd (k + 1) ((1 : Int) * 2 ^ k) := by
  unfold bd
  rw [Int.one_mul, Int.natAbs_pow, Nat.pow_succ]
  have : 0 < 2 ^ k := Nat.two_pow_pos k
  show 2 ^ k < 2 ^ k * 2
  omega
/-- 1 << y -/
theorem ev_shl1 (hb : Ev tb G ((tI m).en y)) (h0 : 0 ≤ y) (h1 : y ≤ 100000) : Ev (tOp aShl (tC (.int 1)) tb) G ((tI (y.toNat + 1)).en (2 ^ y.toNat)) :=
  ev_op2 (ev_int (n := 1) (by decide)) hb fun _ _ _ _ _ r1 r2 q => ⟨1, y, r1.1, r2.1, ⟨h0, by omega, by decide⟩, q _ ⟨by show V.int (1 * 2 ^ y.toNat) = _; rw [Int.one_mul], by have := bd_one_shl y.toNat; rw [Int.one_mul] at this; exact this⟩⟩
theorem ev_sq (ha : Ev ta G ((tI n).en x)) (hl : n ≤ 400000) : Ev (tOp aPow ta (tC (.int 2))) G ((tI (n + n)).en (x * x)) :=
  ev_op2 ha (ev_int (n := 2) (by decide)) fun _ _ _ _ _ r1 r2 q => ⟨x, 2, r1.1, r2.1, ⟨rfl, by have := PyProof.Rows.intBits_le r1.2; omega⟩, q _ ⟨by
    show V.int (x ^ (2 : Int).toNat) = V.int (x * x)
    rw [show (2 : Int).toNat = 2 from rfl, Int.pow_succ, Int.pow_succ, Int.pow_zero, Int.one_mul], bd_mul r1.2 r1.2⟩⟩
theorem ev_neg (ha : Ev ta G ((tI n).en x)) : Ev (tUn aNeg ta) G ((tI n).en (-x)) := fun B σ F H a Q q =>
  ha B σ F H a _ fun v F1 H1 g1 r1 => ⟨x, r1.1, q _ F1 H1 g1 ⟨rfl, bd_neg r1.2⟩⟩
/-! comparisons -/
theorem ev_lt (ha : Ev ta G ((tI n).en x)) (hb : Ev tb G ((tI m).en y)) : Ev (tOp aLt ta tb) G (tBl.en (decide (x < y))) := ev_op2 ha hb fun _ _ _ _ _ r1 r2 q => ⟨x, y, r1.1, r2.1, q _ rfl⟩
theorem ev_lec (ha : Ev ta G ((tI n).en x)) (hb : Ev tb G ((tI m).en y)) : Ev (tOp aLe ta tb) G (tBl.en (decide (x ≤ y))) := ev_op2 ha hb fun _ _ _ _ _ r1 r2 q => ⟨x, y, r1.1, r2.1, q _ rfl⟩
theorem ev_gt (ha : Ev ta G ((tI n).en x)) (hb : Ev tb G ((tI m).en y)) : Ev (tOp aGt ta tb) G (tBl.en (decide (y < x))) := ev_op2 ha hb fun _ _ _ _ _ r1 r2 q => ⟨x, y, r1.1, r2.1, q _ rfl⟩
theorem ev_ge (ha : Ev ta G ((tI n).en x)) (hb : Ev tb G ((tI m).en y)) : Ev (tOp aGe ta tb) G (tBl.en (decide (y ≤ x))) := ev_op2 ha hb fun _ _ _ _ _ r1 r2 q => ⟨x, y, r1.1, r2.1, q _ rfl⟩
theorem ev_eqI (ha : Ev ta G ((tI n).en x)) (hb : Ev tb G ((tI m).en y)) : Ev (tOp aEq ta tb) G (tBl.en (decide (x = y))) := ev_op2 ha hb fun _ H v w Q r1 r2 q => by
  rw [r1.1, r2.1]
  exact ⟨rfl, q _ (by show V.bl (decide (V.int x = V.int y)) = V.bl (decide (x = y)); congr 1; simp)⟩
theorem ev_neI (ha : Ev ta G ((tI n).en x)) (hb : Ev tb G ((tI m).en y)) : Ev (tOp aNe ta tb) G (tBl.en (!decide (x = y))) := ev_op2 ha hb fun _ H v w Q r1 r2 q => by
  rw [r1.1, r2.1]
  exact ⟨rfl, q _ (by show V.bl (!decide (V.int x = V.int y)) = V.bl (!decide (x = y)); congr 2; simp)⟩
theorem ev_eqS {x y : Str} (ha : Ev ta G (tStr.en x)) (hb : Ev tb G (tStr.en y)) : Ev (tOp aEq ta tb) G (tBl.en (decide (x = y))) := ev_op2 ha hb fun _ H v w Q r1 r2 q => by
  have e1 : v = .str x := r1
  have e2 : w = .str y := r2
  rw [e1, e2]
  exact ⟨rfl, q _ (by show V.bl (decide (V.str x = V.str y)) = V.bl (decide (x = y)); congr 1; simp)⟩
theorem ev_neS {x y : Str} (ha : Ev ta G (tStr.en x)) (hb : Ev tb G (tStr.en y)) : Ev (tOp aNe ta tb) G (tBl.en (!decide (x = y))) := ev_op2 ha hb fun _ H v w Q r1 r2 q => by
  have e1 : v = .str x := r1
  have e2 : w = .str y := r2
  rw [e1, e2]
  exact ⟨rfl, q _ (by show V.bl (!decide (V.str x = V.str y)) = V.bl (!decide (x = y)); congr 2; simp)⟩
theorem ev_notB {x y : Bool} (ha : Ev ta G (tBl.en x)) (hb : Ev tb G (tBl.en y)) : Ev (tOp aNotB ta tb) G (tBl.en (!decide (x = y))) := ev_op2 ha hb fun _ H v w Q r1 r2 q => by
  have e1 : v = .bl x := r1
  have e2 : w = .bl y := r2
  exact ⟨x, y, e1, e2, q _ rfl⟩
theorem ev_notN {A : Ty α} {o : Option α} (ha : Ev ta G ((tOpt A).en o)) : Ev (tOp aNotN ta (tC .non)) G (tBl.en o.isSome) := ev_op2 ha ev_non fun F H v w Q r1 r2 q => by
  refine ⟨r2, q _ ?_⟩
  show V.bl (!decide (v = .non)) = V.bl o.isSome
  cases o with
  | none =>
    have e : v = .non := r1
    rw [e]; rfl
  | some y =>
    have e : v ≠ .non := r1.1
    rw [decide_eq_false e]; rfl
/-- a < b < c, both outcomes known -/
theorem ev_chain {r r' : R2} {t1 t2 t3 : Ent} {b1 b2 : Bool} (ha : Ev ta G t1) (hb : Ev tb G t2) (hc : Ev tc G t3)
    (h1 : ∀ F H v w Q, t1.ok F v → t2.ok F w → Q (.bl b1) H → r v w H Q) (h2 : ∀ F H v w Q, t2.ok F v → t3.ok F w → Q (.bl b2) H → r' v w H Q) : Ev (tChain r r' ta tb tc) G (tBl.en (b1 && b2)) := fun B σ F H a Q q =>
  ha B σ F H a _ fun v F1 H1 g1 r1 => hb B σ F1 H1 (a.grow g1) _ fun w F2 H2 g2 r2 => h1 F2 H2 v w _ (t1.mono g2.f r1) r2 ⟨b1, rfl, by
    cases b1 with
    | false => rw [if_neg (by decide)]; exact q _ F2 H2 (g1.trans g2) rfl
    | true =>
      rw [if_pos rfl]
      exact hc B σ F2 H2 ((a.grow g1).grow g2) _ fun z F3 H3 g3 r3 => h2 F3 H3 w z _ (t2.mono g3.f r2) r3 (q _ F3 H3 ((g1.trans g2).trans g3) rfl)⟩
theorem ev_chain3 {r r' r'' : R2} {t1 t2 t3 t4 : Ent} {b1 b2 b3 : Bool} (ha : Ev ta G t1) (hb : Ev tb G t2) (hc : Ev tc G t3) (hd : Ev td G t4)
    (h1 : ∀ F H v w Q, t1.ok F v → t2.ok F w → Q (.bl b1) H → r v w H Q) (h2 : ∀ F H v w Q, t2.ok F v → t3.ok F w → Q (.bl b2) H → r' v w H Q) (h3 : ∀ F H v w Q, t3.ok F v → t4.ok F w → Q (.bl b3) H → r'' v w H Q) : Ev (tChain3 r r' r'' ta tb tc td) G (tBl.en (b1 && (b2 && b3))) := fun B σ F H a Q q =>
  ha B σ F H a _ fun v F1 H1 g1 r1 => hb B σ F1 H1 (a.grow g1) _ fun w F2 H2 g2 r2 => h1 F2 H2 v w _ (t1.mono g2.f r1) r2 ⟨b1, rfl, by
    cases b1 with
    | false => rw [if_neg (by decide)]; exact q _ F2 H2 (g1.trans g2) rfl
    | true =>
      rw [if_pos rfl]
      refine hc B σ F2 H2 ((a.grow g1).grow g2) _ fun z F3 H3 g3 r3 => h2 F3 H3 w z _ (t2.mono g3.f r2) r3 ⟨b2, rfl, ?_⟩
      cases b2 with
      | false => rw [if_neg (by decide)]; exact q _ F3 H3 ((g1.trans g2).trans g3) rfl
      | true =>
        rw [if_pos rfl]
        exact hd B σ F3 H3 (((a.grow g1).grow g2).grow g3) _ fun z' F4 H4 g4 r4 => h3 F4 H4 z z' _ (t3.mono g4.f r3) r4 (q _ F4 H4 (((g1.trans g2).trans g3).trans g4) rfl)⟩
theorem rq_le {F : Hp} (H : Hp) (v w : V) (Q : VK) (r1 : ((tI n).en x).ok F v) (r2 : ((tI m).en y).ok F w) (q : Q (.bl (decide (x ≤ y))) H) : aLe v w H Q := ⟨x, y, r1.1, r2.1, q⟩
theorem rq_lt {F : Hp} (H : Hp) (v w : V) (Q : VK) (r1 : ((tI n).en x).ok F v) (r2 : ((tI m).en y).ok F w) (q : Q (.bl (decide (x < y))) H) : aLt v w H Q := ⟨x, y, r1.1, r2.1, q⟩
/-! tests -/
theorem et_test {b : Bool} (h : Ev te G (tBl.en b)) : EvT (tTest te) G b := fun B σ F H a Q q => h B σ F H a _ fun v F1 H1 g r => ⟨b, r, q F1 H1 g⟩
theorem et_B {b : Bool} (h : Ev te G (tBl.en b)) : EvT (tB te) G b := fun B σ F H a Q q => h B σ F H a _ fun v F1 H1 g r => ⟨b, r, q F1 H1 g⟩
theorem et_and {a b : Bool} (h1 : EvT t G a) (h2 : a = true → EvT u G b) : EvT (tAnd t u) G (a && b) := fun B σ F H at' Q q => h1 B σ F H at' _ fun F1 H1 g => by
  cases a with
  | true => exact h2 rfl B σ F1 H1 (at'.grow g) Q fun F2 H2 g2 => q F2 H2 (g.trans g2)
  | false => exact q F1 H1 g
theorem et_or {a b : Bool} (h1 : EvT t G a) (h2 : a = false → EvT u G b) : EvT (tOr t u) G (a || b) := fun B σ F H at' Q q => h1 B σ F H at' _ fun F1 H1 g => by
  cases a with
  | true => exact q F1 H1 g
  | false => exact h2 rfl B σ F1 H1 (at'.grow g) Q fun F2 H2 g2 => q F2 H2 (g.trans g2)
theorem et_not {a : Bool} (h1 : EvT t G a) : EvT (tNot t) G (!a) := fun B σ F H at' Q q => h1 B σ F H at' _ fun F1 H1 g => q F1 H1 g
theorem et_is {a b : Bool} (h : EvT t G a) (e : a = b) : EvT t G b := e ▸ h
theorem EvT.anyB {b : Bool} (h : EvT t G b) : EvTX t G := fun B σ F H a Q q => h B σ F H a Q fun F1 H1 g => q b F1 H1 g
theorem etx_or (h1 : EvTX t G) (h2 : EvTX u G) : EvTX (tOr t u) G := fun B σ F H a Q q => h1 B σ F H a _ fun b F1 H1 g => by
  cases b with
  | true => exact q true F1 H1 g
  | false => exact h2 B σ F1 H1 (a.grow g) Q fun b F2 H2 g2 => q b F2 H2 (g.trans g2)
theorem ev_andV {a b : Bool} (h1 : Ev ta G (tBl.en a)) (h2 : a = true → Ev tb G (tBl.en b)) : Ev (tAndV ta tb) G (tBl.en (a && b)) := fun B σ F H at' Q q => h1 B σ F H at' _ fun v F1 H1 g r => ⟨a, r, by
  cases a with
  | true => exact h2 rfl B σ F1 H1 (at'.grow g) Q fun v F2 H2 g2 r => q v F2 H2 (g.trans g2) r
  | false => exact q _ F1 H1 g rfl⟩
theorem ev_orV {a b : Bool} (h1 : Ev ta G (tBl.en a)) (h2 : a = false → Ev tb G (tBl.en b)) : Ev (tOrV ta tb) G (tBl.en (a || b)) := fun B σ F H at' Q q => h1 B σ F H at' _ fun v F1 H1 g r => ⟨a, r, by
  cases a with
  | true => exact q _ F1 H1 g rfl
  | false => exact h2 rfl B σ F1 H1 (at'.grow g) Q fun v F2 H2 g2 r => q v F2 H2 (g.trans g2) r⟩
theorem ev_notV {a : Bool} (h1 : Ev ta G (tBl.en a)) : Ev (tNotV ta) G (tBl.en (!a)) := fun B σ F H at' Q q => h1 B σ F H at' _ fun v F1 H1 g r => ⟨a, r, q _ F1 H1 g rfl⟩
theorem ev_if {b : Bool} {e1 : Ent} (h : EvT t G b) (h1 : b = true → Ev ta G e1) (h2 : b = false → Ev tb G e1) : Ev (tIf t ta tb) G e1 := fun B σ F H a Q q => h B σ F H a _ fun F1 H1 g => by
  cases b with
  | true => exact h1 rfl B σ F1 H1 (a.grow g) Q fun v F2 H2 g2 r => q v F2 H2 (g.trans g2) r
  | false => exact h2 rfl B σ F1 H1 (a.grow g) Q fun v F2 H2 g2 r => q v F2 H2 (g.trans g2) r
theorem ev_ifI {b : Bool} (h : EvT t G b) (h1 : b = true → Ev ta G ((tI n).en x)) (h2 : b = false → Ev tb G ((tI n).en y)) : Ev (tIf t ta tb) G ((tI n).en (if b = true then x else y)) :=
  ev_if h (fun e => by subst e; exact h1 rfl) (fun e => by subst e; exact h2 rfl)
theorem ev_ifX {e1 : Ent} (h : EvTX t G) (h1 : Ev ta G e1) (h2 : Ev tb G e1) : Ev (tIf t ta tb) G e1 := fun B σ F H a Q q => h B σ F H a _ fun b F1 H1 g => by
  cases b with
  | true => exact h1 B σ F1 H1 (a.grow g) Q fun v F2 H2 g2 r => q v F2 H2 (g.trans g2) r
  | false => exact h2 B σ F1 H1 (a.grow g) Q fun v F2 H2 g2 r => q v F2 H2 (g.trans g2) r
/-! lists of arguments, displays -/
theorem ea_nil : EvA tNil G [] := fun B σ F H a Q q => q _ F H (Gr.refl a.r.fh) .nil
theorem ea_cons {tr : TA} {e1 : Ent} {es : List Ent} (h : Ev ta G e1) (hr : EvA tr G es) : EvA (tCons ta tr) G (e1 :: es) := fun B σ F H a Q q =>
  h B σ F H a _ fun v F1 H1 g1 r1 => hr B σ F1 H1 (a.grow g1) _ fun vs F2 H2 g2 r2 => q _ F2 H2 (g1.trans g2) (.cons (e1.mono g2.f r1) r2)
theorem ev_tup {ar : TA} {X : Type} {es : X → List Ent} {x : X} (h : EvA ar G (es x)) (hl : (es x).length ≤ 100 := by exact Nat.le_of_ble_eq_true rfl) : Ev (tTup ar) G ((yTup K es).en x) := fun B σ F H a Q q =>
  h B σ F H a _ fun vs F1 H1 g r => ⟨by rw [r.length]; exact Nat.le_trans hl (by decide), fun p hp => q _ (upd F1 p (.tup vs)) _ (g.trans (Gr.new g.s hp)) ⟨p, vs, rfl, SqT.of upd_same, r.mono (Gr.new g.s hp).f⟩⟩
theorem eo_lst {ar : TA} {xs : List α} (h : EvA ar G (xs.map fun x => A.en x)) (hl : xs.length ≤ 100 := by exact Nat.le_of_ble_eq_true rfl) : EvO (tLst ar) G A xs := fun B σ F H a Q q =>
  h B σ F H a _ fun vs F1 H1 g r => ⟨by rw [r.length, List.length_map]; exact Nat.le_trans hl (by decide), fun p hp => q p vs F1 _ (g.trans (Gr.own g.s hp)) (none_back g.h hp) (none_back g.s hp) upd_same (pmapR (R := fun v (t : Ent) => t.ok F1 v) (f := fun x => A.en x) r)⟩
/-- a new list stands for good -/
theorem EvO.ev {xs : List α} (h : EvO te G A xs) : Ev te G ((yLstL K A).en xs) := fun B σ F H a Q q =>
  h B σ F H a _ fun p vs F1 H1 g hp hp' e r => q _ _ _ (g.freeze hp hp' e) ⟨p, vs, rfl, SqL.of upd_same, pmapR' (Paired.mapP r fun _ x z => A.mono (same_new hp') z)⟩
theorem EvO.sub {B' : Ty α} {xs : List α} (h : EvO te G A xs) (s : ∀ F v x, A.rel F v x → B'.rel F v x) : EvO te G B' xs := fun B σ F H a Q q =>
  h B σ F H a _ fun p vs F1 H1 g hp hp' e r => q p vs F1 H1 g hp hp' e (Paired.mapP r fun v x z => s F1 v x z)
theorem eo_cat {xs ys : List α} (ha : EvO ta G A xs) (hb : EvO tb G A ys) (hl : xs.length + ys.length ≤ 10000) : EvO (tOp aCat ta tb) G A (xs ++ ys) := fun B σ F H a Q q =>
  ha B σ F H a _ fun p vs F1 H1 g1 hp hp' e1 r1 => by
    have g1' := g1.freeze hp hp' e1
    refine hb B σ _ H1 (a.grow g1') _ fun p2 ws F2 H2 g2 hp2 hp2' e2 r2 => ?_
    have l1 := r1.length
    have l2 := r2.length
    exact ⟨p, p2, vs, ws, rfl, rfl, g2.h p _ e1, e2, Nat.le_trans (by omega) (show (10000 : Nat) ≤ sizeLine by decide), fun l hl => q l _ F2 _ ((g1'.trans g2).trans (Gr.own g2.s hl)) (none_back (g1'.trans g2).h hl) (none_back g2.s hl) upd_same
      (papp (Paired.mapP r1 fun _ x z => A.mono ((same_new hp').trans g2.f) z) r2)⟩
/-! items -/
theorem atI_i {xs : List V} {i : Int} {v : V} (h0 : 0 ≤ i) (h : xs[i.toNat]? = some v) : atI xs i = some v := by
  have e : i = ((i.toNat : Nat) : Int) := by omega
  rw [e]; exact atI_nat h
theorem ev_ixT {es : γ → List Ent} {p : γ} {e1 : Ent} (ha : Ev ta G ((yTup K es).en p)) (hb : Ev tb G ((tI n).en y)) (h0 : 0 ≤ y) (h : (es p)[y.toNat]? = some e1) : Ev (tOp (rIx K) ta tb) G e1 := fun B σ F H a Q q =>
  ha B σ F H a _ fun v F1 H1 g1 r1 => hb B σ F1 H1 (a.grow g1) _ fun w F2 H2 g2 r2 => by
    obtain ⟨p', vs, e, hs, r⟩ := ((yTup K es).en p).mono g2.f r1
    obtain ⟨u, eu, ru⟩ := pget r h
    exact .inr (.inl ⟨p', vs, y, u, e, r2.1, sameT g2.s hs, atI_i h0 eu, q u F2 H2 (g1.trans g2) ru⟩)
theorem ev_ixL {es : γ → List Ent} {p : γ} {e1 : Ent} (ha : Ev ta G ((yLst K es).en p)) (hb : Ev tb G ((tI n).en y)) (h0 : 0 ≤ y) (h : (es p)[y.toNat]? = some e1) : Ev (tOp (rIx K) ta tb) G e1 := fun B σ F H a Q q =>
  ha B σ F H a _ fun v F1 H1 g1 r1 => hb B σ F1 H1 (a.grow g1) _ fun w F2 H2 g2 r2 => by
    obtain ⟨p', vs, e, hs, r⟩ := ((yLst K es).en p).mono g2.f r1
    obtain ⟨u, eu, ru⟩ := pget r h
    exact .inl ⟨p', vs, y, u, e, r2.1, sameL g2.s hs, atI_i h0 eu, q u F2 H2 (g1.trans g2) ru⟩
/-- a written index -/
theorem ev_ixTc {es : γ → List Ent} {p : γ} {i : Int} {e1 : Ent} (ha : Ev ta G ((yTup K es).en p)) (h : (es p)[i.toNat]? = some e1) (h0 : 0 ≤ i := by decide) (h1 : bd 64 i := by decide) : Ev (tOp (rIx K) ta (tC (.int i))) G e1 := ev_ixT ha (ev_int h1) h0 h
theorem ev_ixLc {es : γ → List Ent} {p : γ} {i : Int} {e1 : Ent} (ha : Ev ta G ((yLst K es).en p)) (h : (es p)[i.toNat]? = some e1) (h0 : 0 ≤ i := by decide) (h1 : bd 64 i := by decide) : Ev (tOp (rIx K) ta (tC (.int i))) G e1 := ev_ixL ha (ev_int h1) h0 h
theorem map_getD [Inhabited α] {xs : List α} {A : Ty α} {i : Nat} (h : i < xs.length) : (xs.map fun x => A.en x)[i]? = some (A.en (xs.getD i default)) := by
  rw [List.getElem?_map, List.getElem?_eq_getElem h, List.getD_eq_getElem?_getD, List.getElem?_eq_getElem h]; rfl
/-- the i-th of many alike -/
theorem ev_atT [Inhabited α] {xs : List α} {i : Nat} (ha : Ev ta G ((yTupL K A).en xs)) (hb : Ev tb G ((tI n).en (i : Int))) (h : i < xs.length) : Ev (tOp (rIx K) ta tb) G (A.en (xs.getD i default)) := ev_ixT ha hb (Int.natCast_nonneg i) (by rw [Int.toNat_natCast]; exact map_getD h)
theorem ev_atL [Inhabited α] {xs : List α} {i : Nat} (ha : Ev ta G ((yLstL K A).en xs)) (hb : Ev tb G ((tI n).en (i : Int))) (h : i < xs.length) : Ev (tOp (rIx K) ta tb) G (A.en (xs.getD i default)) := ev_ixL ha hb (Int.natCast_nonneg i) (by rw [Int.toNat_natCast]; exact map_getD h)
/-! fields -/
theorem plook {F : Hp} {f : Str} {e1 : Ent} : ∀ {gs : List (Str × V)} {fs : List (Str × Ent)}, Paired (fun (p : Str × V) (q : Str × Ent) => p.1 = q.1 ∧ q.2.ok F p.2) gs fs → fs.lookup f = some e1 → ∃ v, gs.lookup f = some v ∧ e1.ok F v
  | _, _, .nil, h => nomatch h
  | _, _, .cons (a := a) (b := b) ⟨e, r⟩ t, h => by
    obtain ⟨a1, a2⟩ := a
    obtain ⟨b1, b2⟩ := b
    have e' : a1 = b1 := e
    subst e'
    rw [List.lookup_cons] at h ⊢
    cases z : f == a1 with
    | true =>
      rw [z] at h
      have e3 : b2 = e1 := Option.some.inj h
      exact ⟨a2, rfl, by rw [← e3]; exact r⟩
    | false =>
      rw [z] at h
      exact plook t h
theorem plook0 {F : Hp} {f : Str} : ∀ {gs : List (Str × V)} {fs : List (Str × Ent)}, Paired (fun (p : Str × V) (q : Str × Ent) => p.1 = q.1 ∧ q.2.ok F p.2) gs fs → fs.lookup f = none → gs.lookup f = none
  | _, _, .nil, h => rfl
  | _, _, .cons (a := a) (b := b) ⟨e, r⟩ t, h => by
    obtain ⟨a1, a2⟩ := a
    obtain ⟨b1, b2⟩ := b
    have e' : a1 = b1 := e
    subst e'
    rw [List.lookup_cons] at h ⊢
    cases z : f == a1 with
    | true => rw [z] at h; cases h
    | false => rw [z] at h; exact plook0 t h
theorem ev_fld {C f : Str} {es : γ → List (Str × Ent)} {P : γ → Prop} {p : γ} {e1 : Ent} (ha : Ev ta G ((yObj K C es P).en p)) (c : Cls K (He.ga K C)) (na : NoAttr K (He.ga K C) f) (h : (es p).lookup f = some e1) : Ev (tFld K ta f) G e1 := fun B σ F H a Q q =>
  ha B σ F H a _ fun v F1 H1 g1 r1 => by
    obtain ⟨x, dx, gs, e, hx, r, _⟩ := r1
    obtain ⟨u, eu, ru⟩ := plook r h
    exact ⟨x, _, dx, gs, u, e, g1.s x _ hx, c, na, eu, q u F1 H1 g1 ru⟩
/-- a field of something that is only known to be of its class -/
theorem ev_fldX {C f : Str} {es : γ → List (Str × Ent)} {P P2 : γ → Prop} {e1 : Ent} (ha : Ev ta G ((tEx (yObj K C es P) P2).en ())) (c : Cls K (He.ga K C)) (na : NoAttr K (He.ga K C) f) (h : ∀ p, P p → P2 p → ∃ e2, (es p).lookup f = some e2 ∧ ∀ F v, e2.ok F v → e1.ok F v) : Ev (tFld K ta f) G e1 := fun B σ F H a Q q =>
  ha B σ F H a _ fun v F1 H1 g1 r1 => by
    obtain ⟨p, ⟨x, dx, gs, e, hx, r, hp⟩, hp2⟩ := r1
    obtain ⟨e2, h2, h3⟩ := h p hp hp2
    obtain ⟨u, eu, ru⟩ := plook r h2
    exact ⟨x, _, dx, gs, u, e, g1.s x _ hx, c, na, eu, q u F1 H1 g1 (h3 F1 u ru)⟩
end
end Aw
namespace Aw
open PySem PySem.Spec L2
/-! ### the slots -/
def muFree (i : Nat) : Mu → Prop
  | .no => True
  | .lst k _ _ => k ≠ i
  | .obj k _ _ => k ≠ i
abbrev Ctx.set (G : Ctx) (i : Nat) (t : Ent) : Ctx := ⟨G.g.set i (some t), G.m⟩
theorem env_set {g : List (Option Ent)} {σ : L2.St} {F : Hp} (len : σ.length = g.length) (env : ∀ (i : Nat) (t : Ent), g[i]? = some (some t) → ∃ v, σ[i]? = some (some v) ∧ t.ok F v) {i : Nat} {t : Ent} {v : V} (r : t.ok F v) :
    ∀ (j : Nat) (u : Ent), (g.set i (some t))[j]? = some (some u) → ∃ w, (σ.set i (some v))[j]? = some (some w) ∧ u.ok F w := fun j u h => by
  by_cases e : i = j
  · subst e
    by_cases hl : i < g.length
    · rw [List.getElem?_set_self hl] at h
      have e2 : t = u := Option.some.inj (Option.some.inj h)
      exact ⟨v, by rw [List.getElem?_set_self (by omega)], by rw [← e2]; exact r⟩
    · rw [List.getElem?_eq_none (by rw [List.length_set]; omega)] at h; cases h
  · rw [List.getElem?_set_ne e] at h ⊢
    exact env j u h
theorem MuOk.set {B : Bs} {F H : Hp} {σ : L2.St} {m : Mu} {i : Nat} {v : V} (h : MuOk B F H σ m) (hm : muFree i m) : MuOk B F H (σ.set i (some v)) m := by
  cases m with
  | no => trivial
  | lst k A xs =>
    obtain ⟨a, vs, e, r⟩ := h
    exact ⟨a, vs, by rw [List.getElem?_set_ne (Ne.symm hm)]; exact e, r⟩
  | obj k C fs =>
    obtain ⟨a, dx, gs, e, r⟩ := h
    exact ⟨a, dx, gs, by rw [List.getElem?_set_ne (Ne.symm hm)]; exact e, r⟩
theorem At.set {B : Bs} {G : Ctx} {σ : L2.St} {F H : Hp} {i : Nat} {t : Ent} {v : V} (a : At B G σ F H) (r : t.ok F v) (hm : muFree i G.m) : At B (G.set i t) (σ.set i (some v)) F H :=
  ⟨a.r, by rw [List.length_set, List.length_set]; exact a.len, env_set a.len a.env r, a.mu.set hm⟩
def LeC (G G' : Ctx) : Prop := ∀ B σ F H, At B G σ F H → At B G' σ F H
theorem LeC.refl (G : Ctx) : LeC G G := fun _ _ _ _ h => h
/-- slots forgotten -/
inductive WkG : List (Option Ent) → List (Option Ent) → Prop
  | nil : WkG [] []
  | keep {a : Option Ent} {l l' : List (Option Ent)} : WkG l l' → WkG (a :: l) (a :: l')
  | drop {a : Option Ent} {l l' : List (Option Ent)} : WkG l l' → WkG (a :: l) (none :: l')
theorem WkG.len {l l' : List (Option Ent)} (h : WkG l l') : l.length = l'.length := by
  induction h with
  | nil => rfl
  | keep _ ih => simp [ih]
  | drop _ ih => simp [ih]
theorem WkG.at {l l' : List (Option Ent)} (h : WkG l l') : ∀ {i : Nat} {t : Ent}, l'[i]? = some (some t) → l[i]? = some (some t) := by
  induction h with
  | nil => intro i t e; simp at e
  | keep _ ih =>
    intro i t e
    cases i with
    | zero => exact e
    | succ i => exact ih (by simpa using e)
  | drop _ ih =>
    intro i t e
    cases i with
    | zero => simp at e
    | succ i => exact ih (by simpa using e)
theorem WkG.rfl' : ∀ {l : List (Option Ent)}, WkG l l
  | [] => .nil
  | _ :: _ => .keep WkG.rfl'
theorem LeC.wk {g g' : List (Option Ent)} {m : Mu} (h : WkG g g') : LeC ⟨g, m⟩ ⟨g', m⟩ := fun _ _ _ _ a => ⟨a.r, a.len.trans h.len, fun i t e => a.env i t (h.at e), a.mu⟩
theorem LeC.noMu {g : List (Option Ent)} {m : Mu} : LeC ⟨g, m⟩ ⟨g, .no⟩ := fun _ _ _ _ a => ⟨a.r, a.len, a.env, trivial⟩
/-- a slot told by another type -/
theorem LeC.retype {G : Ctx} {i : Nat} {e1 e2 : Ent} (h : G.g[i]? = some (some e1)) (s : ∀ F v, e1.ok F v → e2.ok F v) : LeC G (G.set i e2) := fun B σ F H a => ⟨a.r, by rw [List.length_set]; exact a.len, fun j t q => by
  by_cases z : i = j
  · subst z
    have hl : i < G.g.length := (List.getElem?_eq_some_iff.mp h).1
    rw [List.getElem?_set_self hl] at q
    have e : e2 = t := Option.some.inj (Option.some.inj q)
    obtain ⟨v, ev, r⟩ := a.env i e1 h
    exact ⟨v, ev, by rw [← e]; exact s F v r⟩
  · rw [List.getElem?_set_ne z] at q
    exact a.env j t q, a.mu⟩
theorem LeC.trans {G1 G2 G3 : Ctx} (a : LeC G1 G2) (b : LeC G2 G3) : LeC G1 G3 := fun B σ F H h => b B σ F H (a B σ F H h)
/-! ### statements -/
section
variable {B : Bs} {G : Ctx} {Nx : L2.St → Hp → Prop} {Rt : VK} {Bk Ct : L2.St → Hp → Prop} {P : L2.St → Hp → Prop} {ta tb tc td te : TE} {t u : TT} {ts us : TS} {α β γ δ : Type} {A : Ty α} {n m : Nat} {x y z : Int} {K : PySem.W.Frag}
theorem Go.le {G' : Ctx} (h : Go B G' P) (l : LeC G G') : Go B G P := fun σ F H a => h σ F H (l B σ F H a)
theorem go_asg {i : Nat} {e1 : Ent} (h : Ev te G e1) (k : Go B (G.set i e1) Nx) (hm : muFree i G.m := by first | exact True.intro | (show (_ : Nat) ≠ _; decide)) : Go B G (tAsg te (gName i) ⟨Nx, Rt, Bk, Ct⟩) := fun σ F H a =>
  h B σ F H a _ fun v F1 H1 g r => k _ F1 H1 ((a.grow g).set r hm)
theorem go_asgX {i : Nat} {Q : α → Prop} (h : Ev te G ((tEx A Q).en ())) (k : ∀ x, Q x → Go B (G.set i (A.en x)) Nx) (hm : muFree i G.m := by first | exact True.intro | (show (_ : Nat) ≠ _; decide)) : Go B G (tAsg te (gName i) ⟨Nx, Rt, Bk, Ct⟩) := fun σ F H a =>
  h B σ F H a _ fun v F1 H1 g ⟨x, r, q⟩ => k x q _ F1 H1 ((a.grow g).set r hm)
/-- a new list that may be changed -/
theorem go_asgO {g : List (Option Ent)} {i : Nat} {xs : List α} (h : EvO te ⟨g, .no⟩ A xs) (k : Go B ⟨g.set i none, .lst i A xs⟩ Nx) (hi : i < g.length := by exact Nat.le_of_ble_eq_true rfl) : Go B ⟨g, .no⟩ (tAsg te (gName i) ⟨Nx, Rt, Bk, Ct⟩) := fun σ F H a =>
  h B σ F H a _ fun p vs F1 H1 gr hp hp' e r => by
    have a1 := a.grow gr
    refine k _ F1 H1 ⟨a1.r, by rw [List.length_set, List.length_set]; exact a1.len, fun j t q => ?_, p, vs, List.getElem?_set_self (by rw [a1.len]; exact hi), ?_, hp', e, r⟩
    · by_cases z : i = j
      · subst z; rw [List.getElem?_set_self hi] at q; cases q
      · rw [List.getElem?_set_ne z] at q ⊢
        exact a1.env j t q
    · cases z : B.H0 p with
      | none => rfl
      | some o => exact absurd hp (a.r.ht p (by rw [z]; exact fun q => nomatch q))
/-- what a slot's type tells of its value -/
theorem go_fact {i : Nat} {e1 : Ent} {Φ : Prop} (h : G.g[i]? = some (some e1)) (hp : ∀ F v, e1.ok F v → Φ) (k : Φ → Go B G P) : Go B G P := fun σ F H a => by
  obtain ⟨v, _, r⟩ := a.env i e1 h
  exact k (hp F v r) σ F H a
theorem ev_fact {i : Nat} {e1 e2 : Ent} {Φ : Prop} (h : G.g[i]? = some (some e1)) (hp : ∀ F v, e1.ok F v → Φ) (k : Φ → Ev te G e2) : Ev te G e2 := fun B σ F H a Q q => by
  obtain ⟨v, _, r⟩ := a.env i e1 h
  exact k (hp F v r) B σ F H a Q q
theorem tP_bd {n : Nat} {q : Int × Int × Int × Int} (F : Hp) (v : V) (h : ((tP K n).en q).ok F v) : bd n q.1 ∧ bd n q.2.1 ∧ bd n q.2.2.1 ∧ bd n q.2.2.2 ∧ 0 < q.2.2.2 := by
  obtain ⟨a, vs, _, _, r⟩ := h
  cases r with
  | cons r1 r => cases r with
    | cons r2 r => cases r with
      | cons r3 r => cases r with
        | cons r4 r => exact ⟨r1.2, r2.2, r3.2, r4.2.1, r4.2.2⟩
theorem tV_bd {n : Nat} {q : Int × Int × Int} (F : Hp) (v : V) (h : ((tV K n).en q).ok F v) : bd n q.1 ∧ bd n q.2.1 ∧ bd n q.2.2 := by
  obtain ⟨a, vs, _, _, r⟩ := h
  cases r with
  | cons r1 r => cases r with
    | cons r2 r => cases r with
      | cons r3 r => exact ⟨r1.2, r2.2, r3.2⟩
theorem tI_bd {n : Nat} {x : Int} (F : Hp) (v : V) (h : ((tI n).en x).ok F v) : bd n x := h.2
theorem tI_le {x : Int} (h : n ≤ m) (F : Hp) (v : V) (r : ((tI n).en x).ok F v) : ((tI m).en x).ok F v := ⟨r.1, bd_mono h r.2⟩
theorem tV_le {q : Int × Int × Int} (h : n ≤ m) (F : Hp) (v : V) (r : ((tV K n).en q).ok F v) : ((tV K m).en q).ok F v := by
  obtain ⟨a, vs, ea, hs, r⟩ := r
  refine ⟨a, vs, ea, hs, ?_⟩
  cases r with
  | cons r1 r => cases r with
    | cons r2 r => cases r with
      | cons r3 r => cases r with
        | nil => exact .cons ⟨r1.1, bd_mono h r1.2⟩ (.cons ⟨r2.1, bd_mono h r2.2⟩ (.cons ⟨r3.1, bd_mono h r3.2⟩ .nil))
/-- a slot that holds something of A -/
theorem go_ex {i : Nat} {A : Ty α} {Q : α → Prop} (h : G.g[i]? = some (some ((tEx A Q).en ()))) (k : ∀ x, Q x → Go B (G.set i (A.en x)) P) : Go B G P := fun σ F H a => by
  obtain ⟨v, ev, x, r, q⟩ := a.env i _ h
  refine k x q σ F H ⟨a.r, by rw [List.length_set]; exact a.len, fun j t e => ?_, a.mu⟩
  by_cases z : i = j
  · subst z
    have hl : i < G.g.length := (List.getElem?_eq_some_iff.mp h).1
    rw [List.getElem?_set_self hl] at e
    have e2 : A.en x = t := Option.some.inj (Option.some.inj e)
    exact ⟨v, ev, by rw [← e2]; exact r⟩
  · rw [List.getElem?_set_ne z] at e
    exact a.env j t e
abbrev tAB : Ty Unit := tEx tBl fun _ => True
theorem ev_AB {b : Bool} (h : Ev te G (tBl.en b)) : Ev te G (tAB.en ()) := ev_ex h trivial
theorem etx_B (h : Ev te G (tAB.en ())) : EvTX (tB te) G := fun B σ F H a Q q => h B σ F H a _ fun v F1 H1 g ⟨b, r, _⟩ => ⟨b, r, q b F1 H1 g⟩
theorem ev_notX (h : Ev te G (tAB.en ())) : Ev (tNotV te) G (tAB.en ()) := fun B σ F H a Q q => h B σ F H a _ fun v F1 H1 g ⟨b, r, _⟩ => ⟨b, r, q _ F1 H1 g ⟨!b, rfl, trivial⟩⟩
theorem ev_andX (h1 : Ev ta G (tAB.en ())) (h2 : Ev tb G (tAB.en ())) : Ev (tAndV ta tb) G (tAB.en ()) := fun B σ F H a Q q => h1 B σ F H a _ fun v F1 H1 g ⟨b, r, _⟩ => ⟨b, r, by
  cases b with
  | true => exact h2 B σ F1 H1 (a.grow g) Q fun v F2 H2 g2 r2 => q v F2 H2 (g.trans g2) r2
  | false => exact q _ F1 H1 g ⟨false, rfl, trivial⟩⟩
theorem ev_noneO {A : Ty α} : Ev (tC .non) G ((tOpt A).en none) := fun B σ F H a Q q => q _ F H (Gr.refl a.r.fh) rfl
theorem ev_someO {A : Ty α} {x : α} (hA : ∀ F v, A.rel F v x → v ≠ .non) (h : Ev te G (A.en x)) : Ev te G ((tOpt A).en (some x)) := h.sub fun F v r => ⟨hA F v r, r⟩
theorem opt_some {A : Ty α} {x : α} (F : Hp) (v : V) (r : ((tOpt A).en (some x)).ok F v) : (A.en x).ok F v := r.2
theorem obj_ne {C : Str} {es : γ → List (Str × Ent)} {P : γ → Prop} {p : γ} (F : Hp) (v : V) (r : (yObj K C es P).rel F v p) : v ≠ .non := by
  obtain ⟨a, dx, gs, e, _⟩ := r
  rw [e]; exact fun q => nomatch q
theorem go_drop {e1 : Ent} (h : Ev te G e1) (k : Go B G Nx) : Go B G (tDrop te ⟨Nx, Rt, Bk, Ct⟩) := fun σ F H a => h B σ F H a _ fun v F1 H1 g r => k σ F1 H1 (a.grow g)
theorem go_next (k : Go B G Nx) : Go B G (tNext ⟨Nx, Rt, Bk, Ct⟩) := k
theorem go_seq (k : Go B G (ts ⟨us ⟨Nx, Rt, Bk, Ct⟩, Rt, Bk, Ct⟩)) : Go B G (tSeq ts us ⟨Nx, Rt, Bk, Ct⟩) := k
theorem go_if {b : Bool} (h : EvT t G b) (h1 : b = true → Go B G (ts ⟨Nx, Rt, Bk, Ct⟩)) (h2 : b = false → Go B G (us ⟨Nx, Rt, Bk, Ct⟩)) : Go B G (tIfS t ts us ⟨Nx, Rt, Bk, Ct⟩) := fun σ F H a => h B σ F H a _ fun F1 H1 g => by
  cases b with
  | true => exact h1 rfl σ F1 H1 (a.grow g)
  | false => exact h2 rfl σ F1 H1 (a.grow g)
theorem go_ifX (h : EvTX t G) (h1 : Go B G (ts ⟨Nx, Rt, Bk, Ct⟩)) (h2 : Go B G (us ⟨Nx, Rt, Bk, Ct⟩)) : Go B G (tIfS t ts us ⟨Nx, Rt, Bk, Ct⟩) := fun σ F H a => h B σ F H a _ fun b F1 H1 g => by
  cases b with
  | true => exact h1 σ F1 H1 (a.grow g)
  | false => exact h2 σ F1 H1 (a.grow g)
/-- if c: x = e else: x = e' -/
theorem go_ifJ {i : Nat} {b : Bool} {A : Ty α} {x y : α} (h : EvT t G b) (h1 : b = true → Ev ta G (A.en x)) (h2 : b = false → Ev tb G (A.en y)) (k : Go B (G.set i (A.en (if b = true then x else y))) (us ⟨Nx, Rt, Bk, Ct⟩)) (hm : muFree i G.m := by first | exact True.intro | (show (_ : Nat) ≠ _; decide)) :
    Go B G (tSeq (tIfS t (tAsg ta (gName i)) (tAsg tb (gName i))) us ⟨Nx, Rt, Bk, Ct⟩) := fun σ F H a => h B σ F H a _ fun F1 H1 g => by
  cases b with
  | true => exact h1 rfl B σ F1 H1 (a.grow g) _ fun v F2 H2 g2 r => k _ F2 H2 (((a.grow g).grow g2).set r hm)
  | false => exact h2 rfl B σ F1 H1 (a.grow g) _ fun v F2 H2 g2 r => k _ F2 H2 (((a.grow g).grow g2).set r hm)
/-- a test that is known to fail: what stands within is never reached -/
theorem go_ifF (h : EvT t G false) (h2 : Go B G (us ⟨Nx, Rt, Bk, Ct⟩)) : Go B G (tIfS t ts us ⟨Nx, Rt, Bk, Ct⟩) := go_if h (fun e => nomatch e) fun _ => h2
theorem go_ifT (h : EvT t G true) (h2 : Go B G (ts ⟨Nx, Rt, Bk, Ct⟩)) : Go B G (tIfS t ts us ⟨Nx, Rt, Bk, Ct⟩) := go_if h (fun _ => h2) fun e => nomatch e
/-- what a def promises to hand back -/
def Back (B : Bs) (Rt : VK) (t : Ent) : Prop := ∀ v F H, Reach B F H → t.ok F v → Rt v H
theorem go_ret {e1 : Ent} (h : Ev te G e1) (k : Back B Rt e1) : Go B G (tRet te ⟨Nx, Rt, Bk, Ct⟩) := fun σ F H a => h B σ F H a _ fun v F1 H1 g r => k v F1 H1 (a.grow g).r r
/-- the list stands for good -/
theorem go_freeze {g : List (Option Ent)} {i : Nat} {xs : List α} (k : Go B ⟨g.set i (some ((yLstL K A).en xs)), .no⟩ P) : Go B ⟨g, .lst i A xs⟩ P := fun σ F H a => by
  obtain ⟨p, vs, e, h0, hF, hH, r⟩ := a.mu
  refine k σ (upd F p (.lst vs)) H ⟨⟨a.r.ff.trans (same_new hF), fun b o q => ?_, fun b h1 h2 => ?_, a.r.hh, a.r.ht⟩, by rw [List.length_set]; exact a.len, fun j t q => ?_, trivial⟩
  · by_cases z : b = p
    · subst z; rw [upd_same] at q; rw [hH]; exact q
    · rw [upd_ne z] at q; exact a.r.fh b o q
  · rw [upd_ne (fun z => h2 (by rw [z]; exact h0))]; exact a.r.n b h1 h2
  · by_cases z : i = j
    · subst z
      by_cases hl : i < g.length
      · rw [List.getElem?_set_self hl] at q
        have e2 : (yLstL K A).en xs = t := Option.some.inj (Option.some.inj q)
        refine ⟨_, e, ?_⟩
        rw [← e2]
        exact ⟨p, vs, rfl, SqL.of upd_same, pmapR' (Paired.mapP r fun _ x z => A.mono (same_new hF) z)⟩
      · rw [List.getElem?_eq_none (by rw [List.length_set]; omega)] at q; cases q
    · rw [List.getElem?_set_ne z] at q
      obtain ⟨v, e1, r1⟩ := a.env j t q
      exact ⟨v, e1, t.mono (same_new hF) r1⟩
theorem At.wr {g : List (Option Ent)} {i : Nat} {σ : L2.St} {F H : Hp} {xs : List α} {p : Addr} {ws : List V} {ys : List α} (a : At B ⟨g, .lst i A xs⟩ σ F H) (e : σ[i]? = some (some (.ref p))) (h0 : B.H0 p = none) (hF : F p = none) (hH : H p ≠ none) (r : Paired (fun v x => A.rel F v x) ws ys) :
    At B ⟨g, .lst i A ys⟩ σ F (upd H p (.lst ws)) :=
  ⟨⟨a.r.ff, same_over a.r.fh hF, a.r.n, fun b o h1 h2 => by rw [upd_ne (ne_of_none h2 h0)]; exact a.r.hh b o h1 h2, fun b h => by
    by_cases z : b = p
    · subst z; rw [upd_same]; exact fun q => nomatch q
    · rw [upd_ne z]; exact a.r.ht b h⟩, a.len, a.env, p, ws, e, h0, hF, upd_same, r⟩
/-- row.append(e) -/
theorem go_append {g : List (Option Ent)} {i : Nat} {xs : List α} {x : α} (h : Ev te ⟨g, .lst i A xs⟩ (A.en x)) (hl : xs.length < 10000) (k : Go B ⟨g, .lst i A (xs ++ [x])⟩ Nx) : Go B ⟨g, .lst i A xs⟩ (tDrop (tBM K "list" rAppend (tVar i) (tCons te tNil)) ⟨Nx, Rt, Bk, Ct⟩) := fun σ F H a => by
  obtain ⟨p, vs, e, h0, hF, hH, r⟩ := a.mu
  refine ⟨_, e, Or.inl ⟨rfl, _, Or.inl (Or.inl hH)⟩, h B σ F H a _ fun v F1 H1 g1 r1 => ?_⟩
  have a1 := a.grow g1
  obtain ⟨p', vs', e', h0', hF', hH', r'⟩ := a1.mu
  rw [e] at e'
  cases e'
  refine ⟨p, vs', v, rfl, rfl, hH', ?_, k σ F1 _ (a1.wr e h0' hF' (by rw [hH']; exact fun q => nomatch q) (papp r' (.cons r1 .nil)))⟩
  rw [r'.length]
  exact Nat.lt_of_lt_of_le hl (by decide)
theorem go_appendX {g : List (Option Ent)} {i : Nat} {xs : List α} {Q : α → Prop} (h : Ev te ⟨g, .lst i A xs⟩ ((tEx A Q).en ())) (hl : xs.length < 10000) (k : ∀ x, Q x → Go B ⟨g, .lst i A (xs ++ [x])⟩ Nx) : Go B ⟨g, .lst i A xs⟩ (tDrop (tBM K "list" rAppend (tVar i) (tCons te tNil)) ⟨Nx, Rt, Bk, Ct⟩) := fun σ F H a => by
  obtain ⟨p, vs, e, h0, hF, hH, r⟩ := a.mu
  refine ⟨_, e, Or.inl ⟨rfl, _, Or.inl (Or.inl hH)⟩, h B σ F H a _ fun v F1 H1 g1 ⟨x, r1, qx⟩ => ?_⟩
  have a1 := a.grow g1
  obtain ⟨p', vs', e', h0', hF', hH', r'⟩ := a1.mu
  rw [e] at e'
  cases e'
  refine ⟨p, vs', v, rfl, rfl, hH', ?_, k x qx σ F1 _ (a1.wr e h0' hF' (by rw [hH']; exact fun q => nomatch q) (papp r' (.cons r1 .nil)))⟩
  rw [r'.length]
  exact Nat.lt_of_lt_of_le hl (by decide)
/-- out[y] = e -/
theorem go_setItem {g : List (Option Ent)} {i : Nat} {xs : List α} {x : α} {y : Int} (h : Ev te ⟨g, .lst i A xs⟩ (A.en x)) (hy : Ev tb ⟨g, .lst i A xs⟩ ((tI n).en y)) (h0 : 0 ≤ y) (h1 : y < xs.length) (k : Go B ⟨g, .lst i A (xs.set y.toNat x)⟩ Nx) :
    Go B ⟨g, .lst i A xs⟩ (tAsg te (gSub (tVar i) tb rSetL) ⟨Nx, Rt, Bk, Ct⟩) := fun σ F H a =>
  h B σ F H a _ fun v F1 H1 g1 r1 => by
    have a1 := a.grow g1
    obtain ⟨p, vs, e, h0', hF, hH, r⟩ := a1.mu
    refine ⟨_, e, hy B σ F1 H1 a1 _ fun w F2 H2 g2 r2 => ?_⟩
    have a2 := a1.grow g2
    obtain ⟨p', vs', e', h0'', hF', hH', r'⟩ := a2.mu
    rw [e] at e'
    cases e'
    have hl : y.toNat < vs'.length := by rw [r'.length]; omega
    refine ⟨p, vs', y, y.toNat, rfl, r2.1, hH', ?_, k σ F2 _ (a2.wr e h0'' hF' (by rw [hH']; exact fun q => nomatch q) (pset y.toNat r' (A.mono g2.f r1)))⟩
    unfold ixN
    rw [if_pos h0, if_pos (by omega)]
/-- out[y], while it may be changed -/
theorem ev_mutIx [Inhabited α] {g : List (Option Ent)} {i : Nat} {xs : List α} {y : Int} (hy : Ev tb ⟨g, .lst i A xs⟩ ((tI n).en y)) (h0 : 0 ≤ y) (h1 : y < xs.length) : Ev (tOp (rIx K) (tVar i) tb) ⟨g, .lst i A xs⟩ (A.en (xs.getD y.toNat default)) := fun B σ F H a Q q => by
  obtain ⟨p, vs, e, h0', hF, hH, r⟩ := a.mu
  refine ⟨_, e, hy B σ F H a _ fun w F1 H1 g1 r1 => ?_⟩
  have a1 := a.grow g1
  obtain ⟨p', vs', e', _, hF', hH', r'⟩ := a1.mu
  rw [e] at e'
  cases e'
  have hl : y.toNat < xs.length := by omega
  obtain ⟨v, ev, rv⟩ := pget r' (List.getElem?_eq_getElem hl)
  refine .inl ⟨p, vs', y, v, rfl, r1.1, SqL.of hH', atI_i h0 ev, q v F1 H1 g1 ?_⟩
  show A.rel F1 v _
  rw [List.getD_eq_getElem?_getD, List.getElem?_eq_getElem hl]
  exact rv
theorem ev_mutLen {g : List (Option Ent)} {i : Nat} {xs : List α} (hl : xs.length ≤ 1000000) : Ev (tCB (cLen K) (tCons (tVar i) tNil)) ⟨g, .lst i A xs⟩ ((tI 64).en (xs.length : Int)) := fun B σ F H a Q q => by
  obtain ⟨p, vs, e, h0', hF, hH, r⟩ := a.mu
  refine ⟨_, e, p, vs, rfl, .inl (SqL.of hH), q _ F H (Gr.refl a.r.fh) ⟨by rw [r.length], ?_⟩⟩
  unfold bd
  rw [Int.natAbs_natCast]
  exact Nat.lt_of_le_of_lt hl (by decide)
/-- a, b = e -/
theorem go_tup2 {i j : Nat} {es : γ → List Ent} {p : γ} {e1 e2 : Ent} (h : Ev te G ((yTup K es).en p)) (k : Go B ((G.set i e1).set j e2) Nx) (he : es p = [e1, e2] := by rfl) (hm : muFree i G.m ∧ muFree j G.m := by first | exact ⟨True.intro, True.intro⟩ | (exact ⟨(show (_ : Nat) ≠ _ by decide), (show (_ : Nat) ≠ _ by decide)⟩)) : Go B G (tAsg te (gTup K 2 (gCons (gName i) (gCons (gName j) gNil))) ⟨Nx, Rt, Bk, Ct⟩) := fun σ F H a =>
  h B σ F H a _ fun v F1 H1 g r => by
    obtain ⟨p', vs, e, hs, r⟩ := r
    rw [he] at r
    cases r with
    | cons r1 r =>
      cases r with
      | cons r2 r =>
        cases r
        exact ⟨p', _, e, sameT g.s hs, rfl, _, _, rfl, _, _, rfl, rfl, k _ F1 H1 (((a.grow g).set r1 hm.1).set r2 hm.2)⟩
theorem go_tup3 {i j l : Nat} {es : γ → List Ent} {p : γ} {e1 e2 e3 : Ent} (h : Ev te G ((yTup K es).en p)) (k : Go B (((G.set i e1).set j e2).set l e3) Nx) (he : es p = [e1, e2, e3] := by rfl) (hm : muFree i G.m ∧ muFree j G.m ∧ muFree l G.m := by first | exact ⟨True.intro, True.intro, True.intro⟩ | (exact ⟨(show (_ : Nat) ≠ _ by decide), (show (_ : Nat) ≠ _ by decide), (show (_ : Nat) ≠ _ by decide)⟩)) : Go B G (tAsg te (gTup K 3 (gCons (gName i) (gCons (gName j) (gCons (gName l) gNil)))) ⟨Nx, Rt, Bk, Ct⟩) := fun σ F H a =>
  h B σ F H a _ fun v F1 H1 g r => by
    obtain ⟨p', vs, e, hs, r⟩ := r
    rw [he] at r
    cases r with
    | cons r1 r =>
      cases r with
      | cons r2 r =>
        cases r with
        | cons r3 r =>
          cases r
          exact ⟨p', _, e, sameT g.s hs, rfl, _, _, rfl, _, _, rfl, _, _, rfl, rfl, k _ F1 H1 ((((a.grow g).set r1 hm.1).set r2 hm.2.1).set r3 hm.2.2)⟩
theorem putF_new {f : Str} {v : V} : ∀ {gs : List (Str × V)}, (∀ q ∈ gs, q.1 ≠ f) → putF f v gs = gs ++ [(f, v)]
  | [], _ => rfl
  | (g, x) :: r, h => by
    show (if g = f then (g, v) :: r else (g, x) :: putF f v r) = _
    rw [if_neg (h (g, x) List.mem_cons_self), putF_new fun q hq => h q (List.mem_cons_of_mem _ hq)]
    rfl
theorem pkeys {F : Hp} {f : Str} : ∀ {gs : List (Str × V)} {fs : List (Str × Ent)}, Paired (fun (p : Str × V) (q : Str × Ent) => p.1 = q.1 ∧ q.2.ok F p.2) gs fs → (∀ q ∈ fs, q.1 ≠ f) → ∀ q ∈ gs, q.1 ≠ f
  | _, _, .nil, _, q, hq => nomatch hq
  | _, _, .cons r t, h, q, hq => by
    rcases List.mem_cons.mp hq with e | hq
    · rw [e, r.1]; exact h _ List.mem_cons_self
    · exact pkeys t (fun q hq => h q (List.mem_cons_of_mem _ hq)) q hq
/-- self.f = e, in __init__ -/
theorem go_fld {g : List (Option Ent)} {i : Nat} {C : Addr} {fs : List (Str × Ent)} {f : Str} {e1 : Ent} (c : Cls K C) (na : NoAttr K C f) (h : Ev te ⟨g, .obj i C fs⟩ e1) (hf : fs.all (fun q => !decide (q.1 = f)) = true) (hl : fs.length < 100) (k : Go B ⟨g, .obj i C (fs ++ [(f, e1)])⟩ Nx) :
    Go B ⟨g, .obj i C fs⟩ (sFld K (tVar i) te f ⟨Nx, Rt, Bk, Ct⟩) := fun σ F H a =>
  h B σ F H a _ fun v F1 H1 g1 r1 => by
    have a1 := a.grow g1
    obtain ⟨p, dx, gs, e, h0, hF, hH, r⟩ := a1.mu
    have hk : ∀ q ∈ gs, q.1 ≠ f := pkeys r fun q hq => by
      have := List.all_eq_true.mp hf q hq
      simpa using this
    refine ⟨_, e, p, C, dx, gs, rfl, hH, c, na, by rw [r.length]; omega, k σ F1 _ ⟨⟨a1.r.ff, same_over a1.r.fh hF, a1.r.n, fun b o h1 h2 => ?_, fun b hb => ?_⟩, a1.len, a1.env, p, dx, _, e, h0, hF, upd_same, ?_⟩⟩
    · rw [upd_ne (fun z => h1 (by rw [z]; exact h0))]; exact a1.r.hh b o h1 h2
    · by_cases z : b = p
      · subst z; rw [upd_same]; exact fun q => nomatch q
      · rw [upd_ne z]; exact a1.r.ht b hb
    · rw [putF_new hk]
      exact papp r (.cons ⟨rfl, r1⟩ .nil)
/-! loops -/
def InvS (B : Bs) (P : Ctx → Prop) : L2.St → Hp → Prop := fun σ H => ∃ G F, P G ∧ At B G σ F H
theorem go_inv {P : Ctx → Prop} (G' : Ctx) (h : P G') (l : LeC G G') : Go B G (InvS B P) := fun σ F H a => ⟨G', F, h, l B σ F H a⟩
theorem go_forR1 {N : Nat} {ar : TA} {j : Nat} (inv : Nat → Ctx → Prop) (G0 : Ctx) (h : EvA ar G [(tI n).en (N : Int)]) (hN : N ≤ 1000000) (l0 : LeC G G0) (h0 : inv 0 G0) (hf : ∀ i G', inv i G' → muFree j G'.m)
    (hs : ∀ i G', i < N → inv i G' → Go B (G'.set j ((tI 64).en (i : Int))) (ts ⟨InvS B (inv (i + 1)), Rt, Nx, InvS B (inv (i + 1))⟩))
    (hd : ∀ G', inv N G' → Go B G' Nx) : Go B G (tFor (iRng1 ar) (gName j) ts ⟨Nx, Rt, Bk, Ct⟩) := fun σ F H a =>
  h B σ F H a _ fun vs F1 H1 g r => by
    cases r with
    | cons r1 r =>
      cases r
      refine ⟨(N : Int), by rw [r1.1], by omega, by omega, ?_⟩
      rw [show ((N : Int)).toNat = N from Int.toNat_natCast N]
      refine for_range (fun i => InvS B (inv i)) ⟨G0, F1, h0, l0 _ _ _ _ (a.grow g)⟩ (fun i σ' H' hi ⟨G', F', p, a'⟩ => ?_) fun σ' H' ⟨G', F', p, a'⟩ => hd G' p σ' F' H' a'
      have e0 : (0 : Int) + (i : Int) = (i : Int) := Int.zero_add _
      rw [e0]
      exact hs i G' hi p _ F' H' (a'.set (t := (tI 64).en (i : Int)) ⟨rfl, by unfold bd; rw [Int.natAbs_natCast]; exact Nat.lt_of_lt_of_le hi (Nat.le_trans hN (by decide))⟩ (hf i G' p))
/-- for k in range(N - 1, -1, -1) -/
theorem go_forDown {N : Nat} {ar : TA} {j : Nat} (inv : Nat → Ctx → Prop) (G0 : Ctx) (h : EvA ar G [(tI n).en ((N : Int) - 1), (tI m).en (-1), (tI m).en (-1)]) (hN : N ≤ 1000000) (l0 : LeC G G0) (h0 : inv 0 G0) (hf : ∀ i G', inv i G' → muFree j G'.m)
    (hs : ∀ i G', i < N → inv i G' → Go B (G'.set j ((tI 64).en ((N - 1 - i : Nat) : Int))) (ts ⟨InvS B (inv (i + 1)), Rt, Nx, InvS B (inv (i + 1))⟩))
    (hd : ∀ G', inv N G' → Go B G' Nx) : Go B G (tFor (iRng3 ar) (gName j) ts ⟨Nx, Rt, Bk, Ct⟩) := fun σ F H a =>
  h B σ F H a _ fun vs F1 H1 g r => by
    cases r with
    | cons r1 r =>
      cases r with
      | cons r2 r =>
        cases r with
        | cons r3 r =>
          cases r
          refine ⟨(N : Int) - 1, -1, -1, N, by rw [r1.1, r2.1, r3.1], ?_, ?_⟩
          · have z := RgC.neg (i := (N : Int) - 1) (j := -1) (by omega) (by omega) (by decide) (by decide)
            rw [show ((N : Int) - 1 - -1).toNat = N by omega] at z
            exact z
          · refine for_rangeC (lo := (N : Int) - 1) (c := -1) (n := N) (fun i => InvS B (inv i)) ⟨G0, F1, h0, l0 _ _ _ _ (a.grow g)⟩ (fun i σ' H' hi ⟨G', F', p, a'⟩ => ?_) fun σ' H' ⟨G', F', p, a'⟩ => hd G' p σ' F' H' a'
            have e0 : (N : Int) - 1 + ((i : Nat) : Int) * -1 = ((N - 1 - i : Nat) : Int) := by omega
            rw [e0]
            exact hs i G' hi p _ F' H' (a'.set (t := (tI 64).en ((N - 1 - i : Nat) : Int)) ⟨rfl, by unfold bd; rw [Int.natAbs_natCast]; exact Nat.lt_of_lt_of_le (show N - 1 - i < 1000001 by omega) (by decide)⟩ (hf i G' p))
/-- for k in range(L, L + N) -/
theorem go_forR2 {L N : Nat} {ar : TA} {j : Nat} {hi : Int} (inv : Nat → Ctx → Prop) (G0 : Ctx) (h : EvA ar G [(tI n).en (L : Int), (tI m).en hi]) (hN : (hi - L).toNat = N) (hb : L + N ≤ 1000000 ∧ hi ≤ 1000000 ∧ -1000000 ≤ hi) (l0 : LeC G G0) (h0 : inv 0 G0) (hf : ∀ i G', inv i G' → muFree j G'.m)
    (hs : ∀ i G', i < N → inv i G' → Go B (G'.set j ((tI 64).en ((L + i : Nat) : Int))) (ts ⟨InvS B (inv (i + 1)), Rt, Nx, InvS B (inv (i + 1))⟩))
    (hd : ∀ G', inv N G' → Go B G' Nx) : Go B G (tFor (iRng2 ar) (gName j) ts ⟨Nx, Rt, Bk, Ct⟩) := fun σ F H a =>
  h B σ F H a _ fun vs F1 H1 g r => by
    cases r with
    | cons r1 r =>
      cases r with
      | cons r2 r =>
        cases r
        refine ⟨(L : Int), hi, by rw [r1.1, r2.1], ⟨by omega, by omega, by omega, by omega⟩, ?_⟩
        rw [hN]
        refine for_range (fun i => InvS B (inv i)) ⟨G0, F1, h0, l0 _ _ _ _ (a.grow g)⟩ (fun i σ' H' hi ⟨G', F', p, a'⟩ => ?_) fun σ' H' ⟨G', F', p, a'⟩ => hd G' p σ' F' H' a'
        have e0 : (L : Int) + (i : Int) = ((L + i : Nat) : Int) := by omega
        rw [e0]
        exact hs i G' hi p _ F' H' (a'.set (t := (tI 64).en ((L + i : Nat) : Int)) ⟨rfl, by unfold bd; rw [Int.natAbs_natCast]; exact Nat.lt_of_lt_of_le (show L + i < 1000001 by omega) (by decide)⟩ (hf i G' p))
/-- a later base: the same heap, more that stands for good -/
structure LeB (B1 B : Bs) : Prop where
  r : ∀ F H, Reach B1 F H → Reach B F H
  e : B1.e = B.e
  h : B1.H0 = B.H0
theorem leB_of {B : Bs} {F H : Hp} (a : Reach B F H) : LeB ⟨B.e, F, B.H0⟩ B :=
  ⟨fun F' H' b => ⟨a.ff.trans b.ff, b.fh, fun p h1 h2 => b.n p (a.n p h1 h2) h2, b.hh, b.ht⟩, rfl, rfl⟩
theorem LeB.at {B1 B : Bs} (l : LeB B1 B) {G : Ctx} {σ : L2.St} {F H : Hp} (a : At B1 G σ F H) : At B G σ F H := ⟨l.r F H a.r, a.len, a.env, by
  have m := a.mu
  obtain ⟨g, m'⟩ := G
  cases m' with
  | no => trivial
  | lst i A xs =>
    obtain ⟨p, vs, e, h0, r⟩ := m
    exact ⟨p, vs, e, by rw [← l.h]; exact h0, r⟩
  | obj i C fs =>
    obtain ⟨p, dx, gs, e, h0, r⟩ := m
    exact ⟨p, dx, gs, e, by rw [← l.e]; exact h0, r⟩⟩
theorem LeB.go {B1 B : Bs} (l : LeB B1 B) {G : Ctx} {P : L2.St → Hp → Prop} (h : Go B G P) : Go B1 G P := fun σ F H a => h σ F H (l.at a)
theorem LeB.back {B1 B : Bs} (l : LeB B1 B) {Rt : VK} {t : Ent} (h : Back B Rt t) : Back B1 Rt t := fun v F H r o => h v F H (l.r F H r) o
theorem At.base {B : Bs} {G : Ctx} {σ : L2.St} {F H : Hp} (a : At B G σ F H) : At ⟨B.e, F, B.H0⟩ G σ F H := ⟨⟨Same.refl F, a.r.fh, fun _ h _ => h, a.r.hh, a.r.ht⟩, a.len, a.env, by
  have m := a.mu
  obtain ⟨g, m'⟩ := G
  cases m' with
  | no => trivial
  | lst i A xs => exact m
  | obj i C fs => exact m⟩
theorem go_forL {es : γ → List Ent} {p : γ} {tl : TE} {j : Nat} (inv : Nat → Ctx → Prop) (G0 : Ctx) (h : Ev tl G ((yLst K es).en p)) (l0 : LeC G G0) (h0 : inv 0 G0) (hf : ∀ i G', inv i G' → muFree j G'.m)
    (hs : ∀ B1, LeB B1 B → ∀ i e1 G', (es p)[i]? = some e1 → inv i G' → Go B1 (G'.set j e1) (ts ⟨InvS B1 (inv (i + 1)), Rt, Nx, InvS B1 (inv (i + 1))⟩))
    (hd : ∀ G', inv (es p).length G' → Go B G' Nx) : Go B G (tFor (iList K tl) (gName j) ts ⟨Nx, Rt, Bk, Ct⟩) := fun σ F H a =>
  h B σ F H a _ fun v F1 H1 g r => by
    obtain ⟨q, vs, e, hq, ro⟩ := r
    have a1 := a.grow g
    refine ⟨q, e, ⟨vs, sameL g.s hq⟩, for_list (xs := vs) (fun i => InvS ⟨B.e, F1, B.H0⟩ (inv i)) ⟨G0, F1, h0, (l0 _ _ _ _ a1).base⟩ (fun i σ' H' _ ⟨G', F', _, a'⟩ => sameL (a'.r.ff.trans a'.r.fh) hq) (fun i x σ' H' hx ⟨G', F', pi, a'⟩ => ?_) fun σ' H' ⟨G', F', pi, a'⟩ => hd G' (by rw [← ro.length]; exact pi) σ' F' H' (LeB.at (leB_of a1.r) a')⟩
    obtain ⟨e1, h1, r1⟩ := pgetL ro hx
    exact hs _ (leB_of a1.r) i e1 G' h1 pi _ F' H' (a'.set (e1.mono a'.r.ff r1) (hf i G' pi))
theorem go_forT {es : γ → List Ent} {p : γ} {tl : TE} {j : Nat} (inv : Nat → Ctx → Prop) (G0 : Ctx) (h : Ev tl G ((yTup K es).en p)) (l0 : LeC G G0) (h0 : inv 0 G0) (hf : ∀ i G', inv i G' → muFree j G'.m)
    (hs : ∀ B1, LeB B1 B → ∀ i e1 G', (es p)[i]? = some e1 → inv i G' → Go B1 (G'.set j e1) (ts ⟨InvS B1 (inv (i + 1)), Rt, Nx, InvS B1 (inv (i + 1))⟩))
    (hd : ∀ G', inv (es p).length G' → Go B G' Nx) : Go B G (tFor (iTup K tl) (gName j) ts ⟨Nx, Rt, Bk, Ct⟩) := fun σ F H a =>
  h B σ F H a _ fun v F1 H1 g r => by
    obtain ⟨q, vs, e, hq, ro⟩ := r
    have a1 := a.grow g
    refine ⟨q, e, ⟨vs, sameT g.s hq⟩, for_tup (xs := vs) (fun i => InvS ⟨B.e, F1, B.H0⟩ (inv i)) ⟨G0, F1, h0, (l0 _ _ _ _ a1).base⟩ (fun i σ' H' _ ⟨G', F', _, a'⟩ => sameT (a'.r.ff.trans a'.r.fh) hq) (fun i x σ' H' hx ⟨G', F', pi, a'⟩ => ?_) fun σ' H' ⟨G', F', pi, a'⟩ => hd G' (by rw [← ro.length]; exact pi) σ' F' H' (LeB.at (leB_of a1.r) a')⟩
    obtain ⟨e1, h1, r1⟩ := pgetL ro hx
    exact hs _ (leB_of a1.r) i e1 G' h1 pi _ F' H' (a'.set (e1.mono a'.r.ff r1) (hf i G' pi))
theorem go_forL2 {es : γ → List Ent} {p : γ} {tl : TE} {j l : Nat} {δ : Type} {fs : δ → List Ent} (inv : Nat → Ctx → Prop) (G0 : Ctx) (h : Ev tl G ((yLst K es).en p)) (l0 : LeC G G0) (h0 : inv 0 G0) (hf : ∀ i G', inv i G' → muFree j G'.m ∧ muFree l G'.m)
    (hs : ∀ B1, LeB B1 B → ∀ i e1 G', (es p)[i]? = some e1 → inv i G' → ∃ (w : δ) (u1 u2 : Ent), e1 = (yTup K fs).en w ∧ fs w = [u1, u2] ∧ Go B1 ((G'.set j u1).set l u2) (ts ⟨InvS B1 (inv (i + 1)), Rt, Nx, InvS B1 (inv (i + 1))⟩))
    (hd : ∀ G', inv (es p).length G' → Go B G' Nx) : Go B G (tFor (iList K tl) (gTup K 2 (gCons (gName j) (gCons (gName l) gNil))) ts ⟨Nx, Rt, Bk, Ct⟩) := fun σ F H a =>
  h B σ F H a _ fun v F1 H1 g r => by
    obtain ⟨q, vs, e, hq, ro⟩ := r
    have a1 := a.grow g
    refine ⟨q, e, ⟨vs, sameL g.s hq⟩, for_list (xs := vs) (fun i => InvS ⟨B.e, F1, B.H0⟩ (inv i)) ⟨G0, F1, h0, (l0 _ _ _ _ a1).base⟩ (fun i σ' H' _ ⟨G', F', _, a'⟩ => sameL (a'.r.ff.trans a'.r.fh) hq) (fun i x σ' H' hx ⟨G', F', pi, a'⟩ => ?_) fun σ' H' ⟨G', F', pi, a'⟩ => hd G' (by rw [← ro.length]; exact pi) σ' F' H' (LeB.at (leB_of a1.r) a')⟩
    obtain ⟨e1, h1, r1⟩ := pgetL ro hx
    obtain ⟨w, u1, u2, ew, ef, k⟩ := hs _ (leB_of a1.r) i e1 G' h1 pi
    rw [ew] at r1
    obtain ⟨q2, ws, e2, hq2, r2⟩ := r1
    rw [ef] at r2
    cases r2 with
    | cons s1 r2 =>
      cases r2 with
      | cons s2 r2 =>
        cases r2
        exact ⟨q2, _, e2, sameT (a'.r.ff.trans a'.r.fh) hq2, rfl, _, _, rfl, _, _, rfl, rfl, k _ F' H' ((a'.set (u1.mono a'.r.ff s1) (hf i G' pi).1).set (u2.mono a'.r.ff s2) (hf i G' pi).2)⟩
/-! comprehensions -/
def wipeG (g : List (Option Ent)) : List Nat → List (Option Ent)
  | [] => g
  | v :: vs => (wipeG g vs).set v none
theorem wipeG_len (g : List (Option Ent)) : ∀ vs, (wipeG g vs).length = g.length
  | [] => rfl
  | v :: vs => by unfold wipeG; rw [List.length_set, wipeG_len g vs]
theorem wipe_env {g : List (Option Ent)} {σ : L2.St} {F : Hp} (len : σ.length = g.length) (env : ∀ (i : Nat) (t : Ent), g[i]? = some (some t) → ∃ v, σ[i]? = some (some v) ∧ t.ok F v) : ∀ (vs : List Nat) (i : Nat) (t : Ent), (wipeG g vs)[i]? = some (some t) → ∃ v, (wipe σ vs)[i]? = some (some v) ∧ t.ok F v
  | [], i, t, h => env i t h
  | w :: vs, i, t, h => by
    unfold wipeG at h
    unfold wipe
    by_cases z : w = i
    · subst z
      by_cases hl : w < (wipeG g vs).length
      · rw [List.getElem?_set_self hl] at h; cases h
      · rw [List.getElem?_eq_none (by rw [List.length_set]; omega)] at h; cases h
    · rw [List.getElem?_set_ne z] at h ⊢
      exact wipe_env len env vs i t h
theorem At.wipe {B : Bs} {G : Ctx} {σ : L2.St} {F H : Hp} (a : At B G σ F H) (vs : List Nat) : At B ⟨wipeG G.g vs, .no⟩ (L2.wipe σ vs) F H := ⟨a.r, by rw [wipe_length, wipeG_len]; exact a.len, wipe_env a.len a.env vs, trivial⟩
theorem wipe_get (σ : L2.St) : ∀ (vs : List Nat) (i : Nat), (wipe σ vs)[i]? = if i ∈ vs then (if i < σ.length then some none else none) else σ[i]?
  | [], i => by simp [wipe]
  | w :: vs, i => by
    unfold wipe
    by_cases z : w = i
    · subst z
      rw [if_pos List.mem_cons_self]
      by_cases hl : w < σ.length
      · rw [if_pos hl, List.getElem?_set_self (by rw [wipe_length]; exact hl)]
      · rw [if_neg hl, List.getElem?_eq_none (by rw [List.length_set, wipe_length]; omega)]
    · rw [List.getElem?_set_ne z, wipe_get σ vs i]
      have : (i ∈ w :: vs) ↔ i ∈ vs := by
        rw [List.mem_cons]
        exact ⟨fun h => h.elim (fun e => absurd e.symm z) id, .inr⟩
      simp only [this]
theorem wipe_set {σ : L2.St} {vs : List Nat} {j : Nat} {x : Option V} (h : j ∈ vs) : wipe (σ.set j x) vs = wipe σ vs := by
  refine List.ext_getElem? fun i => ?_
  rw [wipe_get, wipe_get, List.length_set]
  by_cases z : i ∈ vs
  · rw [if_pos z, if_pos z]
  · rw [if_neg z, if_neg z, List.getElem?_set_ne (fun e : j = i => z (e ▸ h))]
theorem wipe_wipe {σ : L2.St} {vs : List Nat} : wipe (wipe σ vs) vs = wipe σ vs := by
  refine List.ext_getElem? fun i => ?_
  rw [wipe_get, wipe_length]
  by_cases z : i ∈ vs
  · rw [if_pos z, wipe_get, if_pos z]
  · rw [if_neg z]
/-- what stands between two turns: the new list at Dl -/
def LcAt (F1 H1 : Hp) (Dl : Addr) (A : Ty α) (ys : List α) (H' : Hp) : Prop := ∃ F' vs, Gr F1 H1 F' H' ∧ F' Dl = none ∧ H' Dl = some (.lst vs) ∧ Paired (fun v x => A.rel F' v x) vs ys
theorem LcAt.start {F1 H1 : Hp} {Dl : Addr} {A : Ty α} (s : Same F1 H1) (h : H1 Dl = none) : LcAt F1 H1 Dl A [] (upd H1 Dl (.lst [])) := ⟨F1, [], Gr.own s h, none_back s h, upd_same, .nil⟩
theorem LcAt.turn {F1 H1 H' : Hp} {Dl : Addr} {A : Ty α} {ys : List α} {y : α} {B : Bs} {G1 : Ctx} {σ2 : L2.St} (p : LcAt F1 H1 Dl A ys H') (hD : H1 Dl = none) (hl : ys.length < 100000)
    (k : ∀ F', Gr F1 H1 F' H' → At B G1 σ2 F' H') (he : Ev te G1 (A.en y)) : te σ2 H' fun w H4 => ∃ acc, H4 Dl = some (.lst acc) ∧ acc.length < sizeLine ∧ LcAt F1 H1 Dl A (ys ++ [y]) (upd H4 Dl (.lst (acc ++ [w]))) := by
  obtain ⟨F', vs, g, f0, h0, r⟩ := p
  refine he B σ2 F' H' (k F' g) _ fun w F2 H2 g2 r2 => ?_
  have f2 : F2 Dl = none := g2.n Dl f0 (by rw [h0]; exact fun q => nomatch q)
  refine ⟨vs, g2.h Dl _ h0, by rw [r.length]; exact Nat.lt_of_lt_of_le hl (by decide), F2, _, ⟨(g.trans g2).f, fun a o q => ?_, same_over g2.s f2, fun a h1 h2 => (g.trans g2).n a h1 h2⟩, f2, upd_same, papp (Paired.mapP r fun _ x z => A.mono g2.f z) (.cons r2 .nil)⟩
  rw [upd_ne (ne_of_none q hD)]
  exact (g.trans g2).h a o q
theorem eo_lcR1 {N : Nat} {ar : TA} {j : Nat} {vs : List Nat} (f : Nat → α) (h : EvA ar G [(tI n).en (N : Int)]) (hN : N ≤ 100000) (hj : j ∈ vs)
    (he : ∀ i, i < N → Ev te ⟨(wipeG G.g vs).set j (some ((tI 64).en (i : Int))), .no⟩ (A.en (f i))) : EvO (tLc (iRng1 ar) (gName j) tYes te vs) G A ((List.range N).map f) := fun B σ F H a Q q =>
  h B σ F H a _ fun ws F1 H1 g r => by
    cases r with
    | cons r1 r =>
      cases r
      refine ⟨(N : Int), by rw [r1.1], by omega, by omega, ?_⟩
      rw [show ((N : Int)).toNat = N from Int.toNat_natCast N]
      have a1 := a.grow g
      intro Dl hD
      refine lc_range (lo := 0) (n := N) (fun i H' => LcAt F1 H1 Dl A ((List.range i).map f) H') (LcAt.start g.s hD) (fun i H' hi p => ?_) (fun H' ⟨F', us, g', f0, h0, r'⟩ => q Dl us F' H' (g.trans g') (none_back g.h hD) f0 h0 r')
      have e0 : (0 : Int) + (i : Int) = (i : Int) := Int.zero_add _
      show L2.wipe ((L2.wipe σ vs).set j (some (.int (0 + (i : Int))))) vs = L2.wipe σ vs ∧ _
      rw [e0]
      refine ⟨(wipe_set hj).trans wipe_wipe, ?_⟩
      have e2 : (List.range (i + 1)).map f = (List.range i).map f ++ [f i] := by rw [List.range_succ, List.map_append]; rfl
      rw [e2]
      exact LcAt.turn p hD (by rw [List.length_map, List.length_range]; omega) (fun F' g' => ((a1.grow g').wipe vs).set (t := (tI 64).en (i : Int)) ⟨rfl, by unfold bd; rw [Int.natAbs_natCast]; exact Nat.lt_of_lt_of_le hi (Nat.le_trans hN (by decide))⟩ trivial) (he i hi)
theorem eo_lcL {δ : Type} {C : Ty δ} {xs : List δ} {tl : TE} {j : Nat} {vs : List Nat} (f : δ → α) (h : Ev tl G ((yLstL K C).en xs)) (hN : xs.length ≤ 100000) (hj : j ∈ vs)
    (he : ∀ x, x ∈ xs → Ev te ⟨(wipeG G.g vs).set j (some (C.en x)), .no⟩ (A.en (f x))) : EvO (tLc (iList K tl) (gName j) tYes te vs) G A (xs.map f) := fun B σ F H a Q q =>
  h B σ F H a _ fun v F1 H1 g r => by
    obtain ⟨p, us, e, hq, ro⟩ := r
    have a1 := a.grow g
    refine ⟨p, e, ⟨us, sameL g.s hq⟩, fun Dl hD => ?_⟩
    have hl : us.length = xs.length := by rw [ro.length, List.length_map]
    refine lc_list (xs := us) (fun i H' => LcAt F1 H1 Dl A ((xs.take i).map f) H') (LcAt.start g.s hD) (fun i H' _ ⟨F', _, g', _⟩ => sameL (g'.f.trans g'.s) hq) (fun i x H' hx p' => ?_) (fun H' ⟨F', ws, g', f0, h0, r'⟩ => q Dl ws F' H' (g.trans g') (none_back g.h hD) f0 h0 (by rw [hl, List.take_length] at r'; exact r'))
    have hi : i < xs.length := by have := (List.getElem?_eq_some_iff.mp hx).1; omega
    obtain ⟨e1, h1, r1⟩ := pgetL ro hx
    rw [List.getElem?_map, List.getElem?_eq_getElem hi] at h1
    have h2 : C.en xs[i] = e1 := Option.some.inj h1
    rw [← h2] at r1
    refine ⟨(wipe_set hj).trans wipe_wipe, ?_⟩
    have e2 : (xs.take (i + 1)).map f = (xs.take i).map f ++ [f xs[i]] := by rw [List.take_add_one, List.getElem?_eq_getElem hi, List.map_append]; rfl
    rw [e2]
    exact LcAt.turn p' hD (by rw [List.length_map, List.length_take]; omega) (fun F' g' => ((a1.grow g').wipe vs).set (t := C.en xs[i]) (C.mono g'.f r1) trivial) (he xs[i] (List.getElem_mem hi))
theorem eo_lcT {δ : Type} {C : Ty δ} {xs : List δ} {tl : TE} {j : Nat} {vs : List Nat} (f : δ → α) (h : Ev tl G ((yTupL K C).en xs)) (hN : xs.length ≤ 100000) (hj : j ∈ vs)
    (he : ∀ x, x ∈ xs → Ev te ⟨(wipeG G.g vs).set j (some (C.en x)), .no⟩ (A.en (f x))) : EvO (tLc (iTup K tl) (gName j) tYes te vs) G A (xs.map f) := fun B σ F H a Q q =>
  h B σ F H a _ fun v F1 H1 g r => by
    obtain ⟨p, us, e, hq, ro⟩ := r
    have a1 := a.grow g
    refine ⟨p, e, ⟨us, sameT g.s hq⟩, fun Dl hD => ?_⟩
    have hl : us.length = xs.length := by rw [ro.length, List.length_map]
    refine lc_tup (xs := us) (fun i H' => LcAt F1 H1 Dl A ((xs.take i).map f) H') (LcAt.start g.s hD) (fun i H' _ ⟨F', _, g', _⟩ => sameT (g'.f.trans g'.s) hq) (fun i x H' hx p' => ?_) (fun H' ⟨F', ws, g', f0, h0, r'⟩ => q Dl ws F' H' (g.trans g') (none_back g.h hD) f0 h0 (by rw [hl, List.take_length] at r'; exact r'))
    have hi : i < xs.length := by have := (List.getElem?_eq_some_iff.mp hx).1; omega
    obtain ⟨e1, h1, r1⟩ := pgetL ro hx
    rw [List.getElem?_map, List.getElem?_eq_getElem hi] at h1
    have h2 : C.en xs[i] = e1 := Option.some.inj h1
    rw [← h2] at r1
    refine ⟨(wipe_set hj).trans wipe_wipe, ?_⟩
    have e2 : (xs.take (i + 1)).map f = (xs.take i).map f ++ [f xs[i]] := by rw [List.take_add_one, List.getElem?_eq_getElem hi, List.map_append]; rfl
    rw [e2]
    exact LcAt.turn p' hD (by rw [List.length_map, List.length_take]; omega) (fun F' g' => ((a1.grow g').wipe vs).set (t := C.en xs[i]) (C.mono g'.f r1) trivial) (he xs[i] (List.getElem_mem hi))
/-- two names for an item that is a pair -/
theorem eo_lcL2 {δ : Type} {fs : δ → List Ent} {xs : List δ} {tl : TE} {j l : Nat} {vs : List Nat} (f : δ → α) (u1 u2 : δ → Ent) (h : Ev tl G ((yLstL K (yTup K fs)).en xs)) (hf : ∀ x, fs x = [u1 x, u2 x]) (hN : xs.length ≤ 100000) (hj : j ∈ vs) (hl' : l ∈ vs)
    (he : ∀ x, x ∈ xs → Ev te ⟨((wipeG G.g vs).set j (some (u1 x))).set l (some (u2 x)), .no⟩ (A.en (f x))) : EvO (tLc (iList K tl) (gTup K 2 (gCons (gName j) (gCons (gName l) gNil))) tYes te vs) G A (xs.map f) := fun B σ F H a Q q =>
  h B σ F H a _ fun v F1 H1 g r => by
    obtain ⟨p, us, e, hq, ro⟩ := r
    have a1 := a.grow g
    refine ⟨p, e, ⟨us, sameL g.s hq⟩, fun Dl hD => ?_⟩
    have hl : us.length = xs.length := by rw [ro.length, List.length_map]
    refine lc_list (xs := us) (fun i H' => LcAt F1 H1 Dl A ((xs.take i).map f) H') (LcAt.start g.s hD) (fun i H' _ ⟨F', _, g', _⟩ => sameL (g'.f.trans g'.s) hq) (fun i x H' hx p' => ?_) (fun H' ⟨F', ws, g', f0, h0, r'⟩ => q Dl ws F' H' (g.trans g') (none_back g.h hD) f0 h0 (by rw [hl, List.take_length] at r'; exact r'))
    have hi : i < xs.length := by have := (List.getElem?_eq_some_iff.mp hx).1; omega
    obtain ⟨e1, h1, r1⟩ := pgetL ro hx
    rw [List.getElem?_map, List.getElem?_eq_getElem hi] at h1
    have h2 : (yTup K fs).en xs[i] = e1 := Option.some.inj h1
    rw [← h2] at r1
    obtain ⟨q2, ws, e2, hq2, r2⟩ := r1
    rw [hf] at r2
    cases r2 with
    | cons s1 r2 =>
      cases r2 with
      | cons s2 r2 =>
        cases r2
        have p2 := p'
        obtain ⟨F'', _, g'', _⟩ := p2
        refine ⟨q2, _, e2, sameT (g''.f.trans g''.s) hq2, rfl, _, _, rfl, _, _, rfl, rfl, ⟨((wipe_set hl').trans (wipe_set hj)).trans wipe_wipe, ?_⟩⟩
        have e2 : (xs.take (i + 1)).map f = (xs.take i).map f ++ [f xs[i]] := by rw [List.take_add_one, List.getElem?_eq_getElem hi, List.map_append]; rfl
        rw [e2]
        exact LcAt.turn p' hD (by rw [List.length_map, List.length_take]; omega) (fun F' g' => (((a1.grow g').wipe vs).set (i := j) (t := u1 xs[i]) ((u1 _).mono g'.f s1) trivial).set (i := l) (t := u2 xs[i]) ((u2 _).mono g'.f s2) trivial) (he xs[i] (List.getElem_mem hi))
end
end Aw
namespace Aw
open PySem PySem.Spec L2
/-! ### promises -/
/-- called with values of A z it hands back R z -/
def spFam {ι : Type} (A : ι → List Ent) (pre : ι → Prop) (R : ι → Ent) : Sp := fun vs H Q _ => ∃ (z : ι) (F : Hp), Same F H ∧ Oks F vs (A z) ∧ pre z ∧ ∀ v F' H', Gr F H F' H' → (R z).ok F' v → Q v H'
/-- an __init__: the instance gets the fields fs z -/
def spMk {ι : Type} (A : ι → List Ent) (pre : ι → Prop) (C : Addr) (fs : ι → List (Str × Ent)) : Sp := fun vs H Q _ => ∃ (z : ι) (F : Hp) (x dx : Addr) (us : List V), vs = .ref x :: us ∧ Same F H ∧ F x = none ∧ H x = some (.ins C dx []) ∧ Oks F us (A z) ∧ pre z ∧
  ∀ F' H' dx' gs, Reach ⟨some x, F, H⟩ F' H' → F' x = none → H' x = some (.ins C dx' gs) → Paired (fun (p : Str × V) (q : Str × Ent) => p.1 = q.1 ∧ q.2.ok F' p.2) gs (fs z) → Q .non H'
/-- a def whose promise is a new list of the caller's own -/
def spOwn {ι α : Type} (A : ι → List Ent) (pre : ι → Prop) (T : Ty α) (R : ι → List α) : Sp := fun vs H Q _ => ∃ (z : ι) (F : Hp), Same F H ∧ Oks F vs (A z) ∧ pre z ∧
  ∀ p vs' F' H', Gr F H F' H' → H p = none → F' p = none → H' p = some (.lst vs') → Paired (fun v x => T.rel F' v x) vs' (R z) → Q (.ref p) H'
section
variable {G : Ctx} {ar : TA} {ta te : TE} {K : PySem.W.Frag} {ι α γ : Type} {A : ι → List Ent} {pre : ι → Prop} {R : ι → Ent}
theorem ev_call (z : ι) (h : EvA ar G (A z)) (hp : pre z) : Ev (tCall (spFam A pre R) [] E0 ar) G (R z) := fun B σ F H a Q q =>
  h B σ F H a _ fun vs F1 H1 g r => ⟨z, F1, g.s, by rw [List.append_nil]; exact r, hp, fun v F' H' g' r' => q v F' H' (g.trans g') r'⟩
theorem eo_call {T : Ty α} {R : ι → List α} (z : ι) (h : EvA ar G (A z)) (hp : pre z) : EvO (tCall (spOwn A pre T R) [] E0 ar) G T (R z) := fun B σ F H a Q q =>
  h B σ F H a _ fun vs F1 H1 g r => ⟨z, F1, g.s, by rw [List.append_nil]; exact r, hp, fun p vs' F' H' g' hn hf he r' => q p vs' F' H' (g.trans g') (none_back g.h hn) hf he r'⟩
theorem ev_meth {C m : Str} {es : γ → List (Str × Ent)} {P : γ → Prop} {o : γ} {as : List Ent} (z : ι) (ho : Ev ta G ((yObj K C es P).en o)) (hm : (es o).lookup m = none) (h : EvA ar G as) (hz : A z = (yObj K C es P).en o :: as) (hp : pre z) :
    Ev (tMeth (He.ga K C) m (spFam A pre R) [] E0 ta ar) G (R z) := fun B σ F H a Q q =>
  ho B σ F H a _ fun v F1 H1 g1 r1 => by
    obtain ⟨x, dx, gs, e, hx, r, p⟩ := id r1
    refine ⟨x, dx, gs, e, g1.s x _ hx, plook0 r hm, h B σ F1 H1 (a.grow g1) _ fun vs F2 H2 g2 r2 => ⟨z, F2, g2.s, ?_, hp, fun v F' H' g' r' => q v F' H' ((g1.trans g2).trans g') r'⟩⟩
    rw [List.append_nil, hz]
    exact .cons (((yObj K C es P).en o).mono g2.f r1) r2
theorem ev_make {C : Str} {es : γ → List (Str × Ent)} {P : γ → Prop} {as des : List Ent} {dvs : List V} {fs : ι → List (Str × Ent)} (z : ι) (o : γ) (h : EvA ar G as) (hd : ∀ F, Oks F dvs des) (hz : A z = as ++ des) (hp : pre z) (ho : fs z = es o) (hP : P o) :
    Ev (tMake (He.ga K C) (spMk A pre (He.ga K C) fs) dvs E0 ar) G ((yObj K C es P).en o) := fun B σ F H a Q q =>
  h B σ F H a _ fun vs F1 H1 g r x dx nx ndx ne => by
    have s2 : Same H1 (upd (upd H1 dx (.own x)) x (.ins (He.ga K C) dx [])) := fun b o e => by
      rw [upd_ne (ne_of_none e nx), upd_ne (ne_of_none e ndx)]; exact e
    refine ⟨z, F1, x, dx, vs ++ dvs, rfl, g.s.trans s2, none_back g.s nx, upd_same, by rw [hz]; exact papp r (hd F1), hp, fun F' H' dx' gs rr hf he hg => ⟨rfl, ?_⟩⟩
    rw [ho] at hg
    have gr : Gr F1 H1 (upd F' x (.ins (He.ga K C) dx' gs)) H' := by
      refine ⟨rr.ff.trans (same_new hf), fun b o e => rr.hh b o (fun q => ne_of_none e nx (Option.some.inj q).symm) (s2 b o e), fun b o e => ?_, fun b h1 h2 => ?_⟩
      · by_cases z : b = x
        · subst z; rw [upd_same] at e; rw [he]; exact e
        · rw [upd_ne z] at e; exact rr.fh b o e
      · rw [upd_ne (fun z => h2 (by rw [z]; exact nx))]
        exact rr.n b h1 (some_ne s2 h2)
    exact q _ _ _ (g.trans gr) ⟨x, dx', gs, rfl, upd_same, Paired.mapP hg (fun _ w y => ⟨y.1, w.2.mono (same_new hf) y.2⟩), hP⟩
theorem ev_makeK {C : Str} {n m : Nat} {gV : List V → List V → List V} {ak : TA} {es : γ → List (Str × Ent)} {P : γ → Prop} {as ks : List Ent} {fs : ι → List (Str × Ent)} (z : ι) (o : γ) (h : EvA ar G as) (hk : EvA ak G ks) (hn : as.length = n) (hm : ks.length = m)
    (hg : ∀ F x vs zs, Oks F vs as → Oks F zs ks → ∃ us, gV (.ref x :: vs) zs = .ref x :: us ∧ Oks F us (A z)) (hp : pre z) (ho : fs z = es o) (hP : P o) :
    Ev (tMakeK (He.ga K C) n m (spMk A pre (He.ga K C) fs) gV E0 ar ak) G ((yObj K C es P).en o) := fun B σ F H a Q q =>
  h B σ F H a _ fun vs F0 H0 g0 r0 => hk B σ F0 H0 (a.grow g0) _ fun zs F1 H1 g1 r1 => ⟨by rw [r0.length]; exact hn, by rw [r1.length]; exact hm, fun x dx nx ndx ne => by
    have g := g0.trans g1
    have s2 : Same H1 (upd (upd H1 dx (.own x)) x (.ins (He.ga K C) dx [])) := fun b o e => by
      rw [upd_ne (ne_of_none e nx), upd_ne (ne_of_none e ndx)]; exact e
    obtain ⟨us, eu, ru⟩ := hg F1 x vs zs (r0.mono g1.f) r1
    refine ⟨z, F1, x, dx, us, eu, g.s.trans s2, none_back g.s nx, upd_same, ru, hp, fun F' H' dx' gs rr hf he hg => ⟨rfl, ?_⟩⟩
    rw [ho] at hg
    have gr : Gr F1 H1 (upd F' x (.ins (He.ga K C) dx' gs)) H' := by
      refine ⟨rr.ff.trans (same_new hf), fun b o e => rr.hh b o (fun q => ne_of_none e nx (Option.some.inj q).symm) (s2 b o e), fun b o e => ?_, fun b h1 h2 => ?_⟩
      · by_cases z : b = x
        · subst z; rw [upd_same] at e; rw [he]; exact e
        · rw [upd_ne z] at e; exact rr.fh b o e
      · rw [upd_ne (fun z => h2 (by rw [z]; exact nx))]
        exact rr.n b h1 (some_ne s2 h2)
    exact q _ _ _ (g.trans gr) ⟨x, dx', gs, rfl, upd_same, Paired.mapP hg (fun _ w y => ⟨y.1, w.2.mono (same_new hf) y.2⟩), hP⟩⟩
end
/-! ### built-in functions -/
section
variable {G : Ctx} {ta tb tc : TE} {K : PySem.W.Frag} {α γ : Type} {A : Ty α} {n m l : Nat} {x y z : Int}
theorem bd_len {k : Nat} (h : k ≤ 1000000) : bd 64 (k : Int) := by
  unfold bd; rw [Int.natAbs_natCast]; exact Nat.lt_of_le_of_lt h (by decide)
theorem ev_lenL {es : γ → List Ent} {p : γ} (ha : Ev ta G ((yLst K es).en p)) (hl : (es p).length ≤ 1000000) : Ev (tCB (cLen K) (tCons ta tNil)) G ((tI 64).en ((es p).length : Int)) := fun B σ F H a Q q =>
  ha B σ F H a _ fun v F1 H1 g ⟨p', vs, e, hs, r⟩ => ⟨p', vs, by rw [e], .inl (sameL g.s hs), q _ F1 H1 g ⟨by rw [r.length], bd_len hl⟩⟩
theorem ev_lenT {es : γ → List Ent} {p : γ} (ha : Ev ta G ((yTup K es).en p)) (hl : (es p).length ≤ 1000000) : Ev (tCB (cLen K) (tCons ta tNil)) G ((tI 64).en ((es p).length : Int)) := fun B σ F H a Q q =>
  ha B σ F H a _ fun v F1 H1 g ⟨p', vs, e, hs, r⟩ => ⟨p', vs, by rw [e], .inr (sameT g.s hs), q _ F1 H1 g ⟨by rw [r.length], bd_len hl⟩⟩
theorem ev_lenLL {xs : List α} (ha : Ev ta G ((yLstL K A).en xs)) (hl : xs.length ≤ 1000000) : Ev (tCB (cLen K) (tCons ta tNil)) G ((tI 64).en (xs.length : Int)) := by
  have h := ev_lenL ha (by rw [List.length_map]; exact hl)
  rw [List.length_map] at h
  exact h
theorem ev_lenTL {xs : List α} (ha : Ev ta G ((yTupL K A).en xs)) (hl : xs.length ≤ 1000000) : Ev (tCB (cLen K) (tCons ta tNil)) G ((tI 64).en (xs.length : Int)) := by
  have h := ev_lenT ha (by rw [List.length_map]; exact hl)
  rw [List.length_map] at h
  exact h
theorem ev_abs (ha : Ev ta G ((tI n).en x)) : Ev (tCB cAbs (tCons ta tNil)) G ((tI n).en ((x.natAbs : Nat) : Int)) := fun B σ F H a Q q =>
  ha B σ F H a _ fun v F1 H1 g r => ⟨x, by rw [r.1], q _ F1 H1 g ⟨by congr 1; split <;> omega, by have := r.2; unfold bd at *; omega⟩⟩
theorem ev_max2 (ha : Ev ta G ((tI n).en x)) (hb : Ev tb G ((tI m).en y)) : Ev (tCB cMax2 (tCons ta (tCons tb tNil))) G ((tI (max n m)).en (max x y)) := fun B σ F H a Q q =>
  ha B σ F H a _ fun v F1 H1 g1 r1 => hb B σ F1 H1 (a.grow g1) _ fun w F2 H2 g2 r2 => ⟨x, y, by rw [r1.1, r2.1], q _ F2 H2 (g1.trans g2) ⟨by congr 1; split <;> omega, bd_max r1.2 r2.2⟩⟩
theorem ev_max3 (ha : Ev ta G ((tI n).en x)) (hb : Ev tb G ((tI m).en y)) (hc : Ev tc G ((tI l).en z)) : Ev (tCB cMax3 (tCons ta (tCons tb (tCons tc tNil)))) G ((tI (max (max n m) l)).en (max (max x y) z)) := fun B σ F H a Q q =>
  ha B σ F H a _ fun v F1 H1 g1 r1 => hb B σ F1 H1 (a.grow g1) _ fun w F2 H2 g2 r2 => hc B σ F2 H2 ((a.grow g1).grow g2) _ fun u F3 H3 g3 r3 => ⟨x, y, z, by rw [r1.1, r2.1, r3.1], q _ F3 H3 ((g1.trans g2).trans g3) ⟨by congr 1; split <;> split <;> omega, bd_max (bd_max r1.2 r2.2) r3.2⟩⟩
theorem ev_intc (ha : Ev ta G ((tI n).en x)) : Ev (tCB cInt (tCons ta tNil)) G ((tI n).en x) := fun B σ F H a Q q =>
  ha B σ F H a _ fun v F1 H1 g r => .inl ⟨x, by rw [r.1], q _ F1 H1 g ⟨rfl, r.2⟩⟩
theorem ev_intZ {P : Int → Prop} (ha : Ev ta G ((tZ P).en x)) : Ev (tCB cInt (tCons ta tNil)) G ((tZ P).en x) := fun B σ F H a Q q =>
  ha B σ F H a _ fun v F1 H1 g r => .inl ⟨x, by rw [r.1], q _ F1 H1 g ⟨rfl, r.2⟩⟩
theorem ev_isq (ha : Ev ta G ((tI n).en x)) (h0 : 0 ≤ x) (hn : n ≤ 64) : Ev (tCB cIsq (tCons ta tNil)) G ((tI n).en ((Float64.isqrt x.toNat : Nat) : Int)) := fun B σ F H a Q q =>
  ha B σ F H a _ fun v F1 H1 g r => ⟨x, by rw [r.1], h0, by
    have h1 : bd 64 x := bd_mono hn r.2
    unfold bd at h1
    have : ((2 ^ 64 : Nat) : Int) = 2 ^ 64 := by decide
    omega, q _ F1 H1 g ⟨rfl, by
    refine bd_abs r.2 ?_
    rw [Int.natAbs_natCast]
    have h1 := (PySem.Float64.isqrt_spec x.toNat).1
    generalize Float64.isqrt x.toNat = k at h1
    have h2 : k ≤ k * k := by
      rcases Nat.eq_zero_or_pos k with e | e
      · rw [e]; exact Nat.zero_le _
      · exact Nat.le_mul_of_pos_right k e
    omega⟩⟩
theorem ev_gcd (ha : Ev ta G ((tI n).en x)) (hb : Ev tb G ((tI m).en y)) : Ev (tCB rGcd (tCons ta (tCons tb tNil))) G ((tI (max n m)).en ((Nat.gcd x.natAbs y.natAbs : Nat) : Int)) := fun B σ F H a Q q =>
  ha B σ F H a _ fun v F1 H1 g1 r1 => hb B σ F1 H1 (a.grow g1) _ fun w F2 H2 g2 r2 => ⟨x, y, by rw [r1.1, r2.1], q _ F2 H2 (g1.trans g2) ⟨rfl, by
    by_cases e : x = 0
    · rw [e]
      show bd _ ((Nat.gcd 0 y.natAbs : Nat) : Int)
      rw [Nat.gcd_zero_left]
      exact bd_mono (Nat.le_max_right n m) (bd_abs r2.2 (by rw [Int.natAbs_natCast]; exact Nat.le_refl _))
    · exact bd_mono (Nat.le_max_left n m) (bd_abs r1.2 (by rw [Int.natAbs_natCast]; exact Nat.gcd_le_left _ (by omega)))⟩⟩
theorem ev_tupL {es : γ → List Ent} {p : γ} (ha : Ev ta G ((yLst K es).en p)) : Ev (tCB (cTup K) (tCons ta tNil)) G ((yTup K es).en p) := fun B σ F H a Q q =>
  ha B σ F H a _ fun v F1 H1 g ⟨p', vs, e, hs, r⟩ => ⟨p', vs, by rw [e], .inl ⟨sameL g.s hs, fun l hl => q _ _ _ (g.trans (Gr.new g.s hl)) ⟨l, vs, rfl, SqT.of upd_same, r.mono (Gr.new g.s hl).f⟩⟩⟩
theorem ev_tupT {es : γ → List Ent} {p : γ} (ha : Ev ta G ((yTup K es).en p)) : Ev (tCB (cTup K) (tCons ta tNil)) G ((yTup K es).en p) := fun B σ F H a Q q =>
  ha B σ F H a _ fun v F1 H1 g ⟨p', vs, e, hs, r⟩ => ⟨p', vs, by rw [e], .inr ⟨sameT g.s hs, q _ F1 H1 g ⟨p', vs, rfl, hs, r⟩⟩⟩
theorem eo_list {xs : List α} (ha : Ev ta G ((yLstL K A).en xs)) : EvO (tCB (cList K) (tCons ta tNil)) G A xs := fun B σ F H a Q q =>
  ha B σ F H a _ fun v F1 H1 g ⟨p', vs, e, hs, r⟩ => ⟨p', vs, by rw [e], .inl (sameL g.s hs), fun l hl => q l vs F1 _ (g.trans (Gr.own g.s hl)) (none_back g.h hl) (none_back g.s hl) upd_same (pmapR (R := fun v (t : Ent) => t.ok F1 v) (f := fun x => A.en x) r)⟩
theorem ints_of {F : Hp} : ∀ {vs : List V} {xs : List Int}, Oks F vs (xs.map fun x => (tI n).en x) → vs = xs.map V.int ∧ ∀ x ∈ xs, bd n x
  | [], [], _ => ⟨rfl, fun _ h => nomatch h⟩
  | v :: vs, x :: xs, .cons r t => by
    obtain ⟨e, h⟩ := ints_of t
    exact ⟨by rw [e, r.1]; rfl, fun y hy => (List.mem_cons.mp hy).elim (fun z => by rw [z]; exact r.2) (h y)⟩
theorem ev_minL {xs : List Int} {k : Int} (ha : Ev ta G ((yLstL K (tI n)).en xs)) (hl : xs ≠ []) (hk : ∀ j, j ∈ xs → (∀ y, y ∈ xs → j ≤ y) → j = k) : Ev (tCB (rMin K) (tCons ta tNil)) G ((tI n).en k) := fun B σ F H a Q q =>
  ha B σ F H a _ fun v F1 H1 g ⟨p', vs, e, hs, r⟩ => by
    obtain ⟨e2, hb⟩ := ints_of r
    refine ⟨p', xs, by rw [e], by rw [← e2]; exact sameL g.s hs, by cases xs with | nil => exact absurd rfl hl | cons _ _ => exact Nat.succ_pos _, fun j hj h => ?_⟩
    have ek := hk j hj h
    rw [← ek] at q
    exact q _ F1 H1 g ⟨rfl, hb j hj⟩
theorem ev_maxL {xs : List Int} {k : Int} (ha : Ev ta G ((yLstL K (tI n)).en xs)) (hl : xs ≠ []) (hk : ∀ j, j ∈ xs → (∀ y, y ∈ xs → y ≤ j) → j = k) : Ev (tCB (rMax K) (tCons ta tNil)) G ((tI n).en k) := fun B σ F H a Q q =>
  ha B σ F H a _ fun v F1 H1 g ⟨p', vs, e, hs, r⟩ => by
    obtain ⟨e2, hb⟩ := ints_of r
    refine ⟨p', xs, by rw [e], by rw [← e2]; exact sameL g.s hs, by cases xs with | nil => exact absurd rfl hl | cons _ _ => exact Nat.succ_pos _, fun j hj h => ?_⟩
    have ek := hk j hj h
    rw [← ek] at q
    exact q _ F1 H1 g ⟨rfl, hb j hj⟩
theorem bls_of {F : Hp} : ∀ {vs : List V} {xs : List Bool}, Oks F vs (xs.map fun x => tBl.en x) → vs = xs.map V.bl
  | [], [], _ => rfl
  | v :: vs, x :: xs, .cons r t => by
    have e : v = .bl x := r
    rw [e, bls_of t]; rfl
theorem ev_all {xs : List Bool} (ha : Ev ta G ((yLstL K tBl).en xs)) : Ev (tCB (rAll K) (tCons ta tNil)) G (tBl.en (xs.all id)) := fun B σ F H a Q q =>
  ha B σ F H a _ fun v F1 H1 g ⟨p', vs, e, hs, r⟩ => ⟨p', xs, by rw [e], by rw [← bls_of r]; exact sameL g.s hs, q _ F1 H1 g rfl⟩
theorem intBits_bd {n : Nat} {x : Int} (h : bd n x) : Builtin.Int.intBits x ≤ n := PyProof.Rows.intBits_le h
theorem ev_bits (ha : Ev ta G ((tI n).en x)) (hn : n ≤ 1000000) : Ev (tBits ta) G ((tI 64).en ((Builtin.Int.intBits x : Nat) : Int)) := fun B σ F H a Q q =>
  ha B σ F H a _ fun v F1 H1 g r => ⟨x, r.1, q _ F1 H1 g ⟨rfl, bd_len (Nat.le_trans (intBits_bd r.2) hn)⟩⟩
/-- a text among texts: either answer -/
theorem flat_strs {F : Hp} {P : Str → Prop} : ∀ {vs : List V} {us : List Unit}, Oks F vs (us.map fun u => (tEx tStr P).en u) → vs.all flatV = true
  | [], [], _ => rfl
  | v :: vs, u :: us, .cons r t => by
    obtain ⟨s, e, _⟩ := r
    have e' : v = .str s := e
    rw [List.all_cons, e', flat_strs t]; rfl
theorem etx_inS {s : Str} {P : Str → Prop} {us : List Unit} (hb : Ev tb G ((yLstL K (tEx tStr P)).en us)) : EvTX (tTest (tOp (rIn K false) (tC (.str s)) tb)) G := fun B σ F H a Q q =>
  hb B σ F H a _ fun v F1 H1 g ⟨p', vs, e, hs, r⟩ => ⟨p', vs, e, .inl (sameL g.s hs), rfl, flat_strs r, _, rfl, q _ F1 H1 g⟩
/-- x not in (0, 1, 2), x one of them -/
theorem et_notIn3 (ha : Ev ta G ((tI n).en x)) (hx : x = 0 ∨ x = 1 ∨ x = 2) (hb : Ev tb G ((yTup K fun (_ : Unit) => [(tI 64).en 0, (tI 64).en 1, (tI 64).en 2]).en ())) : EvT (tTest (tOp (rIn K true) ta tb)) G false := fun B σ F H a Q q =>
  ha B σ F H a _ fun v F1 H1 g1 r1 => hb B σ F1 H1 (a.grow g1) _ fun w F2 H2 g2 ⟨p', vs, e, hs, r⟩ => by
    cases r with
    | cons s1 r =>
      cases r with
      | cons s2 r =>
        cases r with
        | cons s3 r =>
          cases r
          rw [s1.1, s2.1, s3.1] at hs
          rw [r1.1]
          refine ⟨p', _, e, .inr (sameT g2.s hs), rfl, rfl, _, rfl, ?_⟩
          have k : inV (.int x) [.int 0, .int 1, .int 2] = true := by
            rcases hx with e | e | e <;> subst e <;> decide
          show Q (if true = true then !inV (.int x) [.int 0, .int 1, .int 2] else inV (.int x) [.int 0, .int 1, .int 2]) H2
          rw [k]
          exact q F2 H2 (g1.trans g2)
end
end Aw
namespace Aw
open PySem PySem.Spec L2
/-! ### defs as they stand behind the top -/
/-- the module's facts -/
structure Txt (K : PySem.W.Frag) (mg : Str → Option Value) (base : Heap) : Prop where
  X : K.In base
  G : base.Ns mainGlobals mg
  c : Says K
section
variable (P : Program) (w : World) (K : PySem.W.Frag) (mg : Str → Option Value) (base : Heap)
/-- a function by its name -/
structure Fn (x : Str) (k : Nat) (ps : List Str) (sp : Sp) : Prop where
  ex : ∃ f fd, FnOk P w K mg base CX0 k f fd ps sp ∧ mg x = some (.ref f) ∧ PySem.W.keepIn K (.ref f) = true ∧ Binds K fd ps []
/-- a method -/
structure Mt (C m : Str) (k : Nat) (ps : List Str) (sp : Sp) : Prop where
  ex : ∃ f fd, FnOk P w K mg base CX0 k f fd ps sp ∧ Meth K (He.ga K C) m f ∧ Binds K fd ps []
/-- a class by its __init__, the defaults dvs fill up -/
structure Mc (C : Str) (k : Nat) (ps : List Str) (sp : Sp) (dvs : List V) : Prop where
  ex : ∃ f fd ds, FnOk P w K mg base CX0 k f fd ps sp ∧ Mk K (He.ga K C) f ∧ mg C = some (.ref (He.ga K C)) ∧ Binds K fd ps ds ∧ Vals dvs ds
/-- .. called with keywords -/
structure McK (C : Str) (k n : Nat) (ps ks : List Str) (sp : Sp) (gV : List V → List V → List V) : Prop where
  ex : ∃ f fd g, FnOk P w K mg base CX0 k f fd ps sp ∧ Mk K (He.ga K C) f ∧ mg C = some (.ref (He.ga K C)) ∧ KBn K fd ps (n + 1) ks g gV
/-- a method called with keywords -/
structure MtK (C m : Str) (k n : Nat) (ps ks : List Str) (sp : Sp) (gV : List V → List V → List V) : Prop where
  ex : ∃ f fd g, FnOk P w K mg base CX0 k f fd ps sp ∧ Meth K (He.ga K C) m f ∧ KBn K fd ps n ks g gV
end
section
variable {X : Cx} {x C m : Str} {k n : Nat} {ps ks : List Str} {sp : Sp} {p pos apos : Pos} {e o : Expr} {es : List Expr} {kws : List Keyword} {t tk : TA} {ta : TE} {dvs : List V} {gV : List V → List V → List V}
theorem pe_fn (F : Fn X.prog X.w X.K X.mg X.base x k ps sp) (hr : Room k X.A) (hg : Gl X x) (ha : PA X (e :: es) t) (hdb : (x == ("__debug__" : Str)) = false := by decide)
    (he : starEach (e :: es) X.env = (false, eval e X.env) :: starEach es X.env := by rfl) (hpl : (backTo pos (starEach es X.env)).any (·.1) = false := by rfl) : PE X (.Call (.Name x p) (e :: es) [] pos) (tCall sp [] E0 t) := by
  obtain ⟨f, fd, F1, hm, hk, hb⟩ := F.ex
  exact pe_call F1 hr hg hm hk hb .nil pass0 ha hdb he hpl
theorem pe_mt {pl : Sem Bool} (c : Cls X.K (He.ga X.K C)) (F : Mt X.prog X.w X.K X.mg X.base C m k ps sp) (hr : Room k X.A) (he : PE X o ta) (ha : PA X (e :: es) t)
    (hst : starEach (e :: es) X.env = (false, eval e X.env) :: starEach es X.env := by rfl) (hpl : (backTo pos (starEach es X.env)).any (·.1) = false := by rfl)
    (ht : eval (.Call (.Attribute o m apos) (e :: es) [] pos) X.env = (do
      let ov ← eval o X.env
      standAt apos.atName
      let (f, first) ← holding [ov] (getMethod ov m pl)
      callWith pos f first (backTo pos (starEach (e :: es) X.env)) (backToKw pos (keywordEach [] X.env))) := by rfl) :
    PE X (.Call (.Attribute o m apos) (e :: es) [] pos) (tMeth (He.ga X.K C) m sp [] E0 ta t) := by
  obtain ⟨f, fd, F1, hm, hb⟩ := F.ex
  exact pe_meth he c hm F1 hr hb .nil pass0 ha hst hpl ht
theorem pe_mt0 {pl : Sem Bool} (c : Cls X.K (He.ga X.K C)) (F : Mt X.prog X.w X.K X.mg X.base C m k ps sp) (hr : Room k X.A) (he : PE X o ta)
    (ht : eval (.Call (.Attribute o m apos) [] [] pos) X.env = (do
      let ov ← eval o X.env
      standAt apos.atName
      let (f, first) ← holding [ov] (getMethod ov m pl)
      callWith pos f first (backTo pos (starEach [] X.env)) (backToKw pos (keywordEach [] X.env))) := by rfl) :
    PE X (.Call (.Attribute o m apos) [] [] pos) (tMeth (He.ga X.K C) m sp [] E0 ta tNil) := by
  obtain ⟨f, fd, F1, hm, hb⟩ := F.ex
  exact pe_meth0 he c hm F1 hr hb .nil pass0 ht
theorem pe_mc (F : Mc X.prog X.w X.K X.mg X.base C k ps sp dvs) (hr : Room (k + 1) X.A) (hg : Gl X C) (ha : PA X (e :: es) t) (hdb : (C == ("__debug__" : Str)) = false := by decide)
    (he : starEach (e :: es) X.env = (false, eval e X.env) :: starEach es X.env := by rfl) (hpl : (backTo pos (starEach es X.env)).any (·.1) = false := by rfl) :
    PE X (.Call (.Name C p) (e :: es) [] pos) (tMake (He.ga X.K C) sp dvs E0 t) := by
  obtain ⟨f, fd, ds, F1, M, hm, hb, hd⟩ := F.ex
  exact pe_make M F1 hr hg hm hb hd pass0 ha hdb he hpl
theorem pe_mck (F : McK X.prog X.w X.K X.mg X.base C k n ps ks sp gV) (hr : Room (k + 1) X.A) (hg : Gl X C) (ha : PA X (e :: es) t) (hkw : PK X kws tk)
    (hall : (backToKw pos (keywordEach kws X.env)).all (·.1.isSome) = true := by rfl) (hks : (backToKw pos (keywordEach kws X.env)).filterMap (·.1) = ks := by rfl) (hdb : (C == ("__debug__" : Str)) = false := by decide)
    (he : starEach (e :: es) X.env = (false, eval e X.env) :: starEach es X.env := by rfl) (hpl : ((backTo pos (starEach (e :: es) X.env)).any (·.1) || (backToKw pos (keywordEach kws X.env)).any (·.1.isNone)) = false := by rfl) :
    PE X (.Call (.Name C p) (e :: es) kws pos) (tMakeK (He.ga X.K C) n ks.length sp gV E0 t tk) := by
  obtain ⟨f, fd, g, F1, M, hm, hb⟩ := F.ex
  exact pe_makeK M F1 hr hg hm hb pass0 ha hkw hall hks hdb he hpl
/-- o.m(e, .., k = v) -/
def tMethK (C : Addr) (m : Str) (n l : Nat) (sp : Sp) (gV : List V → List V → List V) (E : XK) (ta : TE) (t tk : TA) : TE := fun σ H Q => ta σ H fun x H1 => ∃ a dx fs, x = .ref a ∧ H1 a = some (.ins C dx fs) ∧ fs.lookup m = none ∧
  t σ H1 fun vs H2 => tk σ H2 fun zs H3 => vs.length + 1 = n ∧ zs.length = l ∧ sp (gV (x :: vs) zs) H3 Q E
theorem pe_mtk {pl : Sem Bool} (c : Cls X.K (He.ga X.K C)) (F : MtK X.prog X.w X.K X.mg X.base C m k n ps ks sp gV) (hr : Room k X.A) (he : PE X o ta) (ha : PA X (e :: es) t) (hkw : PK X kws tk)
    (hall : (backToKw pos (keywordEach kws X.env)).all (·.1.isSome) = true := by rfl) (hks : (backToKw pos (keywordEach kws X.env)).filterMap (·.1) = ks := by rfl)
    (hst : starEach (e :: es) X.env = (false, eval e X.env) :: starEach es X.env := by rfl) (hpl : ((backTo pos (starEach (e :: es) X.env)).any (·.1) || (backToKw pos (keywordEach kws X.env)).any (·.1.isNone)) = false := by rfl)
    (ht : eval (.Call (.Attribute o m apos) (e :: es) kws pos) X.env = (do
      let ov ← eval o X.env
      standAt apos.atName
      let (f, first) ← holding [ov] (getMethod ov m pl)
      callWith pos f first (backTo pos (starEach (e :: es) X.env)) (backToKw pos (keywordEach kws X.env))) := by rfl) :
    PE X (.Call (.Attribute o m apos) (e :: es) kws pos) (tMethK (He.ga X.K C) m n ks.length sp gV E0 ta t tk) := by
  obtain ⟨f, fd, g, F1, hm, hb⟩ := F.ex
  refine ⟨fun pins s σ H Q I h => ?_⟩
  refine PySem.W.methodCall_KW (pl := pl) (thn (he.run pins s σ H _ I h) fun u s1 ⟨x, H1, I1, rx, a, dx, fs, ex, ea, l, q⟩ => ?_) ht
  subst ex
  obtain rfl : u = Value.ref a := rx
  refine getmeth_ok I1 ea c hm l ?_
  refine PySem.W.callWith_KW (first := [.ref a]) (h₀ := X.base) I.ok.mod.kin hm.kp hall (thn (ha.run pos pins s1 σ H1 _ I1 q) fun us s2 ⟨vs, H2, I2, r, q2⟩ => ?_) hpl hst
  refine thn (hkw.run pos pins s2 σ H2 _ I2 q2) fun ws s3 ⟨zs, H3, I3, rz, l1, l2, q3⟩ => ⟨I3.kIn, ?_⟩
  rw [hks]
  exact run_fnN (us := .ref a :: us) (vs := .ref a :: vs) F1 hr hb pass0 I3 (.cons rfl r) rz l1 l2 q3
/-- a module's int, its tuple, its built-in -/
theorem pe_gi {i : Int} (h : ∃ u, X.mg x = some (.int i u)) (hg : Gl X x := by rfl) (hd : (x == ("__debug__" : Str)) = false := by decide) : PE X (.Name x pos) (tC (.int i)) := by
  obtain ⟨u, hu⟩ := h
  exact pe_glob hg hu ⟨u, rfl⟩ hd
theorem pe_ga {a : Addr} (h : X.mg x = some (.ref a)) (hg : Gl X x := by rfl) (hd : (x == ("__debug__" : Str)) = false := by decide) : PE X (.Name x pos) (tC (.ref a)) := pe_glob hg h rfl hd
/-! the same rules, K by its name -/
section
variable {K : PySem.W.Frag} {f : Str} {a b tg l : Expr} {tb tl : TE} {value : Expr} {tv : TE} {pos' : Pos}
theorem xFld (he : PE X e ta) (hb : attributeBase e f X.env (eval e X.env) = eval e X.env) (hK : X.K = K := by rfl) : PE X (.Attribute e f pos) (tFld K ta f) := by subst hK; exact pe_fld he hb
theorem xIx (ha : PE X a ta) (hb : PE X b tb) (hs : PlainIx b) (hK : X.K = K := by rfl) : PE X (.Subscript a b pos) (tOp (rIx K) ta tb) := by subst hK; exact pe_ix ix_seq ha hb hs
theorem xLen (hK : X.K = K := by rfl) : CallR X (.builtin "len") (cLen K) := by subst hK; exact kLen
theorem xList (hK : X.K = K := by rfl) : CallR X (.type "list") (cList K) := by subst hK; exact kList
theorem xTup (hK : X.K = K := by rfl) : CallR X (.type "tuple") (cTup K) := by subst hK; exact kTup
theorem xMinL (hc : X.calm = true) (hK : X.K = K := by rfl) : CallR X (.builtin "min") (rMin K) := by subst hK; exact cr_min hc
theorem xMaxL (hc : X.calm = true) (hK : X.K = K := by rfl) : CallR X (.builtin "max") (rMax K) := by subst hK; exact cr_max hc
theorem xAll (hc : X.calm = true) (hK : X.K = K := by rfl) : CallR X (.builtin "all") (rAll K) := by subst hK; exact cr_all hc
theorem xIn (hK : X.K = K := by rfl) : OpR X (compareOp .In) (rIn K false) := by subst hK; exact op_in_seq
theorem xNotIn (hK : X.K = K := by rfl) : OpR X (compareOp .NotIn) (rIn K true) := by subst hK; exact op_notIn_seq
theorem xNotInT (hu : X.A.units + 65 < cLine) (hK : X.K = K := by rfl) : OpR X (compareOp .NotIn) (aNotInT K) := by subst hK; exact oNotInT hu
theorem xPil (hl : PE X l tl) (hK : X.K = K := by rfl) : PI X tg l (iList K tl) := by subst hK; exact pi_list hl
theorem xPit (hl : PE X l tl) (hK : X.K = K := by rfl) : PI X tg l (iTup K tl) := by subst hK; exact pi_tup hl
theorem xGtup {es : List Expr} {kk : Nat} {t : TGs} {n : Nat} (hc : X.calm = true) (h : PGs X es t) (hn : (assignEach es X.env).length = n := by rfl) (hst : (assignEach es X.env).findIdx? (·.1) = none := by rfl) (hK : X.K = K := by rfl) : PG X (.Tuple es kk pos) (gTup K n t) := by subst hK; exact pg_tup hc h hn hst
theorem xSfld (ha : PE X o ta) (hv : PE X value tv) (hs : swapsWith value (some (.Attribute o f pos')) pos.line X.env = pure false) (hK : X.K = K := by rfl) : PS X (.Assign [.Attribute o f pos'] value pos) (sFld K ta tv f) := by subst hK; exact ps_fld ha hv hs
theorem xK {t' : TE} (h : PE X e ta) (hK : ta = t' := by rfl) : PE X e t' := by subst hK; exact h
theorem xMt {pl : Sem Bool} (c : Cls X.K (He.ga X.K C)) (F : Mt X.prog X.w X.K X.mg X.base C m k ps sp) (hr : Room k X.A) (he : PE X o ta) (ha : PA X (e :: es) t)
    (hst : starEach (e :: es) X.env = (false, eval e X.env) :: starEach es X.env := by rfl) (hpl : (backTo pos (starEach es X.env)).any (·.1) = false := by rfl)
    (ht : eval (.Call (.Attribute o m apos) (e :: es) [] pos) X.env = (do
      let ov ← eval o X.env
      standAt apos.atName
      let (f, first) ← holding [ov] (getMethod ov m pl)
      callWith pos f first (backTo pos (starEach (e :: es) X.env)) (backToKw pos (keywordEach [] X.env))) := by rfl) (hK : X.K = K := by rfl) :
    PE X (.Call (.Attribute o m apos) (e :: es) [] pos) (tMeth (He.ga K C) m sp [] E0 ta t) := by subst hK; exact pe_mt c F hr he ha hst hpl ht
theorem xMt0 {pl : Sem Bool} (c : Cls X.K (He.ga X.K C)) (F : Mt X.prog X.w X.K X.mg X.base C m k ps sp) (hr : Room k X.A) (he : PE X o ta)
    (ht : eval (.Call (.Attribute o m apos) [] [] pos) X.env = (do
      let ov ← eval o X.env
      standAt apos.atName
      let (f, first) ← holding [ov] (getMethod ov m pl)
      callWith pos f first (backTo pos (starEach [] X.env)) (backToKw pos (keywordEach [] X.env))) := by rfl) (hK : X.K = K := by rfl) :
    PE X (.Call (.Attribute o m apos) [] [] pos) (tMeth (He.ga K C) m sp [] E0 ta tNil) := by subst hK; exact pe_mt0 c F hr he ht
theorem xMtk {pl : Sem Bool} (c : Cls X.K (He.ga X.K C)) (F : MtK X.prog X.w X.K X.mg X.base C m k n ps ks sp gV) (hr : Room k X.A) (he : PE X o ta) (ha : PA X (e :: es) t) (hkw : PK X kws tk)
    (hall : (backToKw pos (keywordEach kws X.env)).all (·.1.isSome) = true := by rfl) (hks : (backToKw pos (keywordEach kws X.env)).filterMap (·.1) = ks := by rfl)
    (hst : starEach (e :: es) X.env = (false, eval e X.env) :: starEach es X.env := by rfl) (hpl : ((backTo pos (starEach (e :: es) X.env)).any (·.1) || (backToKw pos (keywordEach kws X.env)).any (·.1.isNone)) = false := by rfl)
    (ht : eval (.Call (.Attribute o m apos) (e :: es) kws pos) X.env = (do
      let ov ← eval o X.env
      standAt apos.atName
      let (f, first) ← holding [ov] (getMethod ov m pl)
      callWith pos f first (backTo pos (starEach (e :: es) X.env)) (backToKw pos (keywordEach kws X.env))) := by rfl) (hK : X.K = K := by rfl) :
    PE X (.Call (.Attribute o m apos) (e :: es) kws pos) (tMethK (He.ga K C) m n ks.length sp gV E0 ta t tk) := by subst hK; exact pe_mtk c F hr he ha hkw hall hks hst hpl ht
theorem xMc (F : Mc X.prog X.w X.K X.mg X.base C k ps sp dvs) (hr : Room (k + 1) X.A) (hg : Gl X C) (ha : PA X (e :: es) t) (hdb : (C == ("__debug__" : Str)) = false := by decide)
    (he : starEach (e :: es) X.env = (false, eval e X.env) :: starEach es X.env := by rfl) (hpl : (backTo pos (starEach es X.env)).any (·.1) = false := by rfl) (hK : X.K = K := by rfl) :
    PE X (.Call (.Name C p) (e :: es) [] pos) (tMake (He.ga K C) sp dvs E0 t) := by subst hK; exact pe_mc F hr hg ha hdb he hpl
theorem xMck (F : McK X.prog X.w X.K X.mg X.base C k n ps ks sp gV) (hr : Room (k + 1) X.A) (hg : Gl X C) (ha : PA X (e :: es) t) (hkw : PK X kws tk)
    (hall : (backToKw pos (keywordEach kws X.env)).all (·.1.isSome) = true := by rfl) (hks : (backToKw pos (keywordEach kws X.env)).filterMap (·.1) = ks := by rfl) (hdb : (C == ("__debug__" : Str)) = false := by decide)
    (he : starEach (e :: es) X.env = (false, eval e X.env) :: starEach es X.env := by rfl) (hpl : ((backTo pos (starEach (e :: es) X.env)).any (·.1) || (backToKw pos (keywordEach kws X.env)).any (·.1.isNone)) = false := by rfl) (hK : X.K = K := by rfl) :
    PE X (.Call (.Name C p) (e :: es) kws pos) (tMakeK (He.ga K C) n ks.length sp gV E0 t tk) := by subst hK; exact pe_mck F hr hg ha hkw hall hks hdb he hpl
theorem hu65 {A : Around} (hr : Room k A) : A.units + 65 < cLine := by
  have := hr.un
  omega
end
end
section
variable {P : Program} {w : World} {K : PySem.W.Frag} {mg : Str → Option Value} {base : Heap} {name qual : Str} {params : Arguments} {body : List Stmt} {scope : Scope} {ddvs : List V} {kwds : List (Str × V)} {f : Addr} {fd : FuncData}
/-- the slots at a def's start -/
def startG (es : List Ent) (n : Nat) : List (Option Ent) := es.map some ++ List.replicate n none
theorem start_at {N : List Str} {e : Option Addr} {F H : Hp} {vs : List V} {es : List Ent} (s : Same F H) (r : Oks F vs es) (hl : es.length ≤ N.length) : At ⟨e, F, H⟩ ⟨startG es (N.length - es.length), .no⟩ (L2.start N vs) F H := by
  have l := r.length
  refine ⟨Reach.start s, ?_, fun i t h => ?_, trivial⟩
  · unfold L2.start startG
    rw [List.length_append, List.length_append, List.length_map, List.length_map, List.length_replicate, List.length_replicate, l]
  · have hi : i < es.length := by
      by_cases z : i < es.length
      · exact z
      · unfold startG at h
        rw [List.getElem?_append_right (by rw [List.length_map]; omega), List.getElem?_replicate] at h
        split at h <;> cases h
    unfold startG at h
    rw [List.getElem?_append_left (by rw [List.length_map]; exact hi), List.getElem?_map, List.getElem?_eq_getElem hi] at h
    have e2 : es[i] = t := Option.some.inj (Option.some.inj h)
    obtain ⟨v, ev, rv⟩ := pget r (List.getElem?_eq_getElem hi)
    refine ⟨v, ?_, by rw [← e2]; exact rv⟩
    unfold L2.start
    rw [List.getElem?_append_left (by rw [List.length_map]; omega), List.getElem?_map, ev]
    rfl
/-- .. a list of the caller's own -/
def BackO {α : Type} (B : Bs) (Rt : VK) (T : Ty α) (xs : List α) : Prop := ∀ p vs' F H, Reach B F H → B.H0 p = none → F p = none → H p = some (.lst vs') → Paired (fun v x => T.rel F v x) vs' xs → Rt (.ref p) H
theorem fam_ok {ι : Type} {A : ι → List Ent} {pre : ι → Prop} {R : ι → Ent} {N ps : List Str} {k : Nat} (F : FunD K name qual params body scope ddvs kwds f fd) (S : FnScope N ps scope) (len : ∀ z, (A z).length = ps.length) (r : Nat) (hle : N.length = ps.length + r)
    (hbody : ∀ (cdv : Value) (A0 : Around) (outer : List Env) (s : Shared) (H : Hp) (E : XK), Room k (A0.deeper (PyProof.Rows.envOfC qual scope s.heap.objs.size f cdv)) →
      ∃ t, PSs (cxOf CX0 P w K mg base N qual scope f cdv A0 outer s H E).nox body t ∧ ∀ z, pre z → ∀ B Nx Rt Bk Ct, Back B Rt (R z) → Go B ⟨startG (A z) r, .no⟩ (t ⟨Nx, Rt, Bk, Ct⟩)) :
    FnOk P w K mg base CX0 (k + 1) f fd ps (spFam A pre R) := by
  refine F.ok S (fun vs H Q E h => ?_) (fun cdv A0 outer s H vs Q E hr h => ?_)
  · obtain ⟨z, F0, _, r, _⟩ := h
    rw [r.length, len]
  · obtain ⟨t, ht, hg⟩ := hbody cdv A0 outer s H E hr
    obtain ⟨z, F0, s0, ro, hp, q⟩ := h
    refine ⟨t, ht.nox, ?_⟩
    have a := start_at (N := N) (e := none) s0 ro (by rw [len]; omega)
    rw [len, show N.length - ps.length = r by omega] at a
    exact hg z hp ⟨none, F0, H⟩ _ _ _ _ (fun v F' H' rr ro => q v F' H' rr.gr ro) _ F0 H a
/-- hands back a list of the caller's own -/
theorem own_ok {ι α : Type} {A : ι → List Ent} {pre : ι → Prop} {T : Ty α} {R : ι → List α} {N ps : List Str} {k : Nat} (F : FunD K name qual params body scope ddvs kwds f fd) (S : FnScope N ps scope) (len : ∀ z, (A z).length = ps.length) (r : Nat) (hle : N.length = ps.length + r)
    (hbody : ∀ (cdv : Value) (A0 : Around) (outer : List Env) (s : Shared) (H : Hp) (E : XK), Room k (A0.deeper (PyProof.Rows.envOfC qual scope s.heap.objs.size f cdv)) →
      ∃ t, PSs (cxOf CX0 P w K mg base N qual scope f cdv A0 outer s H E).nox body t ∧ ∀ z, pre z → ∀ B Nx Rt Bk Ct, BackO B Rt T (R z) → Go B ⟨startG (A z) r, .no⟩ (t ⟨Nx, Rt, Bk, Ct⟩)) :
    FnOk P w K mg base CX0 (k + 1) f fd ps (spOwn A pre T R) := by
  refine F.ok S (fun vs H Q E h => ?_) (fun cdv A0 outer s H vs Q E hr h => ?_)
  · obtain ⟨z, F0, _, r, _⟩ := h
    rw [r.length, len]
  · obtain ⟨t, ht, hg⟩ := hbody cdv A0 outer s H E hr
    obtain ⟨z, F0, s0, ro, hp, q⟩ := h
    refine ⟨t, ht.nox, ?_⟩
    have a := start_at (N := N) (e := none) s0 ro (by rw [len]; omega)
    rw [len, show N.length - ps.length = r by omega] at a
    exact hg z hp ⟨none, F0, H⟩ _ _ _ _ (fun p vs' F' H' rr hn hf he ro => q p vs' F' H' rr.gr hn hf he ro) _ F0 H a
/-- return row, a list that is the def's own -/
theorem go_retO {B : Bs} {g : List (Option Ent)} {i : Nat} {α : Type} {A : Ty α} {xs : List α} {Nx : L2.St → Hp → Prop} {Rt : VK} {Bk Ct : L2.St → Hp → Prop} (k : BackO B Rt A xs) : Go B ⟨g, .lst i A xs⟩ (tRet (tVar i) ⟨Nx, Rt, Bk, Ct⟩) := fun σ F H a => by
  obtain ⟨p, vs, e, h0, hF, hH, r⟩ := a.mu
  exact ⟨_, e, k p vs F H a.r h0 hF hH r⟩
/-- the end of an __init__ -/
def Fin (B : Bs) (Nx : L2.St → Hp → Prop) (C : Addr) (fs : List (Str × Ent)) : Prop := ∀ g σ F H, At B ⟨g, .obj 0 C fs⟩ σ F H → Nx σ H
theorem go_fin {B : Bs} {Nx : L2.St → Hp → Prop} {C : Addr} {fs : List (Str × Ent)} {g : List (Option Ent)} (h : Fin B Nx C fs) : Go B ⟨g, .obj 0 C fs⟩ Nx := fun σ F H a => h g σ F H a
theorem mk_ok {ι : Type} {A : ι → List Ent} {pre : ι → Prop} {C : Addr} {fs : ι → List (Str × Ent)} {N ps : List Str} {k : Nat} (F : FunD K name qual params body scope ddvs kwds f fd) (S : FnScope N ps scope) (len : ∀ z, (A z).length + 1 = ps.length) (r : Nat) (hle : N.length = ps.length + r)
    (hbody : ∀ (cdv : Value) (A0 : Around) (outer : List Env) (s : Shared) (H : Hp) (E : XK), Room k (A0.deeper (PyProof.Rows.envOfC qual scope s.heap.objs.size f cdv)) →
      ∃ t, PSs (cxOf CX0 P w K mg base N qual scope f cdv A0 outer s H E).nox body t ∧ ∀ z, pre z → ∀ B Nx Rt Bk Ct, Fin B Nx C (fs z) → Go B ⟨none :: startG (A z) r, .obj 0 C []⟩ (t ⟨Nx, Rt, Bk, Ct⟩)) :
    FnOk P w K mg base CX0 (k + 1) f fd ps (spMk A pre C fs) := by
  refine F.ok S (fun vs H Q E h => ?_) (fun cdv A0 outer s H vs Q E hr h => ?_)
  · obtain ⟨z, F0, x, dx, us, e, _, _, _, r, _⟩ := h
    rw [e, List.length_cons, r.length, len]
  · obtain ⟨t, ht, hg⟩ := hbody cdv A0 outer s H E hr
    obtain ⟨z, F0, x, dx, us, e, s0, hf, hx, ro, hp, q⟩ := h
    refine ⟨t, ht.nox, ?_⟩
    subst e
    have lr := ro.length
    have ll := len z
    have a : At ⟨some x, F0, H⟩ ⟨none :: startG (A z) r, .obj 0 C []⟩ (L2.start N (.ref x :: us)) F0 H := by
      refine ⟨Reach.start s0, ?_, fun i t h => ?_, x, dx, [], ?_, rfl, hf, hx, .nil⟩
      · unfold L2.start startG
        simp only [List.length_append, List.length_map, List.length_replicate, List.length_cons]
        omega
      · cases i with
        | zero => cases h
        | succ i =>
          have hn : N ≠ [] := fun e => by rw [e] at hle; simp only [List.length_nil] at hle; omega
          obtain ⟨n0, N', rfl⟩ := List.exists_cons_of_ne_nil hn
          have a1 := start_at (N := N') (e := some x) s0 ro (by simp only [List.length_cons] at hle; omega)
          have e1 : N'.length - (A z).length = r := by simp only [List.length_cons] at hle; omega
          rw [e1] at a1
          obtain ⟨v, ev, rv⟩ := a1.env i t (by simpa using h)
          refine ⟨v, ?_, rv⟩
          unfold L2.start at ev ⊢
          simp only [List.map_cons, List.cons_append, List.length_cons, List.getElem?_cons_succ]
          rw [show N'.length + 1 - (us.length + 1) = N'.length - us.length by omega]
          exact ev
      · rfl
    exact hg z hp ⟨some x, F0, H⟩ _ _ _ _ (fun g σ F' H' a' => by
      obtain ⟨p, dx', gs, e, h0, hF, hH, ro⟩ := a'.mu
      cases h0
      exact q F' H' dx' gs a'.r hF hH ro) _ F0 H a
end
end Aw
namespace Aw
open PySem PySem.Spec L2
section
variable {K : PySem.W.Frag} {mg : Str → Option Value} {base : Heap}
theorem Txt.g_root_up (T : Txt K mg base) : mg "root_up" = some (.ref (He.ga K "root_up")) := He.glo_ok T.X T.G (T.c.fact 0)
theorem Txt.g_divide_up (T : Txt K mg base) : mg "divide_up" = some (.ref (He.ga K "divide_up")) := He.glo_ok T.X T.G (T.c.fact 1)
theorem Txt.g_dot (T : Txt K mg base) : mg "dot" = some (.ref (He.ga K "dot")) := He.glo_ok T.X T.G (T.c.fact 2)
theorem Txt.g_plus (T : Txt K mg base) : mg "plus" = some (.ref (He.ga K "plus")) := He.glo_ok T.X T.G (T.c.fact 3)
theorem Txt.g_minus (T : Txt K mg base) : mg "minus" = some (.ref (He.ga K "minus")) := He.glo_ok T.X T.G (T.c.fact 4)
theorem Txt.g_scaled (T : Txt K mg base) : mg "scaled" = some (.ref (He.ga K "scaled")) := He.glo_ok T.X T.G (T.c.fact 5)
theorem Txt.g_length_up (T : Txt K mg base) : mg "length_up" = some (.ref (He.ga K "length_up")) := He.glo_ok T.X T.G (T.c.fact 6)
theorem Txt.g_greatest (T : Txt K mg base) : mg "greatest" = some (.ref (He.ga K "greatest")) := He.glo_ok T.X T.G (T.c.fact 7)
theorem Txt.g_lower (T : Txt K mg base) : mg "lower" = some (.ref (He.ga K "lower")) := He.glo_ok T.X T.G (T.c.fact 8)
theorem Txt.g_upper (T : Txt K mg base) : mg "upper" = some (.ref (He.ga K "upper")) := He.glo_ok T.X T.G (T.c.fact 9)
theorem Txt.g_reduced (T : Txt K mg base) : mg "reduced" = some (.ref (He.ga K "reduced")) := He.glo_ok T.X T.G (T.c.fact 10)
theorem Txt.g_turned (T : Txt K mg base) : mg "turned" = some (.ref (He.ga K "turned")) := He.glo_ok T.X T.G (T.c.fact 11)
theorem Txt.g_shifted (T : Txt K mg base) : mg "shifted" = some (.ref (He.ga K "shifted")) := He.glo_ok T.X T.G (T.c.fact 12)
theorem Txt.g_added (T : Txt K mg base) : mg "added" = some (.ref (He.ga K "added")) := He.glo_ok T.X T.G (T.c.fact 13)
theorem Txt.g_true_place (T : Txt K mg base) : mg "true_place" = some (.ref (He.ga K "true_place")) := He.glo_ok T.X T.G (T.c.fact 14)
theorem Txt.g_spot (T : Txt K mg base) : mg "spot" = some (.ref (He.ga K "spot")) := He.glo_ok T.X T.G (T.c.fact 15)
theorem Txt.g_unknown (T : Txt K mg base) : mg "unknown" = some (.ref (He.ga K "unknown")) := He.glo_ok T.X T.G (T.c.fact 16)
theorem Txt.g_turned_round (T : Txt K mg base) : mg "turned_round" = some (.ref (He.ga K "turned_round")) := He.glo_ok T.X T.G (T.c.fact 17)
theorem Txt.g_shortest (T : Txt K mg base) : mg "shortest" = some (.ref (He.ga K "shortest")) := He.glo_ok T.X T.G (T.c.fact 18)
theorem Txt.g_place_gap (T : Txt K mg base) : mg "place_gap" = some (.ref (He.ga K "place_gap")) := He.glo_ok T.X T.G (T.c.fact 19)
theorem Txt.g_crossing_gap (T : Txt K mg base) : mg "crossing_gap" = some (.ref (He.ga K "crossing_gap")) := He.glo_ok T.X T.G (T.c.fact 20)
theorem Txt.g_line_gap (T : Txt K mg base) : mg "line_gap" = some (.ref (He.ga K "line_gap")) := He.glo_ok T.X T.G (T.c.fact 21)
theorem Txt.g_direction (T : Txt K mg base) : mg "direction" = some (.ref (He.ga K "direction")) := He.glo_ok T.X T.G (T.c.fact 22)
theorem Txt.g_parts_places (T : Txt K mg base) : mg "parts_places" = some (.ref (He.ga K "parts_places")) := He.glo_ok T.X T.G (T.c.fact 23)
theorem Txt.g_sides (T : Txt K mg base) : mg "sides" = some (.ref (He.ga K "sides")) := He.glo_ok T.X T.G (T.c.fact 24)
theorem Txt.g_way_between (T : Txt K mg base) : mg "way_between" = some (.ref (He.ga K "way_between")) := He.glo_ok T.X T.G (T.c.fact 25)
theorem Txt.g_is_parted (T : Txt K mg base) : mg "is_parted" = some (.ref (He.ga K "is_parted")) := He.glo_ok T.X T.G (T.c.fact 26)
theorem Txt.g_contact (T : Txt K mg base) : mg "contact" = some (.ref (He.ga K "contact")) := He.glo_ok T.X T.G (T.c.fact 27)
theorem Txt.g_is_leaf_right (T : Txt K mg base) : mg "is_leaf_right" = some (.ref (He.ga K "is_leaf_right")) := He.glo_ok T.X T.G (T.c.fact 28)
theorem Txt.g_is_right (T : Txt K mg base) : mg "is_right" = some (.ref (He.ga K "is_right")) := He.glo_ok T.X T.G (T.c.fact 29)
theorem Txt.g_judge (T : Txt K mg base) : mg "judge" = some (.ref (He.ga K "judge")) := He.glo_ok T.X T.G (T.c.fact 30)
theorem Txt.g_most_gain (T : Txt K mg base) : mg "most_gain" = some (.ref (He.ga K "most_gain")) := He.glo_ok T.X T.G (T.c.fact 31)
theorem Txt.g_halves_second (T : Txt K mg base) : mg "halves_second" = some (.ref (He.ga K "halves_second")) := He.glo_ok T.X T.G (T.c.fact 32)
theorem Txt.g_look (T : Txt K mg base) : mg "look" = some (.ref (He.ga K "look")) := He.glo_ok T.X T.G (T.c.fact 33)
theorem Txt.g_search (T : Txt K mg base) : mg "search" = some (.ref (He.ga K "search")) := He.glo_ok T.X T.G (T.c.fact 34)
theorem Txt.g_find_verdict (T : Txt K mg base) : mg "find_verdict" = some (.ref (He.ga K "find_verdict")) := He.glo_ok T.X T.G (T.c.fact 35)
theorem Txt.g_is_within (T : Txt K mg base) : mg "is_within" = some (.ref (He.ga K "is_within")) := He.glo_ok T.X T.G (T.c.fact 36)
theorem Txt.g_lw_rows (T : Txt K mg base) : mg "_law_rows" = some (.ref (He.ga K "_law_rows")) := He.glo_ok T.X T.G (T.c.fact 37)
theorem Txt.g_lw_joint (T : Txt K mg base) : mg "_law_joint" = some (.ref (He.ga K "_law_joint")) := He.glo_ok T.X T.G (T.c.fact 38)
theorem Txt.g_lw_capsule (T : Txt K mg base) : mg "_law_capsule" = some (.ref (He.ga K "_law_capsule")) := He.glo_ok T.X T.G (T.c.fact 39)
theorem Txt.g_lw_values (T : Txt K mg base) : mg "_law_values" = some (.ref (He.ga K "_law_values")) := He.glo_ok T.X T.G (T.c.fact 40)
theorem Txt.g_lw_arm (T : Txt K mg base) : mg "_law_arm" = some (.ref (He.ga K "_law_arm")) := He.glo_ok T.X T.G (T.c.fact 41)
theorem Txt.g_lw_mover (T : Txt K mg base) : mg "_law_mover" = some (.ref (He.ga K "_law_mover")) := He.glo_ok T.X T.G (T.c.fact 42)
theorem Txt.g_lw_turned (T : Txt K mg base) : mg "_law_turned" = some (.ref (He.ga K "_law_turned")) := He.glo_ok T.X T.G (T.c.fact 43)
theorem Txt.g_lw_true (T : Txt K mg base) : mg "_law_true" = some (.ref (He.ga K "_law_true")) := He.glo_ok T.X T.G (T.c.fact 44)
theorem Txt.g_lw_meant (T : Txt K mg base) : mg "_law_meant" = some (.ref (He.ga K "_law_meant")) := He.glo_ok T.X T.G (T.c.fact 45)
theorem Txt.g_lw_offsets (T : Txt K mg base) : mg "_law_offsets" = some (.ref (He.ga K "_law_offsets")) := He.glo_ok T.X T.G (T.c.fact 46)
theorem Txt.g_lw_true_line (T : Txt K mg base) : mg "_law_true_line" = some (.ref (He.ga K "_law_true_line")) := He.glo_ok T.X T.G (T.c.fact 47)
theorem Txt.g_lw_mix (T : Txt K mg base) : mg "_law_mix" = some (.ref (He.ga K "_law_mix")) := He.glo_ok T.X T.G (T.c.fact 48)
theorem Txt.g_lw_far (T : Txt K mg base) : mg "_law_far" = some (.ref (He.ga K "_law_far")) := He.glo_ok T.X T.G (T.c.fact 49)
theorem Txt.g_law (T : Txt K mg base) : mg "law" = some (.ref (He.ga K "law")) := He.glo_ok T.X T.G (T.c.fact 50)
theorem Txt.g_Move (T : Txt K mg base) : mg "Move" = some (.ref (He.ga K "Move")) := He.glo_ok T.X T.G (T.c.fact 51)
theorem Txt.c_Move (T : Txt K mg base) : Cls K (He.ga K "Move") := He.cls_ok (T.c.fact 52)
theorem Txt.k_Move (T : Txt K mg base) : Mk K (He.ga K "Move") (He.ma K (He.ga K "Move") "__init__") := He.mkr_ok (T.c.fact 53)
theorem Txt.n_Move_first (T : Txt K mg base) : NoAttr K (He.ga K "Move") "first" := He.noat_ok (T.c.fact 54)
theorem Txt.n_Move_last (T : Txt K mg base) : NoAttr K (He.ga K "Move") "last" := He.noat_ok (T.c.fact 55)
theorem Txt.m_Move_middle (T : Txt K mg base) : Meth K (He.ga K "Move") "middle" (He.ma K (He.ga K "Move") "middle") := He.meth_ok (T.c.fact 56)
theorem Txt.m_Move_halves (T : Txt K mg base) : Meth K (He.ga K "Move") "halves" (He.ma K (He.ga K "Move") "halves") := He.meth_ok (T.c.fact 57)
theorem Txt.m_Move_slack (T : Txt K mg base) : Meth K (He.ga K "Move") "slack" (He.ma K (He.ga K "Move") "slack") := He.meth_ok (T.c.fact 58)
theorem Txt.g_Gap (T : Txt K mg base) : mg "Gap" = some (.ref (He.ga K "Gap")) := He.glo_ok T.X T.G (T.c.fact 59)
theorem Txt.c_Gap (T : Txt K mg base) : Cls K (He.ga K "Gap") := He.cls_ok (T.c.fact 60)
theorem Txt.k_Gap (T : Txt K mg base) : Mk K (He.ga K "Gap") (He.ma K (He.ga K "Gap") "__init__") := He.mkr_ok (T.c.fact 61)
theorem Txt.n_Gap_vector (T : Txt K mg base) : NoAttr K (He.ga K "Gap") "vector" := He.noat_ok (T.c.fact 62)
theorem Txt.n_Gap_scale (T : Txt K mg base) : NoAttr K (He.ga K "Gap") "scale" := He.noat_ok (T.c.fact 63)
theorem Txt.m_Gap_beyond (T : Txt K mg base) : Meth K (He.ga K "Gap") "beyond" (He.ma K (He.ga K "Gap") "beyond") := He.meth_ok (T.c.fact 64)
theorem Txt.m_Gap_within (T : Txt K mg base) : Meth K (He.ga K "Gap") "within" (He.ma K (He.ga K "Gap") "within") := He.meth_ok (T.c.fact 65)
theorem Txt.m_Gap_shorter (T : Txt K mg base) : Meth K (He.ga K "Gap") "shorter" (He.ma K (He.ga K "Gap") "shorter") := He.meth_ok (T.c.fact 66)
theorem Txt.g_Mover (T : Txt K mg base) : mg "Mover" = some (.ref (He.ga K "Mover")) := He.glo_ok T.X T.G (T.c.fact 67)
theorem Txt.c_Mover (T : Txt K mg base) : Cls K (He.ga K "Mover") := He.cls_ok (T.c.fact 68)
theorem Txt.k_Mover (T : Txt K mg base) : Mk K (He.ga K "Mover") (He.ma K (He.ga K "Mover") "__init__") := He.mkr_ok (T.c.fact 69)
theorem Txt.n_Mover_arm (T : Txt K mg base) : NoAttr K (He.ga K "Mover") "arm" := He.noat_ok (T.c.fact 70)
theorem Txt.n_Mover_move (T : Txt K mg base) : NoAttr K (He.ga K "Mover") "move" := He.noat_ok (T.c.fact 71)
theorem Txt.n_Mover_held (T : Txt K mg base) : NoAttr K (He.ga K "Mover") "held" := He.noat_ok (T.c.fact 72)
theorem Txt.m_Mover_bodies (T : Txt K mg base) : Meth K (He.ga K "Mover") "bodies" (He.ma K (He.ga K "Mover") "bodies") := He.meth_ok (T.c.fact 73)
theorem Txt.m_Mover_lines (T : Txt K mg base) : Meth K (He.ga K "Mover") "lines" (He.ma K (He.ga K "Mover") "lines") := He.meth_ok (T.c.fact 74)
theorem Txt.m_Mover_unknowns (T : Txt K mg base) : Meth K (He.ga K "Mover") "unknowns" (He.ma K (He.ga K "Mover") "unknowns") := He.meth_ok (T.c.fact 75)
theorem Txt.g_Matter (T : Txt K mg base) : mg "Matter" = some (.ref (He.ga K "Matter")) := He.glo_ok T.X T.G (T.c.fact 76)
theorem Txt.c_Matter (T : Txt K mg base) : Cls K (He.ga K "Matter") := He.cls_ok (T.c.fact 77)
theorem Txt.k_Matter (T : Txt K mg base) : Mk K (He.ga K "Matter") (He.ma K (He.ga K "Matter") "__init__") := He.mkr_ok (T.c.fact 78)
theorem Txt.n_Matter_kind (T : Txt K mg base) : NoAttr K (He.ga K "Matter") "kind" := He.noat_ok (T.c.fact 79)
theorem Txt.n_Matter_mover (T : Txt K mg base) : NoAttr K (He.ga K "Matter") "mover" := He.noat_ok (T.c.fact 80)
theorem Txt.n_Matter_other (T : Txt K mg base) : NoAttr K (He.ga K "Matter") "other" := He.noat_ok (T.c.fact 81)
theorem Txt.m_Matter_pairs (T : Txt K mg base) : Meth K (He.ga K "Matter") "pairs" (He.ma K (He.ga K "Matter") "pairs") := He.meth_ok (T.c.fact 82)
theorem Txt.m_Matter_views (T : Txt K mg base) : Meth K (He.ga K "Matter") "views" (He.ma K (He.ga K "Matter") "views") := He.meth_ok (T.c.fact 83)
theorem Txt.g_Verdict (T : Txt K mg base) : mg "Verdict" = some (.ref (He.ga K "Verdict")) := He.glo_ok T.X T.G (T.c.fact 84)
theorem Txt.c_Verdict (T : Txt K mg base) : Cls K (He.ga K "Verdict") := He.cls_ok (T.c.fact 85)
theorem Txt.k_Verdict (T : Txt K mg base) : Mk K (He.ga K "Verdict") (He.ma K (He.ga K "Verdict") "__init__") := He.mkr_ok (T.c.fact 86)
theorem Txt.n_Verdict_word (T : Txt K mg base) : NoAttr K (He.ga K "Verdict") "word" := He.noat_ok (T.c.fact 87)
theorem Txt.n_Verdict_tree (T : Txt K mg base) : NoAttr K (He.ga K "Verdict") "tree" := He.noat_ok (T.c.fact 88)
theorem Txt.n_Verdict_at (T : Txt K mg base) : NoAttr K (He.ga K "Verdict") "at" := He.noat_ok (T.c.fact 89)
theorem Txt.n_Verdict_looked (T : Txt K mg base) : NoAttr K (He.ga K "Verdict") "looked" := He.noat_ok (T.c.fact 90)
theorem Txt.g_Joint (T : Txt K mg base) : mg "Joint" = some (.ref (He.ga K "Joint")) := He.glo_ok T.X T.G (T.c.fact 91)
theorem Txt.c_Joint (T : Txt K mg base) : Cls K (He.ga K "Joint") := He.cls_ok (T.c.fact 92)
theorem Txt.k_Joint (T : Txt K mg base) : Mk K (He.ga K "Joint") (He.ma K (He.ga K "Joint") "__init__") := He.mkr_ok (T.c.fact 93)
theorem Txt.n_Joint_turns (T : Txt K mg base) : NoAttr K (He.ga K "Joint") "turns" := He.noat_ok (T.c.fact 94)
theorem Txt.n_Joint_axis (T : Txt K mg base) : NoAttr K (He.ga K "Joint") "axis" := He.noat_ok (T.c.fact 95)
theorem Txt.n_Joint_offset (T : Txt K mg base) : NoAttr K (He.ga K "Joint") "offset" := He.noat_ok (T.c.fact 96)
theorem Txt.n_Joint_least (T : Txt K mg base) : NoAttr K (He.ga K "Joint") "least" := He.noat_ok (T.c.fact 97)
theorem Txt.n_Joint_most (T : Txt K mg base) : NoAttr K (He.ga K "Joint") "most" := He.noat_ok (T.c.fact 98)
theorem Txt.n_Joint_box (T : Txt K mg base) : NoAttr K (He.ga K "Joint") "box" := He.noat_ok (T.c.fact 99)
theorem Txt.n_Joint_error (T : Txt K mg base) : NoAttr K (He.ga K "Joint") "error" := He.noat_ok (T.c.fact 100)
theorem Txt.n_Joint_speed (T : Txt K mg base) : NoAttr K (He.ga K "Joint") "speed" := He.noat_ok (T.c.fact 101)
theorem Txt.n_Joint_accel (T : Txt K mg base) : NoAttr K (He.ga K "Joint") "accel" := He.noat_ok (T.c.fact 102)
theorem Txt.n_Joint_brake (T : Txt K mg base) : NoAttr K (He.ga K "Joint") "brake" := He.noat_ok (T.c.fact 103)
theorem Txt.g_Body (T : Txt K mg base) : mg "Body" = some (.ref (He.ga K "Body")) := He.glo_ok T.X T.G (T.c.fact 104)
theorem Txt.c_Body (T : Txt K mg base) : Cls K (He.ga K "Body") := He.cls_ok (T.c.fact 105)
theorem Txt.k_Body (T : Txt K mg base) : Mk K (He.ga K "Body") (He.ma K (He.ga K "Body") "__init__") := He.mkr_ok (T.c.fact 106)
theorem Txt.n_Body_first (T : Txt K mg base) : NoAttr K (He.ga K "Body") "first" := He.noat_ok (T.c.fact 107)
theorem Txt.n_Body_last (T : Txt K mg base) : NoAttr K (He.ga K "Body") "last" := He.noat_ok (T.c.fact 108)
theorem Txt.n_Body_radius (T : Txt K mg base) : NoAttr K (He.ga K "Body") "radius" := He.noat_ok (T.c.fact 109)
theorem Txt.g_Capsule (T : Txt K mg base) : mg "Capsule" = some (.ref (He.ga K "Capsule")) := He.glo_ok T.X T.G (T.c.fact 110)
theorem Txt.c_Capsule (T : Txt K mg base) : Cls K (He.ga K "Capsule") := He.cls_ok (T.c.fact 111)
theorem Txt.k_Capsule (T : Txt K mg base) : Mk K (He.ga K "Capsule") (He.ma K (He.ga K "Capsule") "__init__") := He.mkr_ok (T.c.fact 112)
theorem Txt.n_Capsule_link (T : Txt K mg base) : NoAttr K (He.ga K "Capsule") "link" := He.noat_ok (T.c.fact 113)
theorem Txt.n_Capsule_body (T : Txt K mg base) : NoAttr K (He.ga K "Capsule") "body" := He.noat_ok (T.c.fact 114)
theorem Txt.g_Arm (T : Txt K mg base) : mg "Arm" = some (.ref (He.ga K "Arm")) := He.glo_ok T.X T.G (T.c.fact 115)
theorem Txt.c_Arm (T : Txt K mg base) : Cls K (He.ga K "Arm") := He.cls_ok (T.c.fact 116)
theorem Txt.k_Arm (T : Txt K mg base) : Mk K (He.ga K "Arm") (He.ma K (He.ga K "Arm") "__init__") := He.mkr_ok (T.c.fact 117)
theorem Txt.n_Arm_joints (T : Txt K mg base) : NoAttr K (He.ga K "Arm") "joints" := He.noat_ok (T.c.fact 118)
theorem Txt.n_Arm_capsules (T : Txt K mg base) : NoAttr K (He.ga K "Arm") "capsules" := He.noat_ok (T.c.fact 119)
theorem Txt.n_Arm_beside (T : Txt K mg base) : NoAttr K (He.ga K "Arm") "beside" := He.noat_ok (T.c.fact 120)
theorem Txt.m_Arm_fits (T : Txt K mg base) : Meth K (He.ga K "Arm") "fits" (He.ma K (He.ga K "Arm") "fits") := He.meth_ok (T.c.fact 121)
theorem Txt.g_WHOLE (T : Txt K mg base) : mg "WHOLE" = some (.ref (He.ga K "WHOLE")) := He.glo_ok T.X T.G (T.c.fact 122)
theorem Txt.z_len (T : Txt K mg base) : mg "len" = none := He.free_ok T.X T.G (T.c.fact 123)
theorem Txt.z_range (T : Txt K mg base) : mg "range" = none := He.free_ok T.X T.G (T.c.fact 124)
theorem Txt.z_int (T : Txt K mg base) : mg "int" = none := He.free_ok T.X T.G (T.c.fact 125)
theorem Txt.z_abs (T : Txt K mg base) : mg "abs" = none := He.free_ok T.X T.G (T.c.fact 126)
theorem Txt.z_max (T : Txt K mg base) : mg "max" = none := He.free_ok T.X T.G (T.c.fact 127)
theorem Txt.z_min (T : Txt K mg base) : mg "min" = none := He.free_ok T.X T.G (T.c.fact 128)
theorem Txt.z_tuple (T : Txt K mg base) : mg "tuple" = none := He.free_ok T.X T.G (T.c.fact 129)
theorem Txt.z_list (T : Txt K mg base) : mg "list" = none := He.free_ok T.X T.G (T.c.fact 130)
theorem Txt.z_all (T : Txt K mg base) : mg "all" = none := He.free_ok T.X T.G (T.c.fact 131)
theorem Txt.i_UNIT (T : Txt K mg base) : ∃ u, mg "UNIT" = some (.int 1000000 u) := He.int_ok T.X T.G (T.c.fact 132)
theorem Txt.i_MOST (T : Txt K mg base) : ∃ u, mg "MOST" = some (.int 1048576 u) := He.int_ok T.X T.G (T.c.fact 133)
theorem Txt.i_DEEPEST (T : Txt K mg base) : ∃ u, mg "DEEPEST" = some (.int 20 u) := He.int_ok T.X T.G (T.c.fact 134)
theorem Txt.i_FAR (T : Txt K mg base) : ∃ u, mg "FAR" = some (.int 10000000 u) := He.int_ok T.X T.G (T.c.fact 135)
theorem Txt.i_STEEP (T : Txt K mg base) : ∃ u, mg "STEEP" = some (.int 8000000 u) := He.int_ok T.X T.G (T.c.fact 136)
theorem Txt.i_LOOSE (T : Txt K mg base) : ∃ u, mg "LOOSE" = some (.int 100000 u) := He.int_ok T.X T.G (T.c.fact 137)
theorem Txt.i_FAST (T : Txt K mg base) : ∃ u, mg "FAST" = some (.int 1000000000 u) := He.int_ok T.X T.G (T.c.fact 138)
theorem Txt.i_HARD (T : Txt K mg base) : ∃ u, mg "HARD" = some (.int 10000000000 u) := He.int_ok T.X T.G (T.c.fact 139)
theorem Txt.i_THICK (T : Txt K mg base) : ∃ u, mg "THICK" = some (.int 1000000 u) := He.int_ok T.X T.G (T.c.fact 140)
theorem Txt.i_MOST_JOINTS (T : Txt K mg base) : ∃ u, mg "MOST_JOINTS" = some (.int 6 u) := He.int_ok T.X T.G (T.c.fact 141)
theorem Txt.i_MOST_CAPSULES (T : Txt K mg base) : ∃ u, mg "MOST_CAPSULES" = some (.int 8 u) := He.int_ok T.X T.G (T.c.fact 142)
theorem Txt.d_root_up (T : Txt K mg base) : ∃ fd, FunD K d_root_up.name d_root_up.qual d_root_up.params d_root_up.body d_root_up.scope (d_root_up.dvs K) (d_root_up.kws K) (He.fAd K d_root_up.at_) fd := T.c.def_ 0
theorem Txt.d_divide_up (T : Txt K mg base) : ∃ fd, FunD K d_divide_up.name d_divide_up.qual d_divide_up.params d_divide_up.body d_divide_up.scope (d_divide_up.dvs K) (d_divide_up.kws K) (He.fAd K d_divide_up.at_) fd := T.c.def_ 1
theorem Txt.d_dot (T : Txt K mg base) : ∃ fd, FunD K d_dot.name d_dot.qual d_dot.params d_dot.body d_dot.scope (d_dot.dvs K) (d_dot.kws K) (He.fAd K d_dot.at_) fd := T.c.def_ 2
theorem Txt.d_plus (T : Txt K mg base) : ∃ fd, FunD K d_plus.name d_plus.qual d_plus.params d_plus.body d_plus.scope (d_plus.dvs K) (d_plus.kws K) (He.fAd K d_plus.at_) fd := T.c.def_ 3
theorem Txt.d_minus (T : Txt K mg base) : ∃ fd, FunD K d_minus.name d_minus.qual d_minus.params d_minus.body d_minus.scope (d_minus.dvs K) (d_minus.kws K) (He.fAd K d_minus.at_) fd := T.c.def_ 4
theorem Txt.d_scaled (T : Txt K mg base) : ∃ fd, FunD K d_scaled.name d_scaled.qual d_scaled.params d_scaled.body d_scaled.scope (d_scaled.dvs K) (d_scaled.kws K) (He.fAd K d_scaled.at_) fd := T.c.def_ 5
theorem Txt.d_length_up (T : Txt K mg base) : ∃ fd, FunD K d_length_up.name d_length_up.qual d_length_up.params d_length_up.body d_length_up.scope (d_length_up.dvs K) (d_length_up.kws K) (He.fAd K d_length_up.at_) fd := T.c.def_ 6
theorem Txt.d_greatest (T : Txt K mg base) : ∃ fd, FunD K d_greatest.name d_greatest.qual d_greatest.params d_greatest.body d_greatest.scope (d_greatest.dvs K) (d_greatest.kws K) (He.fAd K d_greatest.at_) fd := T.c.def_ 7
theorem Txt.d_Move_init (T : Txt K mg base) : ∃ fd, FunD K d_Move_init.name d_Move_init.qual d_Move_init.params d_Move_init.body d_Move_init.scope (d_Move_init.dvs K) (d_Move_init.kws K) (He.fAd K d_Move_init.at_) fd := T.c.def_ 8
theorem Txt.d_Move_middle (T : Txt K mg base) : ∃ fd, FunD K d_Move_middle.name d_Move_middle.qual d_Move_middle.params d_Move_middle.body d_Move_middle.scope (d_Move_middle.dvs K) (d_Move_middle.kws K) (He.fAd K d_Move_middle.at_) fd := T.c.def_ 9
theorem Txt.d_Move_halves (T : Txt K mg base) : ∃ fd, FunD K d_Move_halves.name d_Move_halves.qual d_Move_halves.params d_Move_halves.body d_Move_halves.scope (d_Move_halves.dvs K) (d_Move_halves.kws K) (He.fAd K d_Move_halves.at_) fd := T.c.def_ 10
theorem Txt.d_Move_slack (T : Txt K mg base) : ∃ fd, FunD K d_Move_slack.name d_Move_slack.qual d_Move_slack.params d_Move_slack.body d_Move_slack.scope (d_Move_slack.dvs K) (d_Move_slack.kws K) (He.fAd K d_Move_slack.at_) fd := T.c.def_ 11
theorem Txt.d_lower (T : Txt K mg base) : ∃ fd, FunD K d_lower.name d_lower.qual d_lower.params d_lower.body d_lower.scope (d_lower.dvs K) (d_lower.kws K) (He.fAd K d_lower.at_) fd := T.c.def_ 12
theorem Txt.d_upper (T : Txt K mg base) : ∃ fd, FunD K d_upper.name d_upper.qual d_upper.params d_upper.body d_upper.scope (d_upper.dvs K) (d_upper.kws K) (He.fAd K d_upper.at_) fd := T.c.def_ 13
theorem Txt.d_reduced (T : Txt K mg base) : ∃ fd, FunD K d_reduced.name d_reduced.qual d_reduced.params d_reduced.body d_reduced.scope (d_reduced.dvs K) (d_reduced.kws K) (He.fAd K d_reduced.at_) fd := T.c.def_ 14
theorem Txt.d_turned (T : Txt K mg base) : ∃ fd, FunD K d_turned.name d_turned.qual d_turned.params d_turned.body d_turned.scope (d_turned.dvs K) (d_turned.kws K) (He.fAd K d_turned.at_) fd := T.c.def_ 15
theorem Txt.d_shifted (T : Txt K mg base) : ∃ fd, FunD K d_shifted.name d_shifted.qual d_shifted.params d_shifted.body d_shifted.scope (d_shifted.dvs K) (d_shifted.kws K) (He.fAd K d_shifted.at_) fd := T.c.def_ 16
theorem Txt.d_added (T : Txt K mg base) : ∃ fd, FunD K d_added.name d_added.qual d_added.params d_added.body d_added.scope (d_added.dvs K) (d_added.kws K) (He.fAd K d_added.at_) fd := T.c.def_ 17
theorem Txt.d_true_place (T : Txt K mg base) : ∃ fd, FunD K d_true_place.name d_true_place.qual d_true_place.params d_true_place.body d_true_place.scope (d_true_place.dvs K) (d_true_place.kws K) (He.fAd K d_true_place.at_) fd := T.c.def_ 18
theorem Txt.d_spot (T : Txt K mg base) : ∃ fd, FunD K d_spot.name d_spot.qual d_spot.params d_spot.body d_spot.scope (d_spot.dvs K) (d_spot.kws K) (He.fAd K d_spot.at_) fd := T.c.def_ 19
theorem Txt.d_unknown (T : Txt K mg base) : ∃ fd, FunD K d_unknown.name d_unknown.qual d_unknown.params d_unknown.body d_unknown.scope (d_unknown.dvs K) (d_unknown.kws K) (He.fAd K d_unknown.at_) fd := T.c.def_ 20
theorem Txt.d_Gap_init (T : Txt K mg base) : ∃ fd, FunD K d_Gap_init.name d_Gap_init.qual d_Gap_init.params d_Gap_init.body d_Gap_init.scope (d_Gap_init.dvs K) (d_Gap_init.kws K) (He.fAd K d_Gap_init.at_) fd := T.c.def_ 21
theorem Txt.d_Gap_beyond (T : Txt K mg base) : ∃ fd, FunD K d_Gap_beyond.name d_Gap_beyond.qual d_Gap_beyond.params d_Gap_beyond.body d_Gap_beyond.scope (d_Gap_beyond.dvs K) (d_Gap_beyond.kws K) (He.fAd K d_Gap_beyond.at_) fd := T.c.def_ 22
theorem Txt.d_Gap_within (T : Txt K mg base) : ∃ fd, FunD K d_Gap_within.name d_Gap_within.qual d_Gap_within.params d_Gap_within.body d_Gap_within.scope (d_Gap_within.dvs K) (d_Gap_within.kws K) (He.fAd K d_Gap_within.at_) fd := T.c.def_ 23
theorem Txt.d_Gap_shorter (T : Txt K mg base) : ∃ fd, FunD K d_Gap_shorter.name d_Gap_shorter.qual d_Gap_shorter.params d_Gap_shorter.body d_Gap_shorter.scope (d_Gap_shorter.dvs K) (d_Gap_shorter.kws K) (He.fAd K d_Gap_shorter.at_) fd := T.c.def_ 24
theorem Txt.d_turned_round (T : Txt K mg base) : ∃ fd, FunD K d_turned_round.name d_turned_round.qual d_turned_round.params d_turned_round.body d_turned_round.scope (d_turned_round.dvs K) (d_turned_round.kws K) (He.fAd K d_turned_round.at_) fd := T.c.def_ 25
theorem Txt.d_shortest (T : Txt K mg base) : ∃ fd, FunD K d_shortest.name d_shortest.qual d_shortest.params d_shortest.body d_shortest.scope (d_shortest.dvs K) (d_shortest.kws K) (He.fAd K d_shortest.at_) fd := T.c.def_ 26
theorem Txt.d_place_gap (T : Txt K mg base) : ∃ fd, FunD K d_place_gap.name d_place_gap.qual d_place_gap.params d_place_gap.body d_place_gap.scope (d_place_gap.dvs K) (d_place_gap.kws K) (He.fAd K d_place_gap.at_) fd := T.c.def_ 27
theorem Txt.d_crossing_gap (T : Txt K mg base) : ∃ fd, FunD K d_crossing_gap.name d_crossing_gap.qual d_crossing_gap.params d_crossing_gap.body d_crossing_gap.scope (d_crossing_gap.dvs K) (d_crossing_gap.kws K) (He.fAd K d_crossing_gap.at_) fd := T.c.def_ 28
theorem Txt.d_line_gap (T : Txt K mg base) : ∃ fd, FunD K d_line_gap.name d_line_gap.qual d_line_gap.params d_line_gap.body d_line_gap.scope (d_line_gap.dvs K) (d_line_gap.kws K) (He.fAd K d_line_gap.at_) fd := T.c.def_ 29
theorem Txt.d_direction (T : Txt K mg base) : ∃ fd, FunD K d_direction.name d_direction.qual d_direction.params d_direction.body d_direction.scope (d_direction.dvs K) (d_direction.kws K) (He.fAd K d_direction.at_) fd := T.c.def_ 30
theorem Txt.d_parts_places (T : Txt K mg base) : ∃ fd, FunD K d_parts_places.name d_parts_places.qual d_parts_places.params d_parts_places.body d_parts_places.scope (d_parts_places.dvs K) (d_parts_places.kws K) (He.fAd K d_parts_places.at_) fd := T.c.def_ 31
theorem Txt.d_Mover_init (T : Txt K mg base) : ∃ fd, FunD K d_Mover_init.name d_Mover_init.qual d_Mover_init.params d_Mover_init.body d_Mover_init.scope (d_Mover_init.dvs K) (d_Mover_init.kws K) (He.fAd K d_Mover_init.at_) fd := T.c.def_ 32
theorem Txt.d_Mover_bodies (T : Txt K mg base) : ∃ fd, FunD K d_Mover_bodies.name d_Mover_bodies.qual d_Mover_bodies.params d_Mover_bodies.body d_Mover_bodies.scope (d_Mover_bodies.dvs K) (d_Mover_bodies.kws K) (He.fAd K d_Mover_bodies.at_) fd := T.c.def_ 33
theorem Txt.d_Mover_lines (T : Txt K mg base) : ∃ fd, FunD K d_Mover_lines.name d_Mover_lines.qual d_Mover_lines.params d_Mover_lines.body d_Mover_lines.scope (d_Mover_lines.dvs K) (d_Mover_lines.kws K) (He.fAd K d_Mover_lines.at_) fd := T.c.def_ 34
theorem Txt.d_Mover_unknowns (T : Txt K mg base) : ∃ fd, FunD K d_Mover_unknowns.name d_Mover_unknowns.qual d_Mover_unknowns.params d_Mover_unknowns.body d_Mover_unknowns.scope (d_Mover_unknowns.dvs K) (d_Mover_unknowns.kws K) (He.fAd K d_Mover_unknowns.at_) fd := T.c.def_ 35
theorem Txt.d_Matter_init (T : Txt K mg base) : ∃ fd, FunD K d_Matter_init.name d_Matter_init.qual d_Matter_init.params d_Matter_init.body d_Matter_init.scope (d_Matter_init.dvs K) (d_Matter_init.kws K) (He.fAd K d_Matter_init.at_) fd := T.c.def_ 36
theorem Txt.d_Matter_pairs (T : Txt K mg base) : ∃ fd, FunD K d_Matter_pairs.name d_Matter_pairs.qual d_Matter_pairs.params d_Matter_pairs.body d_Matter_pairs.scope (d_Matter_pairs.dvs K) (d_Matter_pairs.kws K) (He.fAd K d_Matter_pairs.at_) fd := T.c.def_ 37
theorem Txt.d_Matter_views (T : Txt K mg base) : ∃ fd, FunD K d_Matter_views.name d_Matter_views.qual d_Matter_views.params d_Matter_views.body d_Matter_views.scope (d_Matter_views.dvs K) (d_Matter_views.kws K) (He.fAd K d_Matter_views.at_) fd := T.c.def_ 38
theorem Txt.d_sides (T : Txt K mg base) : ∃ fd, FunD K d_sides.name d_sides.qual d_sides.params d_sides.body d_sides.scope (d_sides.dvs K) (d_sides.kws K) (He.fAd K d_sides.at_) fd := T.c.def_ 39
theorem Txt.d_way_between (T : Txt K mg base) : ∃ fd, FunD K d_way_between.name d_way_between.qual d_way_between.params d_way_between.body d_way_between.scope (d_way_between.dvs K) (d_way_between.kws K) (He.fAd K d_way_between.at_) fd := T.c.def_ 40
theorem Txt.d_is_parted (T : Txt K mg base) : ∃ fd, FunD K d_is_parted.name d_is_parted.qual d_is_parted.params d_is_parted.body d_is_parted.scope (d_is_parted.dvs K) (d_is_parted.kws K) (He.fAd K d_is_parted.at_) fd := T.c.def_ 41
theorem Txt.d_contact (T : Txt K mg base) : ∃ fd, FunD K d_contact.name d_contact.qual d_contact.params d_contact.body d_contact.scope (d_contact.dvs K) (d_contact.kws K) (He.fAd K d_contact.at_) fd := T.c.def_ 42
theorem Txt.d_is_leaf_right (T : Txt K mg base) : ∃ fd, FunD K d_is_leaf_right.name d_is_leaf_right.qual d_is_leaf_right.params d_is_leaf_right.body d_is_leaf_right.scope (d_is_leaf_right.dvs K) (d_is_leaf_right.kws K) (He.fAd K d_is_leaf_right.at_) fd := T.c.def_ 43
theorem Txt.d_is_right (T : Txt K mg base) : ∃ fd, FunD K d_is_right.name d_is_right.qual d_is_right.params d_is_right.body d_is_right.scope (d_is_right.dvs K) (d_is_right.kws K) (He.fAd K d_is_right.at_) fd := T.c.def_ 44
theorem Txt.d_judge (T : Txt K mg base) : ∃ fd, FunD K d_judge.name d_judge.qual d_judge.params d_judge.body d_judge.scope (d_judge.dvs K) (d_judge.kws K) (He.fAd K d_judge.at_) fd := T.c.def_ 45
theorem Txt.d_Verdict_init (T : Txt K mg base) : ∃ fd, FunD K d_Verdict_init.name d_Verdict_init.qual d_Verdict_init.params d_Verdict_init.body d_Verdict_init.scope (d_Verdict_init.dvs K) (d_Verdict_init.kws K) (He.fAd K d_Verdict_init.at_) fd := T.c.def_ 46
theorem Txt.d_most_gain (T : Txt K mg base) : ∃ fd, FunD K d_most_gain.name d_most_gain.qual d_most_gain.params d_most_gain.body d_most_gain.scope (d_most_gain.dvs K) (d_most_gain.kws K) (He.fAd K d_most_gain.at_) fd := T.c.def_ 47
theorem Txt.d_halves_second (T : Txt K mg base) : ∃ fd, FunD K d_halves_second.name d_halves_second.qual d_halves_second.params d_halves_second.body d_halves_second.scope (d_halves_second.dvs K) (d_halves_second.kws K) (He.fAd K d_halves_second.at_) fd := T.c.def_ 48
theorem Txt.d_look (T : Txt K mg base) : ∃ fd, FunD K d_look.name d_look.qual d_look.params d_look.body d_look.scope (d_look.dvs K) (d_look.kws K) (He.fAd K d_look.at_) fd := T.c.def_ 49
theorem Txt.d_search (T : Txt K mg base) : ∃ fd, FunD K d_search.name d_search.qual d_search.params d_search.body d_search.scope (d_search.dvs K) (d_search.kws K) (He.fAd K d_search.at_) fd := T.c.def_ 50
theorem Txt.d_find_verdict (T : Txt K mg base) : ∃ fd, FunD K d_find_verdict.name d_find_verdict.qual d_find_verdict.params d_find_verdict.body d_find_verdict.scope (d_find_verdict.dvs K) (d_find_verdict.kws K) (He.fAd K d_find_verdict.at_) fd := T.c.def_ 51
theorem Txt.d_is_within (T : Txt K mg base) : ∃ fd, FunD K d_is_within.name d_is_within.qual d_is_within.params d_is_within.body d_is_within.scope (d_is_within.dvs K) (d_is_within.kws K) (He.fAd K d_is_within.at_) fd := T.c.def_ 52
theorem Txt.d_Joint_init (T : Txt K mg base) : ∃ fd, FunD K d_Joint_init.name d_Joint_init.qual d_Joint_init.params d_Joint_init.body d_Joint_init.scope (d_Joint_init.dvs K) (d_Joint_init.kws K) (He.fAd K d_Joint_init.at_) fd := T.c.def_ 53
theorem Txt.d_Body_init (T : Txt K mg base) : ∃ fd, FunD K d_Body_init.name d_Body_init.qual d_Body_init.params d_Body_init.body d_Body_init.scope (d_Body_init.dvs K) (d_Body_init.kws K) (He.fAd K d_Body_init.at_) fd := T.c.def_ 54
theorem Txt.d_Capsule_init (T : Txt K mg base) : ∃ fd, FunD K d_Capsule_init.name d_Capsule_init.qual d_Capsule_init.params d_Capsule_init.body d_Capsule_init.scope (d_Capsule_init.dvs K) (d_Capsule_init.kws K) (He.fAd K d_Capsule_init.at_) fd := T.c.def_ 55
theorem Txt.d_Arm_init (T : Txt K mg base) : ∃ fd, FunD K d_Arm_init.name d_Arm_init.qual d_Arm_init.params d_Arm_init.body d_Arm_init.scope (d_Arm_init.dvs K) (d_Arm_init.kws K) (He.fAd K d_Arm_init.at_) fd := T.c.def_ 56
theorem Txt.d_Arm_fits (T : Txt K mg base) : ∃ fd, FunD K d_Arm_fits.name d_Arm_fits.qual d_Arm_fits.params d_Arm_fits.body d_Arm_fits.scope (d_Arm_fits.dvs K) (d_Arm_fits.kws K) (He.fAd K d_Arm_fits.at_) fd := T.c.def_ 57
theorem Txt.d_lw_rows (T : Txt K mg base) : ∃ fd, FunD K d_lw_rows.name d_lw_rows.qual d_lw_rows.params d_lw_rows.body d_lw_rows.scope (d_lw_rows.dvs K) (d_lw_rows.kws K) (He.fAd K d_lw_rows.at_) fd := T.c.def_ 58
theorem Txt.d_lw_joint (T : Txt K mg base) : ∃ fd, FunD K d_lw_joint.name d_lw_joint.qual d_lw_joint.params d_lw_joint.body d_lw_joint.scope (d_lw_joint.dvs K) (d_lw_joint.kws K) (He.fAd K d_lw_joint.at_) fd := T.c.def_ 59
theorem Txt.d_lw_capsule (T : Txt K mg base) : ∃ fd, FunD K d_lw_capsule.name d_lw_capsule.qual d_lw_capsule.params d_lw_capsule.body d_lw_capsule.scope (d_lw_capsule.dvs K) (d_lw_capsule.kws K) (He.fAd K d_lw_capsule.at_) fd := T.c.def_ 60
theorem Txt.d_lw_values (T : Txt K mg base) : ∃ fd, FunD K d_lw_values.name d_lw_values.qual d_lw_values.params d_lw_values.body d_lw_values.scope (d_lw_values.dvs K) (d_lw_values.kws K) (He.fAd K d_lw_values.at_) fd := T.c.def_ 61
theorem Txt.d_lw_arm (T : Txt K mg base) : ∃ fd, FunD K d_lw_arm.name d_lw_arm.qual d_lw_arm.params d_lw_arm.body d_lw_arm.scope (d_lw_arm.dvs K) (d_lw_arm.kws K) (He.fAd K d_lw_arm.at_) fd := T.c.def_ 62
theorem Txt.d_lw_mover (T : Txt K mg base) : ∃ fd, FunD K d_lw_mover.name d_lw_mover.qual d_lw_mover.params d_lw_mover.body d_lw_mover.scope (d_lw_mover.dvs K) (d_lw_mover.kws K) (He.fAd K d_lw_mover.at_) fd := T.c.def_ 63
theorem Txt.d_lw_turned (T : Txt K mg base) : ∃ fd, FunD K d_lw_turned.name d_lw_turned.qual d_lw_turned.params d_lw_turned.body d_lw_turned.scope (d_lw_turned.dvs K) (d_lw_turned.kws K) (He.fAd K d_lw_turned.at_) fd := T.c.def_ 64
theorem Txt.d_lw_true (T : Txt K mg base) : ∃ fd, FunD K d_lw_true.name d_lw_true.qual d_lw_true.params d_lw_true.body d_lw_true.scope (d_lw_true.dvs K) (d_lw_true.kws K) (He.fAd K d_lw_true.at_) fd := T.c.def_ 65
theorem Txt.d_lw_meant (T : Txt K mg base) : ∃ fd, FunD K d_lw_meant.name d_lw_meant.qual d_lw_meant.params d_lw_meant.body d_lw_meant.scope (d_lw_meant.dvs K) (d_lw_meant.kws K) (He.fAd K d_lw_meant.at_) fd := T.c.def_ 66
theorem Txt.d_lw_offsets (T : Txt K mg base) : ∃ fd, FunD K d_lw_offsets.name d_lw_offsets.qual d_lw_offsets.params d_lw_offsets.body d_lw_offsets.scope (d_lw_offsets.dvs K) (d_lw_offsets.kws K) (He.fAd K d_lw_offsets.at_) fd := T.c.def_ 67
theorem Txt.d_lw_true_line (T : Txt K mg base) : ∃ fd, FunD K d_lw_true_line.name d_lw_true_line.qual d_lw_true_line.params d_lw_true_line.body d_lw_true_line.scope (d_lw_true_line.dvs K) (d_lw_true_line.kws K) (He.fAd K d_lw_true_line.at_) fd := T.c.def_ 68
theorem Txt.d_lw_mix (T : Txt K mg base) : ∃ fd, FunD K d_lw_mix.name d_lw_mix.qual d_lw_mix.params d_lw_mix.body d_lw_mix.scope (d_lw_mix.dvs K) (d_lw_mix.kws K) (He.fAd K d_lw_mix.at_) fd := T.c.def_ 69
theorem Txt.d_lw_far (T : Txt K mg base) : ∃ fd, FunD K d_lw_far.name d_lw_far.qual d_lw_far.params d_lw_far.body d_lw_far.scope (d_lw_far.dvs K) (d_lw_far.kws K) (He.fAd K d_lw_far.at_) fd := T.c.def_ 70
theorem Txt.d_law (T : Txt K mg base) : ∃ fd, FunD K d_law.name d_law.qual d_law.params d_law.body d_law.scope (d_law.dvs K) (d_law.kws K) (He.fAd K d_law.at_) fd := T.c.def_ 71
theorem blt_ok {x : Str} {id : String} (X : K.In base) (G : base.Ns mainGlobals mg) (h : bltB K x id = true) : mg x = some (.builtin id) := by
  unfold bltB at h
  cases e : PySem.W.nsIn K mainGlobals x with
  | none => rw [e] at h; cases h
  | some o =>
    rw [e] at h
    cases o with
    | none => cases h
    | some v =>
      cases v with
      | builtin j =>
        have ej : j = id := of_decide_eq_true h
        rw [ej] at e
        exact PySem.W.mg_of X G e
      | _ => cases h
theorem Txt.b_gcd (T : Txt K mg base) : mg "gcd" = some (.builtin "math.gcd") := blt_ok T.X T.G (Bool.and_eq_true_iff.mp T.c.ex).1
theorem Txt.b_isqrt (T : Txt K mg base) : mg "isqrt" = some (.builtin "math.isqrt") := blt_ok T.X T.G (Bool.and_eq_true_iff.mp (Bool.and_eq_true_iff.mp T.c.ex).2).1
theorem Txt.t_WHOLE (T : Txt K mg base) (H : Hp) : SqT K H (He.ga K "WHOLE") [.int 0, .int 0] := He.tupB_ok (Bool.and_eq_true_iff.mp (Bool.and_eq_true_iff.mp T.c.ex).2).2 H
end
end Aw
namespace Aw
open PySem
/-! The program's functions as plain functions (no program in sight) -/
abbrev V3 := Int × Int × Int
abbrev P4 := Int × Int × Int × Int
def dot (p q : V3) : Int := p.1 * q.1 + p.2.1 * q.2.1 + p.2.2 * q.2.2
def plus (p q : V3) : V3 := (p.1 + q.1, p.2.1 + q.2.1, p.2.2 + q.2.2)
def minus (p q : V3) : V3 := (p.1 - q.1, p.2.1 - q.2.1, p.2.2 - q.2.2)
def scaled (p : V3) (f : Int) : V3 := (p.1 * f, p.2.1 * f, p.2.2 * f)
def isq (x : Int) : Int := ((Float64.isqrt x.toNat : Nat) : Int)
def rootUp (x : Int) : Int := if isq x * isq x = x then isq x else isq x + 1
def divUp (a b : Int) : Int := -((-a) / b)
def lengthUp (v : V3) : Int := rootUp (dot v v)
def iabs (x : Int) : Int := ((x.natAbs : Nat) : Int)
def greatest (v : V3) : Int := max (max (iabs v.1) (iabs v.2.1)) (iabs v.2.2)

structure Jt where
  turns : Bool
  axis : Int
  off : V3
  least : Int
  most : Int
  box : Int
  err : Int
  deriving Inhabited
structure Bd where
  first : V3
  last : V3
  radius : Int
  deriving Inhabited
structure Cp where
  link : Int
  body : Bd
  deriving Inhabited
structure Ar where
  joints : List Jt
  caps : List Cp
  beside : List (Int × Int)
  deriving Inhabited
structure Mv where
  first : List Int
  last : List Int
  deriving Inhabited
structure Mr where
  arm : Ar
  move : Mv
  held : List Bd
  deriving Inhabited
def small (m : Int) (v : V3) : Prop := (-m ≤ v.1 ∧ v.1 ≤ m) ∧ (-m ≤ v.2.1 ∧ v.2.1 ≤ m) ∧ (-m ≤ v.2.2 ∧ v.2.2 ≤ m)
structure JtOk (j : Jt) : Prop where
  axis : j.axis = 0 ∨ j.axis = 1 ∨ j.axis = 2
  off : small 10000000 j.off
  least : -10000000 ≤ j.least
  range : j.least ≤ j.most
  most : j.most ≤ 10000000
  box : 0 ≤ j.box ∧ j.box ≤ 100000
  err : 0 ≤ j.err ∧ j.err ≤ 100000
structure BdOk (b : Bd) : Prop where
  first : small 10000000 b.first
  last : small 10000000 b.last
  radius : 0 ≤ b.radius ∧ b.radius ≤ 1000000
structure ArOk (a : Ar) : Prop where
  j1 : 1 ≤ a.joints.length
  j6 : a.joints.length ≤ 6
  c8 : a.caps.length ≤ 8
  link : ∀ c ∈ a.caps, 0 ≤ c.link ∧ c.link ≤ a.joints.length
  js : ∀ j ∈ a.joints, JtOk j
  bs : ∀ c ∈ a.caps, BdOk c.body
  be : a.beside.length ≤ 100
/-- a row of values fits the joints -/
def Fits (js : List Jt) (row : List Int) : Prop := row.length = js.length ∧ ∀ k, k < js.length → (js.getD k default).least ≤ row.getD k default ∧ row.getD k default ≤ (js.getD k default).most
structure MrOk (m : Mr) : Prop where
  arm : ArOk m.arm
  first : Fits m.arm.joints m.move.first
  last : Fits m.arm.joints m.move.last
  held : m.held.length ≤ 4
  hs : ∀ b ∈ m.held, BdOk b

def turned (p : P4) (axis : Int) (v : Int × Int) : P4 :=
  let c := v.2 * v.2 - v.1 * v.1
  let s := 2 * v.1 * v.2
  let h := v.2 * v.2 + v.1 * v.1
  if axis = 0 then (p.1 * h, p.2.1 * c - p.2.2.1 * s, p.2.1 * s + p.2.2.1 * c, p.2.2.2 * h)
  else if axis = 1 then (p.2.2.1 * s + p.1 * c, p.2.1 * h, p.2.2.1 * c - p.1 * s, p.2.2.2 * h)
  else (p.1 * c - p.2.1 * s, p.1 * s + p.2.1 * c, p.2.2.1 * h, p.2.2.2 * h)
def shifted (p : P4) (axis : Int) (v : Int × Int) : P4 :=
  if axis = 0 then (p.1 * v.2 + v.1 * p.2.2.2, p.2.1 * v.2, p.2.2.1 * v.2, p.2.2.2 * v.2)
  else if axis = 1 then (p.1 * v.2, p.2.1 * v.2 + v.1 * p.2.2.2, p.2.2.1 * v.2, p.2.2.2 * v.2)
  else (p.1 * v.2, p.2.1 * v.2, p.2.2.1 * v.2 + v.1 * p.2.2.2, p.2.2.2 * v.2)
def added (p o : P4) : P4 := (p.1 * o.2.2.2 + o.1 * p.2.2.2, p.2.1 * o.2.2.2 + o.2.1 * p.2.2.2, p.2.2.1 * o.2.2.2 + o.2.2.1 * p.2.2.2, p.2.2.2 * o.2.2.2)
def igcd (a b : Int) : Int := ((Nat.gcd a.natAbs b.natAbs : Nat) : Int)
def common (p : P4) : Int := igcd (igcd p.1 p.2.1) (igcd p.2.2.1 p.2.2.2)
def reduced (p : P4) : P4 := (p.1 / common p, p.2.1 / common p, p.2.2.1 / common p, p.2.2.2 / common p)
def stepP (j : Jt) (v : Int × Int) (o p : P4) : P4 := reduced (added (if j.turns = true then turned p j.axis (v.1, v.2 * 1000000) else shifted p j.axis (v.1, v.2)) o)
def trueP (js : List Jt) (vals : List (Int × Int)) (offs : List P4) : Nat → P4 → P4
  | 0, p => p
  | k + 1, p => trueP js vals offs k (stepP (js.getD k default) (vals.getD k default) (offs.getD k default) p)
def offP (j : Jt) : P4 := (j.off.1, j.off.2.1, j.off.2.2, 1)
def spotQ (js : List Jt) (row : List Int) (link : Nat) (p : V3) : P4 := trueP js (row.map fun v => (v, 1)) (js.map offP) link (p.1, p.2.1, p.2.2, 1)
def spot (js : List Jt) (row : List Int) (link : Nat) (p : V3) : V3 :=
  ((spotQ js row link p).1 / (spotQ js row link p).2.2.2, (spotQ js row link p).2.1 / (spotQ js row link p).2.2.2, (spotQ js row link p).2.2.1 / (spotQ js row link p).2.2.2)
/-- (apart, lever) behind one joint -/
def unkStep (j : Jt) (half : Int) (s : Int × Int) : Int × Int :=
  if j.turns = true then (s.1 + divUp (2 * s.2 * (half + j.err)) 1000000 + 2 * j.box, s.2 + lengthUp j.off + 2 * j.box)
  else (s.1 + (half + j.err) + 2 * j.box, s.2 + max (iabs j.least) (iabs j.most) + j.err + lengthUp j.off + 2 * j.box)
def unk (js : List Jt) (hs : List Int) : Nat → Int × Int → Int × Int
  | 0, s => s
  | k + 1, s => unk js hs k (unkStep (js.getD k default) (hs.getD k default) s)
def unknown (js : List Jt) (hs : List Int) (link : Nat) (b : Bd) : Int := (unk js hs link (2, max (lengthUp b.first) (lengthUp b.last))).1

abbrev Part := Int × Int
def lower (p : Part) : Part := (p.1 + 1, 2 * p.2)
def upper (p : Part) : Part := (p.1 + 1, 2 * p.2 + 1)
def PartOk (p : Part) : Prop := 0 ≤ p.1 ∧ p.1 ≤ 20 ∧ 0 ≤ p.2 ∧ p.2 < 2 ^ p.1.toNat
def midAt (m : Mv) (p : Part) (k : Nat) : Int := m.first.getD k default + (m.last.getD k default - m.first.getD k default) * (2 * p.2 + 1) / 2 ^ (p.1 + 1).toNat
def middle (m : Mv) (p : Part) : List Int := (List.range m.first.length).map (midAt m p)
def halfAt (m : Mv) (d : Int) (k : Nat) : Int := if 0 < iabs (m.last.getD k default - m.first.getD k default) then divUp (iabs (m.last.getD k default - m.first.getD k default)) (2 ^ (d + 1).toNat) + 1 else 0
def halves (m : Mv) (d : Int) : List Int := (List.range m.first.length).map (halfAt m d)
def slackAt (m : Mv) (k : Nat) : Int := if (!decide (m.first.getD k default = m.last.getD k default)) = true then 1 else 0
def slack (m : Mv) : List Int := (List.range m.first.length).map (slackAt m)

def bodies (m : Mr) : List (Int × Bd) := (m.arm.caps.map fun c => (c.link, c.body)) ++ m.held.map fun b => ((m.arm.joints.length : Int), b)
abbrev Line := V3 × V3
def lineOf (m : Mr) (row : List Int) (b : Int × Bd) : Line := (spot m.arm.joints row b.1.toNat b.2.first, spot m.arm.joints row b.1.toNat b.2.last)
def lines (m : Mr) (p : Part) : List Line := (bodies m).map (lineOf m (middle m.move p))
def unknowns (m : Mr) (hs : List Int) : List Int := (bodies m).map fun b => unknown m.arm.joints hs b.1.toNat b.2
abbrev Side := Line × Int × Int
def sideAt (m : Mr) (p : Part) (hs : List Int) (k : Nat) : Side := ((lines m p).getD k default, ((bodies m).getD k default).2.radius, (unknowns m hs).getD k default)
def sides (m : Mr) (p : Part) (hs : List Int) : List Side := (List.range (bodies m).length).map (sideAt m p hs)
def datP (z : Int × Int) : PyData := .tuple [.int z.1, .int z.2]
def apartB (m : Mr) (k j : Nat) : Bool := decide (1 < iabs (((bodies m).map (·.1)).getD k default - ((bodies m).map (·.1)).getD j default)) && !((m.arm.beside.map datP).any fun z => PyData.eqv z (datP ((k : Int), (j : Int))))
def rowPairs (m : Mr) (k : Nat) (n : Nat) : List (Int × Int) := ((List.range n).filter fun i => apartB m k (k + 1 + i)).map fun i => ((k : Int), ((k + 1 + i : Nat) : Int))
def pairs (m : Mr) : List (Int × Int) := (List.range (bodies m).length).flatMap fun k => rowPairs m k ((bodies m).length - (k + 1))
abbrev View := Side × Side
def views (m : Mr) (p : Part) (hs : List Int) : List View := (pairs m).map fun q => ((sides m p hs).getD q.1.toNat default, (sides m p hs).getD q.2.toNat default)
def partsB (way : V3) (f s : Line) (reach : Int) : Bool := decide (lengthUp way * reach < min (dot way f.1) (dot way f.2) - max (dot way s.1) (dot way s.2))
def partedB (v : View) (way : V3) : Bool := partsB way v.1.1 v.2.1 (v.1.2.1 + v.1.2.2 + v.2.2.1 + v.2.2.2)
def leafB (m : Mr) (ways : List V3) (p : Part) : Bool := decide (ways.length = (views m p (halves m.move p.1)).length) && ((List.range (views m p (halves m.move p.1)).length).all fun k => decide (greatest (ways.getD k default) ≤ 1048576) && partedB ((views m p (halves m.move p.1)).getD k default) (ways.getD k default))
inductive Tree where
  | leaf (ws : List V3)
  | node (l h : Tree)
  deriving Inhabited
def Tree.depth : Tree → Nat
  | .leaf _ => 0
  | .node l h => max l.depth h.depth + 1
def rightB (m : Mr) : Tree → Part → Nat → Bool
  | .leaf ws, p, _ => leafB m ws p
  | .node _ _, _, 0 => false
  | .node l h, p, n + 1 => rightB m l (lower p) n && rightB m h (upper p) n
end Aw
namespace Aw
open PySem PySem.Spec L2
section
variable (K : PySem.W.Frag)
abbrev tZ2 (P : Int → Prop) : Ty Int := tZ P
def jtF (j : Jt) : List (Str × Ent) := [("turns", tBl.en j.turns), ("axis", (tI 24).en j.axis), ("offset", (tV K 24).en j.off), ("least", (tI 24).en j.least), ("most", (tI 24).en j.most), ("box", (tI 24).en j.box), ("error", (tI 24).en j.err), ("speed", (tI 64).en 1), ("accel", (tI 64).en 1), ("brake", (tI 64).en 1)]
def tJt : Ty Jt := yObj K "Joint" (jtF K) JtOk
def bdF (b : Bd) : List (Str × Ent) := [("first", (tV K 24).en b.first), ("last", (tV K 24).en b.last), ("radius", (tI 24).en b.radius)]
def tBd : Ty Bd := yObj K "Body" (bdF K) BdOk
def cpF (c : Cp) : List (Str × Ent) := [("link", (tI 24).en c.link), ("body", (tBd K).en c.body)]
def tCp : Ty Cp := yObj K "Capsule" (cpF K) fun _ => True
def arF (a : Ar) : List (Str × Ent) := [("joints", (yTupL K (tJt K)).en a.joints), ("capsules", (yTupL K (tCp K)).en a.caps), ("beside", (yTupL K (yT2 K (tI 64) (tI 64))).en a.beside)]
def tAr : Ty Ar := yObj K "Arm" (arF K) ArOk
def mvF (m : Mv) : List (Str × Ent) := [("first", (yTupL K (tI 24)).en m.first), ("last", (yTupL K (tI 24)).en m.last)]
def tMv : Ty Mv := yObj K "Move" (mvF K) fun m => m.first.length = m.last.length ∧ m.first.length ≤ 6
def mrF (m : Mr) : List (Str × Ent) := [("arm", (tAr K).en m.arm), ("move", (tMv K).en m.move), ("held", (yTupL K (tBd K)).en m.held)]
def tMr : Ty Mr := yObj K "Mover" (mrF K) MrOk
def mtF (m : Mr) : List (Str × Ent) := [("kind", tStr.en "self"), ("mover", (tMr K).en m), ("other", tNon.en ())]
def tMt : Ty Mr := yObj K "Matter" (mtF K) fun _ => True
structure Gp where
  vector : V3
  scale : Int
  deriving Inhabited
def gpF (a b : Nat) (g : Gp) : List (Str × Ent) := [("vector", (tV K a).en g.vector), ("scale", (tI b).en g.scale)]
def tGp (a b : Nat) : Ty Gp := yObj K "Gap" (gpF K a b) fun _ => True
end
section
variable {K : PySem.W.Frag} {mg : Str → Option Value} {base : Heap} {G : Ctx} {ta : TE}
theorem l_Joint_turns (o : Jt) : (jtF K o).lookup ("turns" : Str) = some (tBl.en o.turns) := by kernel_rfl
theorem f_Joint_turns (T : Txt K mg base) {o : Jt} (h : Ev ta G ((tJt K).en o)) : Ev (tFld K ta "turns") G (tBl.en o.turns) := ev_fld (C := "Joint") h T.c_Joint T.n_Joint_turns (l_Joint_turns o)
theorem l_Joint_axis (o : Jt) : (jtF K o).lookup ("axis" : Str) = some ((tI 24).en o.axis) := by kernel_rfl
theorem f_Joint_axis (T : Txt K mg base) {o : Jt} (h : Ev ta G ((tJt K).en o)) : Ev (tFld K ta "axis") G ((tI 24).en o.axis) := ev_fld (C := "Joint") h T.c_Joint T.n_Joint_axis (l_Joint_axis o)
theorem l_Joint_offset (o : Jt) : (jtF K o).lookup ("offset" : Str) = some ((tV K 24).en o.off) := by kernel_rfl
theorem f_Joint_offset (T : Txt K mg base) {o : Jt} (h : Ev ta G ((tJt K).en o)) : Ev (tFld K ta "offset") G ((tV K 24).en o.off) := ev_fld (C := "Joint") h T.c_Joint T.n_Joint_offset (l_Joint_offset o)
theorem l_Joint_least (o : Jt) : (jtF K o).lookup ("least" : Str) = some ((tI 24).en o.least) := by kernel_rfl
theorem f_Joint_least (T : Txt K mg base) {o : Jt} (h : Ev ta G ((tJt K).en o)) : Ev (tFld K ta "least") G ((tI 24).en o.least) := ev_fld (C := "Joint") h T.c_Joint T.n_Joint_least (l_Joint_least o)
theorem l_Joint_most (o : Jt) : (jtF K o).lookup ("most" : Str) = some ((tI 24).en o.most) := by kernel_rfl
theorem f_Joint_most (T : Txt K mg base) {o : Jt} (h : Ev ta G ((tJt K).en o)) : Ev (tFld K ta "most") G ((tI 24).en o.most) := ev_fld (C := "Joint") h T.c_Joint T.n_Joint_most (l_Joint_most o)
theorem l_Joint_box (o : Jt) : (jtF K o).lookup ("box" : Str) = some ((tI 24).en o.box) := by kernel_rfl
theorem f_Joint_box (T : Txt K mg base) {o : Jt} (h : Ev ta G ((tJt K).en o)) : Ev (tFld K ta "box") G ((tI 24).en o.box) := ev_fld (C := "Joint") h T.c_Joint T.n_Joint_box (l_Joint_box o)
theorem l_Joint_error (o : Jt) : (jtF K o).lookup ("error" : Str) = some ((tI 24).en o.err) := by kernel_rfl
theorem f_Joint_error (T : Txt K mg base) {o : Jt} (h : Ev ta G ((tJt K).en o)) : Ev (tFld K ta "error") G ((tI 24).en o.err) := ev_fld (C := "Joint") h T.c_Joint T.n_Joint_error (l_Joint_error o)
theorem l_Body_first (o : Bd) : (bdF K o).lookup ("first" : Str) = some ((tV K 24).en o.first) := by kernel_rfl
theorem f_Body_first (T : Txt K mg base) {o : Bd} (h : Ev ta G ((tBd K).en o)) : Ev (tFld K ta "first") G ((tV K 24).en o.first) := ev_fld (C := "Body") h T.c_Body T.n_Body_first (l_Body_first o)
theorem l_Body_last (o : Bd) : (bdF K o).lookup ("last" : Str) = some ((tV K 24).en o.last) := by kernel_rfl
theorem f_Body_last (T : Txt K mg base) {o : Bd} (h : Ev ta G ((tBd K).en o)) : Ev (tFld K ta "last") G ((tV K 24).en o.last) := ev_fld (C := "Body") h T.c_Body T.n_Body_last (l_Body_last o)
theorem l_Body_radius (o : Bd) : (bdF K o).lookup ("radius" : Str) = some ((tI 24).en o.radius) := by kernel_rfl
theorem f_Body_radius (T : Txt K mg base) {o : Bd} (h : Ev ta G ((tBd K).en o)) : Ev (tFld K ta "radius") G ((tI 24).en o.radius) := ev_fld (C := "Body") h T.c_Body T.n_Body_radius (l_Body_radius o)
theorem l_Capsule_link (o : Cp) : (cpF K o).lookup ("link" : Str) = some ((tI 24).en o.link) := by kernel_rfl
theorem f_Capsule_link (T : Txt K mg base) {o : Cp} (h : Ev ta G ((tCp K).en o)) : Ev (tFld K ta "link") G ((tI 24).en o.link) := ev_fld (C := "Capsule") h T.c_Capsule T.n_Capsule_link (l_Capsule_link o)
theorem l_Capsule_body (o : Cp) : (cpF K o).lookup ("body" : Str) = some ((tBd K).en o.body) := by kernel_rfl
theorem f_Capsule_body (T : Txt K mg base) {o : Cp} (h : Ev ta G ((tCp K).en o)) : Ev (tFld K ta "body") G ((tBd K).en o.body) := ev_fld (C := "Capsule") h T.c_Capsule T.n_Capsule_body (l_Capsule_body o)
theorem l_Arm_joints (o : Ar) : (arF K o).lookup ("joints" : Str) = some ((yTupL K (tJt K)).en o.joints) := by kernel_rfl
theorem f_Arm_joints (T : Txt K mg base) {o : Ar} (h : Ev ta G ((tAr K).en o)) : Ev (tFld K ta "joints") G ((yTupL K (tJt K)).en o.joints) := ev_fld (C := "Arm") h T.c_Arm T.n_Arm_joints (l_Arm_joints o)
theorem l_Arm_capsules (o : Ar) : (arF K o).lookup ("capsules" : Str) = some ((yTupL K (tCp K)).en o.caps) := by kernel_rfl
theorem f_Arm_capsules (T : Txt K mg base) {o : Ar} (h : Ev ta G ((tAr K).en o)) : Ev (tFld K ta "capsules") G ((yTupL K (tCp K)).en o.caps) := ev_fld (C := "Arm") h T.c_Arm T.n_Arm_capsules (l_Arm_capsules o)
theorem l_Arm_beside (o : Ar) : (arF K o).lookup ("beside" : Str) = some ((yTupL K (yT2 K (tI 64) (tI 64))).en o.beside) := by kernel_rfl
theorem f_Arm_beside (T : Txt K mg base) {o : Ar} (h : Ev ta G ((tAr K).en o)) : Ev (tFld K ta "beside") G ((yTupL K (yT2 K (tI 64) (tI 64))).en o.beside) := ev_fld (C := "Arm") h T.c_Arm T.n_Arm_beside (l_Arm_beside o)
theorem z_Arm_fits (o : Ar) : (arF K o).lookup ("fits" : Str) = none := by kernel_rfl
theorem l_Move_first (o : Mv) : (mvF K o).lookup ("first" : Str) = some ((yTupL K (tI 24)).en o.first) := by kernel_rfl
theorem f_Move_first (T : Txt K mg base) {o : Mv} (h : Ev ta G ((tMv K).en o)) : Ev (tFld K ta "first") G ((yTupL K (tI 24)).en o.first) := ev_fld (C := "Move") h T.c_Move T.n_Move_first (l_Move_first o)
theorem l_Move_last (o : Mv) : (mvF K o).lookup ("last" : Str) = some ((yTupL K (tI 24)).en o.last) := by kernel_rfl
theorem f_Move_last (T : Txt K mg base) {o : Mv} (h : Ev ta G ((tMv K).en o)) : Ev (tFld K ta "last") G ((yTupL K (tI 24)).en o.last) := ev_fld (C := "Move") h T.c_Move T.n_Move_last (l_Move_last o)
theorem z_Move_middle (o : Mv) : (mvF K o).lookup ("middle" : Str) = none := by kernel_rfl
theorem z_Move_halves (o : Mv) : (mvF K o).lookup ("halves" : Str) = none := by kernel_rfl
theorem z_Move_slack (o : Mv) : (mvF K o).lookup ("slack" : Str) = none := by kernel_rfl
theorem l_Mover_arm (o : Mr) : (mrF K o).lookup ("arm" : Str) = some ((tAr K).en o.arm) := by kernel_rfl
theorem f_Mover_arm (T : Txt K mg base) {o : Mr} (h : Ev ta G ((tMr K).en o)) : Ev (tFld K ta "arm") G ((tAr K).en o.arm) := ev_fld (C := "Mover") h T.c_Mover T.n_Mover_arm (l_Mover_arm o)
theorem l_Mover_move (o : Mr) : (mrF K o).lookup ("move" : Str) = some ((tMv K).en o.move) := by kernel_rfl
theorem f_Mover_move (T : Txt K mg base) {o : Mr} (h : Ev ta G ((tMr K).en o)) : Ev (tFld K ta "move") G ((tMv K).en o.move) := ev_fld (C := "Mover") h T.c_Mover T.n_Mover_move (l_Mover_move o)
theorem l_Mover_held (o : Mr) : (mrF K o).lookup ("held" : Str) = some ((yTupL K (tBd K)).en o.held) := by kernel_rfl
theorem f_Mover_held (T : Txt K mg base) {o : Mr} (h : Ev ta G ((tMr K).en o)) : Ev (tFld K ta "held") G ((yTupL K (tBd K)).en o.held) := ev_fld (C := "Mover") h T.c_Mover T.n_Mover_held (l_Mover_held o)
theorem z_Mover_bodies (o : Mr) : (mrF K o).lookup ("bodies" : Str) = none := by kernel_rfl
theorem z_Mover_lines (o : Mr) : (mrF K o).lookup ("lines" : Str) = none := by kernel_rfl
theorem z_Mover_unknowns (o : Mr) : (mrF K o).lookup ("unknowns" : Str) = none := by kernel_rfl
theorem l_Matter_kind (o : Mr) : (mtF K o).lookup ("kind" : Str) = some (tStr.en "self") := by kernel_rfl
theorem f_Matter_kind (T : Txt K mg base) {o : Mr} (h : Ev ta G ((tMt K).en o)) : Ev (tFld K ta "kind") G (tStr.en "self") := ev_fld (C := "Matter") h T.c_Matter T.n_Matter_kind (l_Matter_kind o)
theorem l_Matter_mover (o : Mr) : (mtF K o).lookup ("mover" : Str) = some ((tMr K).en o) := by kernel_rfl
theorem f_Matter_mover (T : Txt K mg base) {o : Mr} (h : Ev ta G ((tMt K).en o)) : Ev (tFld K ta "mover") G ((tMr K).en o) := ev_fld (C := "Matter") h T.c_Matter T.n_Matter_mover (l_Matter_mover o)
theorem l_Matter_other (o : Mr) : (mtF K o).lookup ("other" : Str) = some (tNon.en ()) := by kernel_rfl
theorem f_Matter_other (T : Txt K mg base) {o : Mr} (h : Ev ta G ((tMt K).en o)) : Ev (tFld K ta "other") G (tNon.en ()) := ev_fld (C := "Matter") h T.c_Matter T.n_Matter_other (l_Matter_other o)
theorem z_Matter_pairs (o : Mr) : (mtF K o).lookup ("pairs" : Str) = none := by kernel_rfl
theorem z_Matter_views (o : Mr) : (mtF K o).lookup ("views" : Str) = none := by kernel_rfl
theorem l_Gap_vector (a b : Nat) (o : Gp) : (gpF K a b o).lookup ("vector" : Str) = some ((tV K a).en o.vector) := by kernel_rfl
theorem f_Gap_vector (T : Txt K mg base) {a b : Nat} {o : Gp} (h : Ev ta G ((tGp K a b).en o)) : Ev (tFld K ta "vector") G ((tV K a).en o.vector) := ev_fld (C := "Gap") h T.c_Gap T.n_Gap_vector (l_Gap_vector a b o)
theorem l_Gap_scale (a b : Nat) (o : Gp) : (gpF K a b o).lookup ("scale" : Str) = some ((tI b).en o.scale) := by kernel_rfl
theorem f_Gap_scale (T : Txt K mg base) {a b : Nat} {o : Gp} (h : Ev ta G ((tGp K a b).en o)) : Ev (tFld K ta "scale") G ((tI b).en o.scale) := ev_fld (C := "Gap") h T.c_Gap T.n_Gap_scale (l_Gap_scale a b o)
theorem z_Gap_beyond (a b : Nat) (o : Gp) : (gpF K a b o).lookup ("beyond" : Str) = none := by kernel_rfl
theorem z_Gap_within (a b : Nat) (o : Gp) : (gpF K a b o).lookup ("within" : Str) = none := by kernel_rfl
theorem z_Gap_shorter (a b : Nat) (o : Gp) : (gpF K a b o).lookup ("shorter" : Str) = none := by kernel_rfl
theorem gp_le {a b c d : Nat} {g : Gp} (h1 : a ≤ c) (h2 : b ≤ d) (F : Hp) (v : V) (r : (tGp K a b).rel F v g) : (tGp K c d).rel F v g := by
  obtain ⟨x, dx, gs, e, hx, r, p⟩ := r
  refine ⟨x, dx, gs, e, hx, ?_, p⟩
  cases r with
  | cons r1 r => cases r with
    | cons r2 r => cases r with
      | nil => exact .cons ⟨r1.1, tV_le h1 F _ r1.2⟩ (.cons ⟨r2.1, tI_le h2 F _ r2.2⟩ .nil)
end
end Aw
namespace Aw
open PySem PySem.Spec L2
local macro_rules | `(tactic| walk_at "sd") => `(tactic| first | decide | assumption | omega | (simp only [Int.toNat_natCast]; omega))
local macro_rules | `(tactic| walk_at "ev") => `(tactic| first
  | ((with_reducible apply ev_var); (exact rfl))
  | ((with_reducible apply ev_int64); (decide))
  | ((with_reducible apply ev_int); (decide))
  | ((with_reducible apply ev_bl))
  | ((with_reducible apply ev_str))
  | ((with_reducible apply ev_non))
  | ((with_reducible apply ev_add); (walk_at "ev"); (walk_at "ev"))
  | ((with_reducible apply ev_sub); (walk_at "ev"); (walk_at "ev"))
  | ((with_reducible apply ev_mul); (walk_at "ev"); (walk_at "ev"); (walk_at "sd"))
  | ((with_reducible apply ev_mulS); (walk_at "ev"); (walk_at "ev"); (walk_at "sd"))
  | ((with_reducible apply ev_neg); (walk_at "ev"))
  | ((with_reducible apply ev_ixTc); (walk_at "ev"); (exact rfl); (decide); (decide))
  | ((with_reducible apply ev_ixLc); (walk_at "ev"); (exact rfl); (decide); (decide))
  | ((with_reducible apply ev_abs); (walk_at "ev"))
  | ((with_reducible apply ev_intc); (walk_at "ev"))
  | ((with_reducible apply ev_max2); (walk_at "ev"); (walk_at "ev"))
  | ((with_reducible apply ev_max3); (walk_at "ev"); (walk_at "ev"); (walk_at "ev"))
  | ((with_reducible apply ev_lt); (walk_at "ev"); (walk_at "ev"))
  | ((with_reducible apply ev_lec); (walk_at "ev"); (walk_at "ev"))
  | ((with_reducible apply ev_gt); (walk_at "ev"); (walk_at "ev"))
  | ((with_reducible apply ev_ge); (walk_at "ev"); (walk_at "ev"))
  | ((with_reducible apply ev_eqI); (walk_at "ev"); (walk_at "ev"))
  | ((with_reducible apply ev_neI); (walk_at "ev"); (walk_at "ev"))
  | ((with_reducible apply ev_eqS); (walk_at "ev"); (walk_at "ev"))
  | ((with_reducible apply ev_neS); (walk_at "ev"); (walk_at "ev"))
  | ((with_reducible apply ev_notB); (walk_at "ev"); (walk_at "ev"))
  | ((with_reducible apply ev_notN); (walk_at "ev")))
local macro_rules | `(tactic| walk_at "fin") => `(tactic| (apply ev_fin; (walk_at "ev"); (walk_at "sd"); (first | rfl | assumption)))
local macro_rules | `(tactic| walk_at "wk") => `(tactic| (refine LeC.wk ?_; repeat (first | exact WkG.nil | apply WkG.keep | apply WkG.drop)))
local macro_rules | `(tactic| walk_at "et") => `(tactic| first
  | ((with_reducible apply et_test); (walk_at "ev")) | ((with_reducible apply et_B); (walk_at "ev")) | ((with_reducible apply et_not); (walk_at "et")))
theorem mul_self_nn (x : Int) : 0 ≤ x * x := by
  rcases Int.le_total 0 x with h | h
  · exact Int.mul_nonneg h h
  · exact Int.mul_nonneg_of_nonpos_of_nonpos h h
section
variable {P : Program} {w : World} {K : PySem.W.Frag} {mg : Str → Option Value} {base : Heap}
theorem sc_root_up : FnScope ["number", "root"] ["number"] (defScope s_root_up) := ⟨rfl, rfl, rfl, by decide +kernel, rfl, by decide +kernel, by decide +kernel⟩
def sp_root_up (K : PySem.W.Frag) : Sp := spFam (fun (z : Nat × Int) => [(tI z.1).en z.2]) (fun z => z.1 ≤ 64 ∧ 0 ≤ z.2) (fun z => (tI (z.1 + 2)).en (rootUp z.2))
theorem ok_root_up (T : Txt K mg base) : Fn P w K mg base "root_up" 1 ["number"] (sp_root_up K) := by
  obtain ⟨fd, F⟩ := T.d_root_up
  have S := sc_root_up
  refine ⟨_, fd, fam_ok F S (fun _ => rfl) 1 rfl (fun cdv A0 outer s H E hr => ?_), T.g_root_up, F.kp, FunD.bindsN F fun _ _ _ _ _ _ us hl => match us, hl with | [_], _ => rfl⟩
  refine ⟨_, (pss_cons (ps_set (i := 1) S.nd rfl (Or.inl rfl) (pe_callBfun kIsq rfl T.b_isqrt (pa_cons (pv 0) pa_nil)))
    (pss_cons (ps_if (pt_cmpR oEq (pe_op oMul (pv 1) (pv 1)) (pv 0) (nomark _)) (pss_one (ps_ret (pv 1))) pss_nil)
    (pss_one (ps_ret (pe_op oAdd (pv 1) pe_int))))), fun z hz B Nx Rt Bk Ct k => ?_⟩
  obtain ⟨n, x⟩ := z
  obtain ⟨hn, h0⟩ := hz
  have hn' : n ≤ 64 := hn
  refine go_seq (go_asg (ev_isq (ev_var rfl) h0 hn) ?_)
  refine go_seq (go_if (et_test (ev_eqI (ev_mul (ev_var rfl) (ev_var rfl) (by omega)) (ev_var rfl))) (fun hb => go_ret (ev_is (ev_le (ev_var rfl) (show n ≤ n + 2 by omega)) ?_) k) (fun hb => go_next (go_ret (ev_is (ev_le (ev_add (ev_var rfl) (ev_int (n := 1) (by decide))) ?_) ?_) k)))
  · exact (if_pos (of_decide_eq_true hb)).symm
  · show max n 1 + 1 ≤ n + 2
    omega
  · exact (if_neg (of_decide_eq_false hb)).symm
theorem sc_divide_up : FnScope ["number", "divisor"] ["number", "divisor"] (defScope s_divide_up) := ⟨rfl, rfl, rfl, by decide +kernel, rfl, by decide +kernel, by decide +kernel⟩
def sp_divide_up (K : PySem.W.Frag) : Sp := spFam (fun (z : Nat × Nat × Int × Int) => [(tI z.1).en z.2.2.1, (tI z.2.1).en z.2.2.2]) (fun z => z.2.1 ≤ 8000 ∧ 0 < z.2.2.2) (fun z => (tI z.1).en (divUp z.2.2.1 z.2.2.2))
theorem ok_divide_up (T : Txt K mg base) : Fn P w K mg base "divide_up" 1 ["number", "divisor"] (sp_divide_up K) := by
  obtain ⟨fd, F⟩ := T.d_divide_up
  have S := sc_divide_up
  refine ⟨_, fd, fam_ok F S (fun _ => rfl) 0 rfl (fun cdv A0 outer s H E hr => ?_), T.g_divide_up, F.kp, FunD.bindsN F fun _ _ _ _ _ _ us hl => match us, hl with | [_, _], _ => rfl⟩
  refine ⟨_, (pss_one (ps_ret (pe_un oNeg (pe_op oDiv (pe_un oNeg (pv 0)) (pv 1))))), fun z hz B Nx Rt Bk Ct k => ?_⟩
  obtain ⟨n, m, x, y⟩ := z
  exact go_ret (ev_neg (ev_div (ev_neg (ev_var rfl)) (ev_var rfl) hz.2 hz.1)) k
theorem sc_dot : FnScope ["first", "second"] ["first", "second"] (defScope s_dot) := ⟨rfl, rfl, rfl, by decide +kernel, rfl, by decide +kernel, by decide +kernel⟩
def sp_dot (K : PySem.W.Frag) : Sp := spFam (fun (z : Nat × Nat × V3 × V3) => [(tV K z.1).en z.2.2.1, (tV K z.2.1).en z.2.2.2]) (fun z => z.1 + z.2.1 ≤ 800000) (fun z => (tI (z.1 + z.2.1 + 2)).en (dot z.2.2.1 z.2.2.2))
theorem ok_dot (T : Txt K mg base) : Fn P w K mg base "dot" 1 ["first", "second"] (sp_dot K) := by
  obtain ⟨fd, F⟩ := T.d_dot
  have S := sc_dot
  refine ⟨_, fd, fam_ok F S (fun _ => rfl) 0 rfl (fun cdv A0 outer s H E hr => ?_), T.g_dot, F.kp, FunD.bindsN F fun _ _ _ _ _ _ us hl => match us, hl with | [_, _], _ => rfl⟩
  refine ⟨_, (pss_one (ps_ret (pe_op oAdd (pe_op oAdd (pe_op oMul (xIx (K := K) (pv 0) pe_int (fun _ _ => rfl)) (xIx (K := K) (pv 1) pe_int (fun _ _ => rfl))) (pe_op oMul (xIx (K := K) (pv 0) pe_int (fun _ _ => rfl)) (xIx (K := K) (pv 1) pe_int (fun _ _ => rfl)))) (pe_op oMul (xIx (K := K) (pv 0) pe_int (fun _ _ => rfl)) (xIx (K := K) (pv 1) pe_int (fun _ _ => rfl)))))), fun z hz B Nx Rt Bk Ct k => ?_⟩
  obtain ⟨n, m, p, q⟩ := z
  (try dsimp only at hz k ⊢)
  have hz' : n + m ≤ 800000 := hz
  refine go_ret ?_ k
  walk_at "fin"
theorem sc_plus : FnScope ["first", "second"] ["first", "second"] (defScope s_plus) := ⟨rfl, rfl, rfl, by decide +kernel, rfl, by decide +kernel, by decide +kernel⟩
def sp_plus (K : PySem.W.Frag) : Sp := spFam (fun (z : Nat × Nat × V3 × V3) => [(tV K z.1).en z.2.2.1, (tV K z.2.1).en z.2.2.2]) (fun z => z.1 + z.2.1 ≤ 800000) (fun z => (tV K (max z.1 z.2.1 + 1)).en (plus z.2.2.1 z.2.2.2))
theorem ok_plus (T : Txt K mg base) : Fn P w K mg base "plus" 1 ["first", "second"] (sp_plus K) := by
  obtain ⟨fd, F⟩ := T.d_plus
  have S := sc_plus
  refine ⟨_, fd, fam_ok F S (fun _ => rfl) 0 rfl (fun cdv A0 outer s H E hr => ?_), T.g_plus, F.kp, FunD.bindsN F fun _ _ _ _ _ _ us hl => match us, hl with | [_, _], _ => rfl⟩
  refine ⟨_, (pss_one (ps_ret (pe_tup (pa_cons (pe_op oAdd (xIx (K := K) (pv 0) pe_int (fun _ _ => rfl)) (xIx (K := K) (pv 1) pe_int (fun _ _ => rfl))) (pa_cons (pe_op oAdd (xIx (K := K) (pv 0) pe_int (fun _ _ => rfl)) (xIx (K := K) (pv 1) pe_int (fun _ _ => rfl))) (pa_cons (pe_op oAdd (xIx (K := K) (pv 0) pe_int (fun _ _ => rfl)) (xIx (K := K) (pv 1) pe_int (fun _ _ => rfl))) pa_nil)))))), fun z hz B Nx Rt Bk Ct k => ?_⟩
  obtain ⟨n, m, p, q⟩ := z
  (try dsimp only at hz k ⊢)
  refine go_ret (ev_tup (ea_cons ?_ (ea_cons ?_ (ea_cons ?_ ea_nil)))) k
  all_goals walk_at "fin"
theorem sc_minus : FnScope ["first", "second"] ["first", "second"] (defScope s_minus) := ⟨rfl, rfl, rfl, by decide +kernel, rfl, by decide +kernel, by decide +kernel⟩
def sp_minus (K : PySem.W.Frag) : Sp := spFam (fun (z : Nat × Nat × V3 × V3) => [(tV K z.1).en z.2.2.1, (tV K z.2.1).en z.2.2.2]) (fun z => z.1 + z.2.1 ≤ 800000) (fun z => (tV K (max z.1 z.2.1 + 1)).en (minus z.2.2.1 z.2.2.2))
theorem ok_minus (T : Txt K mg base) : Fn P w K mg base "minus" 1 ["first", "second"] (sp_minus K) := by
  obtain ⟨fd, F⟩ := T.d_minus
  have S := sc_minus
  refine ⟨_, fd, fam_ok F S (fun _ => rfl) 0 rfl (fun cdv A0 outer s H E hr => ?_), T.g_minus, F.kp, FunD.bindsN F fun _ _ _ _ _ _ us hl => match us, hl with | [_, _], _ => rfl⟩
  refine ⟨_, (pss_one (ps_ret (pe_tup (pa_cons (pe_op oSub (xIx (K := K) (pv 0) pe_int (fun _ _ => rfl)) (xIx (K := K) (pv 1) pe_int (fun _ _ => rfl))) (pa_cons (pe_op oSub (xIx (K := K) (pv 0) pe_int (fun _ _ => rfl)) (xIx (K := K) (pv 1) pe_int (fun _ _ => rfl))) (pa_cons (pe_op oSub (xIx (K := K) (pv 0) pe_int (fun _ _ => rfl)) (xIx (K := K) (pv 1) pe_int (fun _ _ => rfl))) pa_nil)))))), fun z hz B Nx Rt Bk Ct k => ?_⟩
  obtain ⟨n, m, p, q⟩ := z
  (try dsimp only at hz k ⊢)
  refine go_ret (ev_tup (ea_cons ?_ (ea_cons ?_ (ea_cons ?_ ea_nil)))) k
  all_goals walk_at "fin"
theorem sc_scaled : FnScope ["vector", "factor"] ["vector", "factor"] (defScope s_scaled) := ⟨rfl, rfl, rfl, by decide +kernel, rfl, by decide +kernel, by decide +kernel⟩
def sp_scaled (K : PySem.W.Frag) : Sp := spFam (fun (z : Nat × Nat × V3 × Int) => [(tV K z.1).en z.2.2.1, (tI z.2.1).en z.2.2.2]) (fun z => z.1 + z.2.1 ≤ 800000) (fun z => (tV K (z.1 + z.2.1)).en (scaled z.2.2.1 z.2.2.2))
theorem ok_scaled (T : Txt K mg base) : Fn P w K mg base "scaled" 1 ["vector", "factor"] (sp_scaled K) := by
  obtain ⟨fd, F⟩ := T.d_scaled
  have S := sc_scaled
  refine ⟨_, fd, fam_ok F S (fun _ => rfl) 0 rfl (fun cdv A0 outer s H E hr => ?_), T.g_scaled, F.kp, FunD.bindsN F fun _ _ _ _ _ _ us hl => match us, hl with | [_, _], _ => rfl⟩
  refine ⟨_, (pss_one (ps_ret (pe_tup (pa_cons (pe_op oMul (xIx (K := K) (pv 0) pe_int (fun _ _ => rfl)) (pv 1)) (pa_cons (pe_op oMul (xIx (K := K) (pv 0) pe_int (fun _ _ => rfl)) (pv 1)) (pa_cons (pe_op oMul (xIx (K := K) (pv 0) pe_int (fun _ _ => rfl)) (pv 1)) pa_nil)))))), fun z hz B Nx Rt Bk Ct k => ?_⟩
  obtain ⟨n, m, p, q⟩ := z
  (try dsimp only at hz k ⊢)
  have hz' : n + m ≤ 800000 := hz
  refine go_ret (ev_tup (ea_cons ?_ (ea_cons ?_ (ea_cons ?_ ea_nil)))) k
  all_goals walk_at "fin"
theorem dot_self (v : V3) : 0 ≤ dot v v := by
  have h1 := mul_self_nn v.1
  have h2 := mul_self_nn v.2.1
  have h3 := mul_self_nn v.2.2
  unfold dot
  omega
theorem sc_length_up : FnScope ["vector"] ["vector"] (defScope s_length_up) := ⟨rfl, rfl, rfl, by decide +kernel, rfl, by decide +kernel, by decide +kernel⟩
def sp_length_up (K : PySem.W.Frag) : Sp := spFam (fun (z : V3) => [(tV K 24).en z]) (fun _ => True) (fun z => (tI 52).en (lengthUp z))
theorem ok_length_up (T : Txt K mg base) : Fn P w K mg base "length_up" 2 ["vector"] (sp_length_up K) := by
  obtain ⟨fd, F⟩ := T.d_length_up
  have S := sc_length_up
  refine ⟨_, fd, fam_ok F S (fun _ => rfl) 0 rfl (fun cdv A0 outer s H E hr => ?_), T.g_length_up, F.kp, FunD.bindsN F fun _ _ _ _ _ _ us hl => match us, hl with | [_], _ => rfl⟩
  refine ⟨_, (pss_one (ps_ret (pe_fn (ok_root_up (K := K) T) (hr.mono (by decide)) rfl (pa_cons (pe_fn (ok_dot (K := K) T) (hr.mono (by decide)) rfl (pa_cons (pv 0) (pa_cons (pv 0) pa_nil))) pa_nil)))), fun z hz B Nx Rt Bk Ct k => ?_⟩
  refine go_ret (ev_call (ι := Nat × Int) (50, dot z z) (ea_cons (ev_call (ι := Nat × Nat × V3 × V3) (24, 24, z, z) (ea_cons (ev_var rfl) (ea_cons (ev_var rfl) ea_nil)) (Nat.le_of_ble_eq_true rfl)) ea_nil) ⟨Nat.le_of_ble_eq_true rfl, dot_self z⟩) k
theorem sc_greatest : FnScope ["vector"] ["vector"] (defScope s_greatest) := ⟨rfl, rfl, rfl, by decide +kernel, rfl, by decide +kernel, by decide +kernel⟩
def sp_greatest (K : PySem.W.Frag) : Sp := spFam (fun (z : Nat × V3) => [(tV K z.1).en z.2]) (fun _ => True) (fun z => (tI z.1).en (greatest z.2))
theorem ok_greatest (T : Txt K mg base) : Fn P w K mg base "greatest" 1 ["vector"] (sp_greatest K) := by
  obtain ⟨fd, F⟩ := T.d_greatest
  have S := sc_greatest
  refine ⟨_, fd, fam_ok F S (fun _ => rfl) 0 rfl (fun cdv A0 outer s H E hr => ?_), T.g_greatest, F.kp, FunD.bindsN F fun _ _ _ _ _ _ us hl => match us, hl with | [_], _ => rfl⟩
  refine ⟨_, (pss_one (ps_ret (pe_callB (kMax3 rfl) (by rfl) T.z_max (by decide +kernel) (pa_cons (pe_callB kAbs (by rfl) T.z_abs (by decide +kernel) (pa_cons (xIx (K := K) (pv 0) pe_int (fun _ _ => rfl)) pa_nil)) (pa_cons (pe_callB kAbs (by rfl) T.z_abs (by decide +kernel) (pa_cons (xIx (K := K) (pv 0) pe_int (fun _ _ => rfl)) pa_nil)) (pa_cons (pe_callB kAbs (by rfl) T.z_abs (by decide +kernel) (pa_cons (xIx (K := K) (pv 0) pe_int (fun _ _ => rfl)) pa_nil)) pa_nil)))))), fun z hz B Nx Rt Bk Ct k => ?_⟩
  obtain ⟨n, v⟩ := z
  (try dsimp only at hz k ⊢)
  refine go_ret ?_ k
  walk_at "fin"
section
variable {G : Ctx} {ta tb : TE} {n m : Nat} {u v : V3} {x y : Int}
theorem e_root_up (h : Ev ta G ((tI n).en x)) (hn : n ≤ 64) (h0 : 0 ≤ x) : Ev (tCall (sp_root_up K) [] E0 (tCons ta tNil)) G ((tI (n + 2)).en (rootUp x)) := ev_call (ι := Nat × Int) (n, x) (ea_cons h ea_nil) ⟨hn, h0⟩
theorem e_divide_up (h1 : Ev ta G ((tI n).en x)) (h2 : Ev tb G ((tI m).en y)) (hm : m ≤ 8000) (hy : 0 < y) : Ev (tCall (sp_divide_up K) [] E0 (tCons ta (tCons tb tNil))) G ((tI n).en (divUp x y)) := ev_call (ι := Nat × Nat × Int × Int) (n, m, x, y) (ea_cons h1 (ea_cons h2 ea_nil)) ⟨hm, hy⟩
theorem e_dot (h1 : Ev ta G ((tV K n).en u)) (h2 : Ev tb G ((tV K m).en v)) (h : n + m ≤ 800000) : Ev (tCall (sp_dot K) [] E0 (tCons ta (tCons tb tNil))) G ((tI (n + m + 2)).en (dot u v)) := ev_call (ι := Nat × Nat × V3 × V3) (n, m, u, v) (ea_cons h1 (ea_cons h2 ea_nil)) h
theorem e_plus (h1 : Ev ta G ((tV K n).en u)) (h2 : Ev tb G ((tV K m).en v)) (h : n + m ≤ 800000) : Ev (tCall (sp_plus K) [] E0 (tCons ta (tCons tb tNil))) G ((tV K (max n m + 1)).en (plus u v)) := ev_call (ι := Nat × Nat × V3 × V3) (n, m, u, v) (ea_cons h1 (ea_cons h2 ea_nil)) h
theorem e_minus (h1 : Ev ta G ((tV K n).en u)) (h2 : Ev tb G ((tV K m).en v)) (h : n + m ≤ 800000) : Ev (tCall (sp_minus K) [] E0 (tCons ta (tCons tb tNil))) G ((tV K (max n m + 1)).en (minus u v)) := ev_call (ι := Nat × Nat × V3 × V3) (n, m, u, v) (ea_cons h1 (ea_cons h2 ea_nil)) h
theorem e_scaled (h1 : Ev ta G ((tV K n).en u)) (h2 : Ev tb G ((tI m).en y)) (h : n + m ≤ 800000) : Ev (tCall (sp_scaled K) [] E0 (tCons ta (tCons tb tNil))) G ((tV K (n + m)).en (scaled u y)) := ev_call (ι := Nat × Nat × V3 × Int) (n, m, u, y) (ea_cons h1 (ea_cons h2 ea_nil)) h
theorem e_length_up (h1 : Ev ta G ((tV K 24).en u)) : Ev (tCall (sp_length_up K) [] E0 (tCons ta tNil)) G ((tI 52).en (lengthUp u)) := ev_call (ι := V3) u (ea_cons h1 ea_nil) True.intro
theorem e_greatest (h1 : Ev ta G ((tV K n).en u)) : Ev (tCall (sp_greatest K) [] E0 (tCons ta tNil)) G ((tI n).en (greatest u)) := ev_call (ι := Nat × V3) (n, u) (ea_cons h1 ea_nil) True.intro
end
end
section
variable {P : Program} {w : World} {K : PySem.W.Frag} {mg : Str → Option Value} {base : Heap}
abbrev tPt (K : PySem.W.Frag) : Ty Part := yT2 K (tI 64) (tI 64)
theorem bd64 {x : Int} (h1 : -(2 ^ 64) < x) (h2 : x < 2 ^ 64) : bd 64 x := bd_of (n := 64) h1 h2
theorem part_bd {p : Part} (h : PartOk p) : 0 ≤ p.1 ∧ p.1 ≤ 20 ∧ 0 ≤ p.2 ∧ p.2 < 1048576 := by
  obtain ⟨h1, h2, h3, h4⟩ := h
  refine ⟨h1, h2, h3, Int.lt_of_lt_of_le h4 ?_⟩
  have h5 : 2 ^ p.1.toNat ≤ 2 ^ 20 := Nat.pow_le_pow_right (n := 2) (by decide) (by omega)
  have e : ((2 ^ p.1.toNat : Nat) : Int) = 2 ^ p.1.toNat := by simp
  omega
theorem range_map_succ {α : Type} (f : Nat → α) (i : Nat) : (List.range (i + 1)).map f = (List.range i).map f ++ [f i] := by
  rw [List.range_succ, List.map_append]; rfl
theorem map_range_len {α : Type} (f : Nat → α) (i : Nat) : ((List.range i).map f).length = i := by rw [List.length_map, List.length_range]
theorem sc_lower : FnScope ["part"] ["part"] (defScope s_lower) := ⟨rfl, rfl, rfl, by decide +kernel, rfl, by decide +kernel, by decide +kernel⟩
def sp_lower (K : PySem.W.Frag) : Sp := spFam (fun (z : Part) => [(tPt K).en z]) (fun z => PartOk z ∧ z.1 < 20) (fun z => (tPt K).en (lower z))
theorem ok_lower (T : Txt K mg base) : Fn P w K mg base "lower" 1 ["part"] (sp_lower K) := by
  obtain ⟨fd, F⟩ := T.d_lower
  have S := sc_lower
  refine ⟨_, fd, fam_ok F S (fun _ => rfl) 0 rfl (fun cdv A0 outer s H E hr => ?_), T.g_lower, F.kp, FunD.bindsN F fun _ _ _ _ _ _ us hl => match us, hl with | [_], _ => rfl⟩
  refine ⟨_, (pss_one (ps_ret (pe_tup (pa_cons (pe_op oAdd (xIx (K := K) (pv 0) pe_int (fun _ _ => rfl)) pe_int) (pa_cons (pe_op oMul pe_int (xIx (K := K) (pv 0) pe_int (fun _ _ => rfl))) pa_nil))))), fun z hz B Nx Rt Bk Ct k => ?_⟩
  (try dsimp only at hz k ⊢)
  obtain ⟨h1, h2, h3, h4⟩ := part_bd hz.1
  refine go_ret (ev_tup (ea_cons ?_ (ea_cons ?_ ea_nil))) k
  · exact ev_finZ (ev_add (ev_ixTc (ev_var rfl) rfl) (ev_int (n := 64) (by decide))) rfl fun _ => bd64 (by show _ < z.1 + 1; omega) (by show z.1 + 1 < _; omega)
  · apply ev_finZ
    walk_at "ev"
    rfl
    exact fun _ => bd64 (by show _ < 2 * z.2; omega) (by show 2 * z.2 < _; omega)
theorem sc_upper : FnScope ["part"] ["part"] (defScope s_upper) := ⟨rfl, rfl, rfl, by decide +kernel, rfl, by decide +kernel, by decide +kernel⟩
def sp_upper (K : PySem.W.Frag) : Sp := spFam (fun (z : Part) => [(tPt K).en z]) (fun z => PartOk z ∧ z.1 < 20) (fun z => (tPt K).en (upper z))
theorem ok_upper (T : Txt K mg base) : Fn P w K mg base "upper" 1 ["part"] (sp_upper K) := by
  obtain ⟨fd, F⟩ := T.d_upper
  have S := sc_upper
  refine ⟨_, fd, fam_ok F S (fun _ => rfl) 0 rfl (fun cdv A0 outer s H E hr => ?_), T.g_upper, F.kp, FunD.bindsN F fun _ _ _ _ _ _ us hl => match us, hl with | [_], _ => rfl⟩
  refine ⟨_, (pss_one (ps_ret (pe_tup (pa_cons (pe_op oAdd (xIx (K := K) (pv 0) pe_int (fun _ _ => rfl)) pe_int) (pa_cons (pe_op oAdd (pe_op oMul pe_int (xIx (K := K) (pv 0) pe_int (fun _ _ => rfl))) pe_int) pa_nil))))), fun z hz B Nx Rt Bk Ct k => ?_⟩
  (try dsimp only at hz k ⊢)
  obtain ⟨h1, h2, h3, h4⟩ := part_bd hz.1
  refine go_ret (ev_tup (ea_cons ?_ (ea_cons ?_ ea_nil))) k
  · exact ev_finZ (ev_add (ev_ixTc (ev_var rfl) rfl) (ev_int (n := 64) (by decide))) rfl fun _ => bd64 (by show _ < z.1 + 1; omega) (by show z.1 + 1 < _; omega)
  · apply ev_finZ
    walk_at "ev"
    rfl
    exact fun _ => bd64 (by show _ < 2 * z.2 + 1; omega) (by show 2 * z.2 + 1 < _; omega)
theorem sc_Move_middle : FnScope ["self", "part", "depth", "at", "row", "k", "way"] ["self", "part"] (defScope s_Move_middle) := ⟨rfl, rfl, rfl, by decide +kernel, rfl, by decide +kernel, by decide +kernel⟩
def sp_Move_middle (K : PySem.W.Frag) : Sp := spFam (fun (z : Mv × Part) => [(tMv K).en z.1, (tPt K).en z.2]) (fun z => (z.1.first.length = z.1.last.length ∧ z.1.first.length ≤ 6) ∧ PartOk z.2) (fun z => (yLstL K (tI 300)).en (middle z.1 z.2))
theorem ok_Move_middle (T : Txt K mg base) : Mt P w K mg base "Move" "middle" 1 ["self", "part"] (sp_Move_middle K) := by
  obtain ⟨fd, F⟩ := T.d_Move_middle
  have S := sc_Move_middle
  refine ⟨_, fd, fam_ok F S (fun _ => rfl) 5 rfl (fun cdv A0 outer s H E hr => ?_), T.m_Move_middle, FunD.bindsN F fun _ _ _ _ _ _ us hl => match us, hl with | [_, _], _ => rfl⟩
  refine ⟨_, (pss_cons (ps_asg (pv 1) (xGtup (K := K) rfl (pgs_cons (pg_name (i := 2) S.nd rfl (Or.inl rfl)) (pgs_cons (pg_name (i := 3) S.nd rfl (Or.inl rfl)) pgs_nil))))
    (pss_cons (ps_set (i := 4) S.nd rfl (Or.inl rfl) (pe_lst pa_nil))
    (pss_cons (ps_for PassesOwn.never rfl (pi_range1 rfl T.z_range (pa_cons (pe_callB (xLen (K := K)) (by rfl) T.z_len (by decide +kernel) (pa_cons (xFld (K := K) (pv 0) rfl) pa_nil)) pa_nil)) (pg_name (i := 5) S.nd rfl (Or.inl rfl)) (pss_cons (ps_set (i := 6) S.nd rfl (Or.inl rfl) (pe_op oMul (pe_op oSub (xIx (K := K) (xFld (K := K) (pv 0) rfl) (pv 5) (fun _ _ => rfl)) (xIx (K := K) (xFld (K := K) (pv 0) rfl) (pv 5) (fun _ _ => rfl))) (pe_op oAdd (pe_op oMul pe_int (pv 3)) pe_int)))
    (pss_one (ps_expr (pe_bm PySem.F.plainAttrs_list PySem.F.slot_list_append PySem.F.type_list_append mt_append (pv 4) (pa_cons (pe_op oAdd (xIx (K := K) (xFld (K := K) (pv 0) rfl) (pv 5) (fun _ _ => rfl)) (pe_op oShr (pv 6) (pe_op oAdd (pv 2) pe_int))) pa_nil))))))
    (pss_one (ps_ret (pv 4)))))), fun z hz B Nx Rt Bk Ct k => ?_⟩
  obtain ⟨m, p⟩ := z
  (try dsimp only at hz k ⊢)
  obtain ⟨⟨hl, h6⟩, hp⟩ := hz
  obtain ⟨h1, h2, h3, h4⟩ := part_bd hp
  refine go_seq (go_tup2 (ev_var rfl) ?_)
  refine go_seq (go_asgO (eo_lst (A := tI 300) (xs := []) ea_nil) ?_)
  refine go_seq (go_forR1 (N := m.first.length) (fun i G' => G' = ⟨startG [(tMv K).en m, (tPt K).en p, (tI 64).en p.1, (tI 64).en p.2] 3, .lst 4 (tI 300) ((List.range i).map (midAt m p))⟩) _ (ea_cons (ev_lenTL (f_Move_first T (ev_var rfl)) (by omega)) ea_nil) (by omega) (LeC.refl _) rfl (fun i G' h => by subst h; show (4 : Nat) ≠ 5; decide) (fun i G' hi h => ?_) (fun G' h => ?_))
  · subst h
    have hi2 : i < m.last.length := by omega
    refine go_seq (go_asg (ev_mul (ev_sub (ev_atT (f_Move_last T (ev_var rfl)) (ev_var rfl) hi2) (ev_atT (f_Move_first T (ev_var rfl)) (ev_var rfl) hi)) (ev_add (ev_mul (ev_int (n := 64) (by decide)) (ev_var rfl) (by decide)) (ev_int (n := 64) (by decide))) (by decide)) ?_)
    refine go_append (x := midAt m p i) (ev_fin (ev_add (ev_atT (f_Move_first T (ev_var rfl)) (ev_var rfl) hi) (ev_shr (ev_var rfl) (ev_add (ev_var rfl) (ev_int (n := 64) (by decide))) (by omega))) (by decide) rfl) (by rw [map_range_len]; omega) ?_
    exact go_inv _ (by rw [range_map_succ]) (by walk_at "wk")
  · subst h
    exact go_freeze (go_ret (ev_var rfl) k)
end
section
variable {P : Program} {w : World} {K : PySem.W.Frag} {mg : Str → Option Value} {base : Heap}
theorem sc_Move_halves : FnScope ["self", "depth", "row", "k", "far"] ["self", "depth"] (defScope s_Move_halves) := ⟨rfl, rfl, rfl, by decide +kernel, rfl, by decide +kernel, by decide +kernel⟩
def sp_Move_halves (K : PySem.W.Frag) : Sp := spFam (fun (z : Mv × Int) => [(tMv K).en z.1, (tI 64).en z.2]) (fun z => (z.1.first.length = z.1.last.length ∧ z.1.first.length ≤ 6) ∧ 0 ≤ z.2 ∧ z.2 ≤ 20) (fun z => (yLstL K (tI 100)).en (halves z.1 z.2))
theorem ok_Move_halves (T : Txt K mg base) : Mt P w K mg base "Move" "halves" 2 ["self", "depth"] (sp_Move_halves K) := by
  obtain ⟨fd, F⟩ := T.d_Move_halves
  have S := sc_Move_halves
  refine ⟨_, fd, fam_ok F S (fun _ => rfl) 3 rfl (fun cdv A0 outer s H E hr => ?_), T.m_Move_halves, FunD.bindsN F fun _ _ _ _ _ _ us hl => match us, hl with | [_, _], _ => rfl⟩
  refine ⟨_, (pss_cons (ps_set (i := 2) S.nd rfl (Or.inl rfl) (pe_lst pa_nil))
    (pss_cons (ps_for PassesOwn.never rfl (pi_range1 rfl T.z_range (pa_cons (pe_callB (xLen (K := K)) (by rfl) T.z_len (by decide +kernel) (pa_cons (xFld (K := K) (pv 0) rfl) pa_nil)) pa_nil)) (pg_name (i := 3) S.nd rfl (Or.inl rfl)) (pss_cons (ps_set (i := 4) S.nd rfl (Or.inl rfl) (pe_callB kAbs (by rfl) T.z_abs (by decide +kernel) (pa_cons (pe_op oSub (xIx (K := K) (xFld (K := K) (pv 0) rfl) (pv 3) (fun _ _ => rfl)) (xIx (K := K) (xFld (K := K) (pv 0) rfl) (pv 3) (fun _ _ => rfl))) pa_nil)))
    (pss_one (ps_expr (pe_bm PySem.F.plainAttrs_list PySem.F.slot_list_append PySem.F.type_list_append mt_append (pv 2) (pa_cons (pe_ifExp (pt_cmpR oGt (pv 4) pe_int (nomark _)) (pe_op oAdd (pe_fn (ok_divide_up (K := K) T) (hr.mono (by decide)) rfl (pa_cons (pv 4) (pa_cons (pe_op oShl pe_int (pe_op oAdd (pv 1) pe_int)) pa_nil))) pe_int) pe_int) pa_nil))))))
    (pss_one (ps_ret (pv 2))))), fun z hz B Nx Rt Bk Ct k => ?_⟩
  obtain ⟨m, d⟩ := z
  (try dsimp only at hz k ⊢)
  obtain ⟨⟨hl, h6⟩, h1, h2⟩ := hz
  refine go_seq (go_asgO (eo_lst (A := tI 100) (xs := []) ea_nil) ?_)
  refine go_seq (go_forR1 (N := m.first.length) (fun i G' => G' = ⟨startG [(tMv K).en m, (tI 64).en d] 3, .lst 2 (tI 100) ((List.range i).map (halfAt m d))⟩) _ (ea_cons (ev_lenTL (f_Move_first T (ev_var rfl)) (by omega)) ea_nil) (by omega) (LeC.refl _) rfl (fun i G' h => by subst h; show (2 : Nat) ≠ 3; decide) (fun i G' hi h => ?_) (fun G' h => ?_))
  · subst h
    have hi2 : i < m.last.length := by omega
    refine go_seq (go_asg (ev_abs (ev_sub (ev_atT (f_Move_last T (ev_var rfl)) (ev_var rfl) hi2) (ev_atT (f_Move_first T (ev_var rfl)) (ev_var rfl) hi))) ?_)
    refine go_append (x := halfAt m d i) (ev_is (ev_ifI (et_test (ev_gt (ev_var rfl) (ev_int (n := 64) (by decide)))) (fun hb => ev_le (ev_add (ev_call (ι := Nat × Nat × Int × Int) (max 24 24 + 1, (d + 1).toNat + 1, iabs (m.last.getD i default - m.first.getD i default), 2 ^ (d + 1).toNat) (ea_cons (ev_var rfl) (ea_cons (ev_shl1 (ev_add (ev_var rfl) (ev_int (n := 64) (by decide))) (by omega) (by omega)) ea_nil)) ⟨(show (d + 1).toNat + 1 ≤ 8000 by omega), Int.pow_pos (by decide)⟩) (ev_int (n := 64) (by decide))) ?_) (fun hb => ev_int (by decide))) ?_) (by rw [map_range_len]; omega) ?_
    · show max (max 24 24 + 1) 64 + 1 ≤ 100
      decide
    · unfold halfAt
      simp only [decide_eq_true_eq]
      rfl
    · exact go_inv _ (by rw [range_map_succ]) (by walk_at "wk")
  · subst h
    exact go_freeze (go_ret (ev_var rfl) k)
theorem sc_Move_slack : FnScope ["self", "k"] ["self"] (defScope s_Move_slack) := ⟨rfl, rfl, rfl, by decide +kernel, rfl, by decide +kernel, by decide +kernel⟩
def sp_Move_slack (K : PySem.W.Frag) : Sp := spFam (fun (z : Mv) => [(tMv K).en z]) (fun z => (z.first.length = z.last.length ∧ z.first.length ≤ 6)) (fun z => (yLstL K (tI 64)).en (slack z))
theorem ok_Move_slack (T : Txt K mg base) : Mt P w K mg base "Move" "slack" 1 ["self"] (sp_Move_slack K) := by
  obtain ⟨fd, F⟩ := T.d_Move_slack
  have S := sc_Move_slack
  refine ⟨_, fd, fam_ok F S (fun _ => rfl) 1 rfl (fun cdv A0 outer s H E hr => ?_), T.m_Move_slack, FunD.bindsN F fun _ _ _ _ _ _ us hl => match us, hl with | [_], _ => rfl⟩
  refine ⟨_, (pss_one (ps_ret (pe_lc (own := [("k", 1)]) (tt := tYes) rfl S.nd (pi_range1 rfl T.z_range (pa_cons (pe_callB (xLen (K := K)) (by rfl) T.z_len (by decide +kernel) (pa_cons (xFld (K := K) (pv 0) rfl) pa_nil)) pa_nil)) (blkOk_by (N := ["self", "k"]) (sc := defScope s_Move_slack) (by decide +kernel)) (fun _ _ _ _ _ => (pg_name (i := 1) S.nd rfl (Or.inl rfl))) (fun _ _ _ _ _ => pts_nil) (fun _ _ _ _ _ => (pe_ifExp (pt_cmpR oNe (xIx (K := K) (xFld (K := K) (pv 0) rfl) (pv 1) (fun _ _ => rfl)) (xIx (K := K) (xFld (K := K) (pv 0) rfl) (pv 1) (fun _ _ => rfl)) (nomark _)) pe_int pe_int))))), fun z hz B Nx Rt Bk Ct k => ?_⟩
  (try dsimp only at hz k ⊢)
  obtain ⟨hl, h6⟩ := hz
  refine go_ret (EvO.ev (eo_lcR1 (slackAt z) (ea_cons (ev_lenTL (f_Move_first T (ev_var rfl)) (by omega)) ea_nil) (by omega) (by decide) (fun i hi => ?_))) k
  have hi2 : i < z.last.length := by omega
  exact ev_ifI (et_test (ev_neI (ev_atT (f_Move_first T (ev_var rfl)) (ev_var rfl) hi) (ev_atT (f_Move_last T (ev_var rfl)) (ev_var rfl) hi2))) (fun _ => ev_int (by decide)) (fun _ => ev_int (by decide))
theorem tP_ofL {n : Nat} {xs : List Int} {q : P4} (e : xs = [q.1, q.2.1, q.2.2.1, q.2.2.2]) (h : 0 < q.2.2.2) : ∀ F v, ((yTupL K (tI n)).en xs).ok F v → ((tP K n).en q).ok F v := fun F v ⟨a, vs, ea, hs, r⟩ => by
  subst e
  refine ⟨a, vs, ea, hs, ?_⟩
  cases r with
  | cons r1 r => cases r with
    | cons r2 r => cases r with
      | cons r3 r => cases r with
        | cons r4 r => cases r with
          | nil => exact .cons r1 (.cons r2 (.cons r3 (.cons ⟨r4.1, r4.2, h⟩ .nil)))
theorem tP_toL {n : Nat} {q : P4} : ∀ F v, ((tP K n).en q).ok F v → ((yTupL K (tI n)).en [q.1, q.2.1, q.2.2.1, q.2.2.2]).ok F v ∧ 0 < q.2.2.2 := fun F v ⟨a, vs, ea, hs, r⟩ => by
  cases r with
  | cons r1 r => cases r with
    | cons r2 r => cases r with
      | cons r3 r => cases r with
        | cons r4 r => cases r with
          | nil => exact ⟨⟨a, _, ea, hs, .cons r1 (.cons r2 (.cons r3 (.cons ⟨r4.1, r4.2.1⟩ .nil)))⟩, r4.2.2⟩
theorem sq_pos {x y : Int} (h : 0 < x) : 0 < x * x + y * y := by
  have h1 : 0 < x * x := Int.mul_pos h h
  have h2 := mul_self_nn y
  omega
end
section
variable {P : Program} {w : World} {K : PySem.W.Frag} {mg : Str → Option Value} {base : Heap}
/-- the fourth item of a place -/
theorem ev_sub' {G : Ctx} {te : TE} {n : Nat} {x : Int} (h : Ev te G ((tZ fun w => bd n w ∧ 0 < w).en x)) : Ev te G ((tI n).en x) := h.sub fun _ _ r => ⟨r.1, r.2.1⟩
theorem sc_turned : FnScope ["place", "axis", "value", "over", "under", "straight", "across", "whole", "one", "two", "out"] ["place", "axis", "value"] (defScope s_turned) := ⟨rfl, rfl, rfl, by decide +kernel, rfl, by decide +kernel, by decide +kernel⟩
def sp_turned (K : PySem.W.Frag) : Sp := spFam (fun (z : Nat × P4 × Int × (Int × Int)) => [(tP K z.1).en z.2.1, (tI 24).en z.2.2.1, (yT2 K (tI 300) (tI 200)).en z.2.2.2]) (fun z => z.1 ≤ 100000 ∧ (z.2.2.1 = 0 ∨ z.2.2.1 = 1 ∨ z.2.2.1 = 2) ∧ 0 < z.2.1.2.2.2 ∧ 0 < z.2.2.2.2) (fun z => (tP K (z.1 + 602)).en (turned z.2.1 z.2.2.1 z.2.2.2))
theorem ok_turned (T : Txt K mg base) : Fn P w K mg base "turned" 1 ["place", "axis", "value"] (sp_turned K) := by
  obtain ⟨fd, F⟩ := T.d_turned
  have S := sc_turned
  refine ⟨_, fd, fam_ok F S (fun _ => rfl) 8 rfl (fun cdv A0 outer s H E hr => ?_), T.g_turned, F.kp, FunD.bindsN F fun _ _ _ _ _ _ us hl => match us, hl with | [_, _, _], _ => rfl⟩
  refine ⟨_, (pss_cons (ps_asg (pv 2) (xGtup (K := K) rfl (pgs_cons (pg_name (i := 3) S.nd rfl (Or.inl rfl)) (pgs_cons (pg_name (i := 4) S.nd rfl (Or.inl rfl)) pgs_nil))))
    (pss_cons (ps_set (i := 5) S.nd rfl (Or.inl rfl) (pe_op oSub (pe_op oMul (pv 4) (pv 4)) (pe_op oMul (pv 3) (pv 3))))
    (pss_cons (ps_set (i := 6) S.nd rfl (Or.inl rfl) (pe_op oMul (pe_op oMul pe_int (pv 3)) (pv 4)))
    (pss_cons (ps_set (i := 7) S.nd rfl (Or.inl rfl) (pe_op oAdd (pe_op oMul (pv 4) (pv 4)) (pe_op oMul (pv 3) (pv 3))))
    (pss_cons (ps_set (i := 8) S.nd rfl (Or.inl rfl) (pe_op oMod (pe_op oAdd (pv 1) pe_int) pe_int))
    (pss_cons (ps_set (i := 9) S.nd rfl (Or.inl rfl) (pe_op oMod (pe_op oAdd (pv 1) pe_int) pe_int))
    (pss_cons (ps_set (i := 10) S.nd rfl (Or.inl rfl) (pe_lst (pa_cons pe_int (pa_cons pe_int (pa_cons pe_int (pa_cons (pe_op oMul (xIx (K := K) (pv 0) pe_int (fun _ _ => rfl)) (pv 7)) pa_nil))))))
    (pss_cons (ps_asg (pe_op oMul (xIx (K := K) (pv 0) (pv 1) (fun _ _ => rfl)) (pv 7)) (pg_sub (pv 10) (pv 1) set_list))
    (pss_cons (ps_asg (pe_op oSub (pe_op oMul (xIx (K := K) (pv 0) (pv 8) (fun _ _ => rfl)) (pv 5)) (pe_op oMul (xIx (K := K) (pv 0) (pv 9) (fun _ _ => rfl)) (pv 6))) (pg_sub (pv 10) (pv 8) set_list))
    (pss_cons (ps_asg (pe_op oAdd (pe_op oMul (xIx (K := K) (pv 0) (pv 8) (fun _ _ => rfl)) (pv 6)) (pe_op oMul (xIx (K := K) (pv 0) (pv 9) (fun _ _ => rfl)) (pv 5))) (pg_sub (pv 10) (pv 9) set_list))
    (pss_one (ps_ret (pe_callTy (xTup (K := K)) (by rfl) T.z_tuple (by decide +kernel) (pa_cons (pv 10) pa_nil)))))))))))))), fun z hz B Nx Rt Bk Ct k => ?_⟩
  obtain ⟨n, q, a, v⟩ := z
  (try dsimp only at hz k ⊢)
  obtain ⟨hn, ha, hw, hu⟩ := hz
  refine go_seq (go_tup2 (ev_var rfl) ?_)
  refine go_seq (go_asg (ev_sub (ev_mul (ev_var rfl) (ev_var rfl) (by decide)) (ev_mul (ev_var rfl) (ev_var rfl) (by decide))) ?_)
  refine go_seq (go_asg (ev_mul (ev_mul (ev_int64 (by decide)) (ev_var rfl) (by decide)) (ev_var rfl) (by decide)) ?_)
  refine go_seq (go_asg (ev_add (ev_mul (ev_var rfl) (ev_var rfl) (by decide)) (ev_mul (ev_var rfl) (ev_var rfl) (by decide))) ?_)
  rcases ha with rfl | rfl | rfl
  · refine go_seq (go_asg (ev_is (ev_mod (ev_add (ev_var rfl) (ev_int64 (by decide))) (ev_int64 (by decide)) (by decide)) (show ((0 : Int) + 1) % 3 = 1 from rfl)) ?_)
    refine go_seq (go_asg (ev_is (ev_mod (ev_add (ev_var rfl) (ev_int64 (by decide))) (ev_int64 (by decide)) (by decide)) (show ((0 : Int) + 2) % 3 = 2 from rfl)) ?_)
    refine go_seq (go_asgO (eo_lst (A := tI (n + 602)) (xs := [0, 0, 0, q.2.2.2 * (v.2 * v.2 + v.1 * v.1)]) (ea_cons (ev_le (ev_int64 (by decide)) (by omega)) (ea_cons (ev_le (ev_int64 (by decide)) (by omega)) (ea_cons (ev_le (ev_int64 (by decide)) (by omega)) (ea_cons (ev_le (ev_mul (ev_sub' (ev_ixTc (ev_var rfl) rfl)) (ev_var rfl) (by omega)) (by omega)) ea_nil))))) ?_)
    refine go_seq (go_setItem (x := q.1 * (v.2 * v.2 + v.1 * v.1)) (ev_le (ev_mul (ev_ixT (ev_var rfl) (ev_var rfl) (by decide) rfl) (ev_var rfl) (by omega)) (by omega)) (ev_var rfl) (by decide) (by show (0 : Int) < 4; decide) ?_)
    refine go_seq (go_setItem (x := q.2.1 * (v.2 * v.2 - v.1 * v.1) - q.2.2.1 * (2 * v.1 * v.2)) (ev_le (ev_sub (ev_mul (ev_ixT (ev_var rfl) (ev_var rfl) (by decide) rfl) (ev_var rfl) (by omega)) (ev_mul (ev_ixT (ev_var rfl) (ev_var rfl) (by decide) rfl) (ev_var rfl) (by omega))) (by omega)) (ev_var rfl) (by decide) (by show (1 : Int) < 4; decide) ?_)
    refine go_seq (go_setItem (x := q.2.1 * (2 * v.1 * v.2) + q.2.2.1 * (v.2 * v.2 - v.1 * v.1)) (ev_le (ev_add (ev_mul (ev_ixT (ev_var rfl) (ev_var rfl) (by decide) rfl) (ev_var rfl) (by omega)) (ev_mul (ev_ixT (ev_var rfl) (ev_var rfl) (by decide) rfl) (ev_var rfl) (by omega))) (by omega)) (ev_var rfl) (by decide) (by show (2 : Int) < 4; decide) ?_)
    refine go_freeze (go_ret ((ev_tupL (ev_var rfl)).sub (tP_ofL (q := turned q 0 v) rfl ?_)) k)
    exact Int.mul_pos hw (sq_pos hu)
  · refine go_seq (go_asg (ev_is (ev_mod (ev_add (ev_var rfl) (ev_int64 (by decide))) (ev_int64 (by decide)) (by decide)) (show ((1 : Int) + 1) % 3 = 2 from rfl)) ?_)
    refine go_seq (go_asg (ev_is (ev_mod (ev_add (ev_var rfl) (ev_int64 (by decide))) (ev_int64 (by decide)) (by decide)) (show ((1 : Int) + 2) % 3 = 0 from rfl)) ?_)
    refine go_seq (go_asgO (eo_lst (A := tI (n + 602)) (xs := [0, 0, 0, q.2.2.2 * (v.2 * v.2 + v.1 * v.1)]) (ea_cons (ev_le (ev_int64 (by decide)) (by omega)) (ea_cons (ev_le (ev_int64 (by decide)) (by omega)) (ea_cons (ev_le (ev_int64 (by decide)) (by omega)) (ea_cons (ev_le (ev_mul (ev_sub' (ev_ixTc (ev_var rfl) rfl)) (ev_var rfl) (by omega)) (by omega)) ea_nil))))) ?_)
    refine go_seq (go_setItem (x := q.2.1 * (v.2 * v.2 + v.1 * v.1)) (ev_le (ev_mul (ev_ixT (ev_var rfl) (ev_var rfl) (by decide) rfl) (ev_var rfl) (by omega)) (by omega)) (ev_var rfl) (by decide) (by show (1 : Int) < 4; decide) ?_)
    refine go_seq (go_setItem (x := q.2.2.1 * (v.2 * v.2 - v.1 * v.1) - q.1 * (2 * v.1 * v.2)) (ev_le (ev_sub (ev_mul (ev_ixT (ev_var rfl) (ev_var rfl) (by decide) rfl) (ev_var rfl) (by omega)) (ev_mul (ev_ixT (ev_var rfl) (ev_var rfl) (by decide) rfl) (ev_var rfl) (by omega))) (by omega)) (ev_var rfl) (by decide) (by show (2 : Int) < 4; decide) ?_)
    refine go_seq (go_setItem (x := q.2.2.1 * (2 * v.1 * v.2) + q.1 * (v.2 * v.2 - v.1 * v.1)) (ev_le (ev_add (ev_mul (ev_ixT (ev_var rfl) (ev_var rfl) (by decide) rfl) (ev_var rfl) (by omega)) (ev_mul (ev_ixT (ev_var rfl) (ev_var rfl) (by decide) rfl) (ev_var rfl) (by omega))) (by omega)) (ev_var rfl) (by decide) (by show (0 : Int) < 4; decide) ?_)
    refine go_freeze (go_ret ((ev_tupL (ev_var rfl)).sub (tP_ofL (q := turned q 1 v) rfl ?_)) k)
    exact Int.mul_pos hw (sq_pos hu)
  · refine go_seq (go_asg (ev_is (ev_mod (ev_add (ev_var rfl) (ev_int64 (by decide))) (ev_int64 (by decide)) (by decide)) (show ((2 : Int) + 1) % 3 = 0 from rfl)) ?_)
    refine go_seq (go_asg (ev_is (ev_mod (ev_add (ev_var rfl) (ev_int64 (by decide))) (ev_int64 (by decide)) (by decide)) (show ((2 : Int) + 2) % 3 = 1 from rfl)) ?_)
    refine go_seq (go_asgO (eo_lst (A := tI (n + 602)) (xs := [0, 0, 0, q.2.2.2 * (v.2 * v.2 + v.1 * v.1)]) (ea_cons (ev_le (ev_int64 (by decide)) (by omega)) (ea_cons (ev_le (ev_int64 (by decide)) (by omega)) (ea_cons (ev_le (ev_int64 (by decide)) (by omega)) (ea_cons (ev_le (ev_mul (ev_sub' (ev_ixTc (ev_var rfl) rfl)) (ev_var rfl) (by omega)) (by omega)) ea_nil))))) ?_)
    refine go_seq (go_setItem (x := q.2.2.1 * (v.2 * v.2 + v.1 * v.1)) (ev_le (ev_mul (ev_ixT (ev_var rfl) (ev_var rfl) (by decide) rfl) (ev_var rfl) (by omega)) (by omega)) (ev_var rfl) (by decide) (by show (2 : Int) < 4; decide) ?_)
    refine go_seq (go_setItem (x := q.1 * (v.2 * v.2 - v.1 * v.1) - q.2.1 * (2 * v.1 * v.2)) (ev_le (ev_sub (ev_mul (ev_ixT (ev_var rfl) (ev_var rfl) (by decide) rfl) (ev_var rfl) (by omega)) (ev_mul (ev_ixT (ev_var rfl) (ev_var rfl) (by decide) rfl) (ev_var rfl) (by omega))) (by omega)) (ev_var rfl) (by decide) (by show (0 : Int) < 4; decide) ?_)
    refine go_seq (go_setItem (x := q.1 * (2 * v.1 * v.2) + q.2.1 * (v.2 * v.2 - v.1 * v.1)) (ev_le (ev_add (ev_mul (ev_ixT (ev_var rfl) (ev_var rfl) (by decide) rfl) (ev_var rfl) (by omega)) (ev_mul (ev_ixT (ev_var rfl) (ev_var rfl) (by decide) rfl) (ev_var rfl) (by omega))) (by omega)) (ev_var rfl) (by decide) (by show (1 : Int) < 4; decide) ?_)
    refine go_freeze (go_ret ((ev_tupL (ev_var rfl)).sub (tP_ofL (q := turned q 2 v) rfl ?_)) k)
    exact Int.mul_pos hw (sq_pos hu)
theorem sc_shifted : FnScope ["place", "axis", "value", "over", "under", "out"] ["place", "axis", "value"] (defScope s_shifted) := ⟨rfl, rfl, rfl, by decide +kernel, rfl, by decide +kernel, by decide +kernel⟩
def sp_shifted (K : PySem.W.Frag) : Sp := spFam (fun (z : Nat × P4 × Int × (Int × Int)) => [(tP K z.1).en z.2.1, (tI 24).en z.2.2.1, (yT2 K (tI 300) (tI 200)).en z.2.2.2]) (fun z => z.1 ≤ 100000 ∧ (z.2.2.1 = 0 ∨ z.2.2.1 = 1 ∨ z.2.2.1 = 2) ∧ 0 < z.2.1.2.2.2 ∧ 0 < z.2.2.2.2) (fun z => (tP K (z.1 + 602)).en (shifted z.2.1 z.2.2.1 z.2.2.2))
theorem ok_shifted (T : Txt K mg base) : Fn P w K mg base "shifted" 1 ["place", "axis", "value"] (sp_shifted K) := by
  obtain ⟨fd, F⟩ := T.d_shifted
  have S := sc_shifted
  refine ⟨_, fd, fam_ok F S (fun _ => rfl) 3 rfl (fun cdv A0 outer s H E hr => ?_), T.g_shifted, F.kp, FunD.bindsN F fun _ _ _ _ _ _ us hl => match us, hl with | [_, _, _], _ => rfl⟩
  refine ⟨_, (pss_cons (ps_asg (pv 2) (xGtup (K := K) rfl (pgs_cons (pg_name (i := 3) S.nd rfl (Or.inl rfl)) (pgs_cons (pg_name (i := 4) S.nd rfl (Or.inl rfl)) pgs_nil))))
    (pss_cons (ps_set (i := 5) S.nd rfl (Or.inl rfl) (pe_lst (pa_cons (pe_op oMul (xIx (K := K) (pv 0) pe_int (fun _ _ => rfl)) (pv 4)) (pa_cons (pe_op oMul (xIx (K := K) (pv 0) pe_int (fun _ _ => rfl)) (pv 4)) (pa_cons (pe_op oMul (xIx (K := K) (pv 0) pe_int (fun _ _ => rfl)) (pv 4)) (pa_cons (pe_op oMul (xIx (K := K) (pv 0) pe_int (fun _ _ => rfl)) (pv 4)) pa_nil))))))
    (pss_cons (ps_asg (pe_op oAdd (xIx (K := K) (pv 5) (pv 1) (fun _ _ => rfl)) (pe_op oMul (pv 3) (xIx (K := K) (pv 0) pe_int (fun _ _ => rfl)))) (pg_sub (pv 5) (pv 1) set_list))
    (pss_one (ps_ret (pe_callTy (xTup (K := K)) (by rfl) T.z_tuple (by decide +kernel) (pa_cons (pv 5) pa_nil))))))), fun z hz B Nx Rt Bk Ct k => ?_⟩
  obtain ⟨n, q, a, v⟩ := z
  (try dsimp only at hz k ⊢)
  obtain ⟨hn, ha, hw, hu⟩ := hz
  refine go_seq (go_tup2 (ev_var rfl) ?_)
  refine go_fact (i := 0) rfl tP_bd fun hq => ?_
  refine go_fact (i := 3) rfl tI_bd fun h3 => ?_
  refine go_fact (i := 4) rfl tI_bd fun h4 => ?_
  rcases ha with rfl | rfl | rfl
  · refine go_seq (go_asgO (eo_lst (A := tI (n + 602)) (xs := [q.1 * v.2, q.2.1 * v.2, q.2.2.1 * v.2, q.2.2.2 * v.2]) (ea_cons (ev_le (ev_mul (ev_ixTc (ev_var rfl) rfl) (ev_var rfl) (by omega)) (by omega)) (ea_cons (ev_le (ev_mul (ev_ixTc (ev_var rfl) rfl) (ev_var rfl) (by omega)) (by omega)) (ea_cons (ev_le (ev_mul (ev_ixTc (ev_var rfl) rfl) (ev_var rfl) (by omega)) (by omega)) (ea_cons (ev_le (ev_mul (ev_sub' (ev_ixTc (ev_var rfl) rfl)) (ev_var rfl) (by omega)) (by omega)) ea_nil))))) ?_)
    refine go_seq (go_setItem (x := q.1 * v.2 + v.1 * q.2.2.2) (ev_finZ (ev_add (ev_mutIx (ev_var rfl) (by decide) (by show (0 : Int) < 4; decide)) (ev_mul (ev_var rfl) (ev_sub' (ev_ixTc (ev_var rfl) rfl)) (by omega))) rfl ?_) (ev_var rfl) (by decide) (by show (0 : Int) < 4; decide) ?_)
    · exact fun _ => bd_mono (by omega) (bd_add (bd_mul hq.1 h4) (bd_mul h3 hq.2.2.2.1))
    refine go_freeze (go_ret ((ev_tupL (ev_var rfl)).sub (tP_ofL (q := shifted q 0 v) rfl ?_)) k)
    exact Int.mul_pos hw hu
  · refine go_seq (go_asgO (eo_lst (A := tI (n + 602)) (xs := [q.1 * v.2, q.2.1 * v.2, q.2.2.1 * v.2, q.2.2.2 * v.2]) (ea_cons (ev_le (ev_mul (ev_ixTc (ev_var rfl) rfl) (ev_var rfl) (by omega)) (by omega)) (ea_cons (ev_le (ev_mul (ev_ixTc (ev_var rfl) rfl) (ev_var rfl) (by omega)) (by omega)) (ea_cons (ev_le (ev_mul (ev_ixTc (ev_var rfl) rfl) (ev_var rfl) (by omega)) (by omega)) (ea_cons (ev_le (ev_mul (ev_sub' (ev_ixTc (ev_var rfl) rfl)) (ev_var rfl) (by omega)) (by omega)) ea_nil))))) ?_)
    refine go_seq (go_setItem (x := q.2.1 * v.2 + v.1 * q.2.2.2) (ev_finZ (ev_add (ev_mutIx (ev_var rfl) (by decide) (by show (1 : Int) < 4; decide)) (ev_mul (ev_var rfl) (ev_sub' (ev_ixTc (ev_var rfl) rfl)) (by omega))) rfl ?_) (ev_var rfl) (by decide) (by show (1 : Int) < 4; decide) ?_)
    · exact fun _ => bd_mono (by omega) (bd_add (bd_mul hq.2.1 h4) (bd_mul h3 hq.2.2.2.1))
    refine go_freeze (go_ret ((ev_tupL (ev_var rfl)).sub (tP_ofL (q := shifted q 1 v) rfl ?_)) k)
    exact Int.mul_pos hw hu
  · refine go_seq (go_asgO (eo_lst (A := tI (n + 602)) (xs := [q.1 * v.2, q.2.1 * v.2, q.2.2.1 * v.2, q.2.2.2 * v.2]) (ea_cons (ev_le (ev_mul (ev_ixTc (ev_var rfl) rfl) (ev_var rfl) (by omega)) (by omega)) (ea_cons (ev_le (ev_mul (ev_ixTc (ev_var rfl) rfl) (ev_var rfl) (by omega)) (by omega)) (ea_cons (ev_le (ev_mul (ev_ixTc (ev_var rfl) rfl) (ev_var rfl) (by omega)) (by omega)) (ea_cons (ev_le (ev_mul (ev_sub' (ev_ixTc (ev_var rfl) rfl)) (ev_var rfl) (by omega)) (by omega)) ea_nil))))) ?_)
    refine go_seq (go_setItem (x := q.2.2.1 * v.2 + v.1 * q.2.2.2) (ev_finZ (ev_add (ev_mutIx (ev_var rfl) (by decide) (by show (2 : Int) < 4; decide)) (ev_mul (ev_var rfl) (ev_sub' (ev_ixTc (ev_var rfl) rfl)) (by omega))) rfl ?_) (ev_var rfl) (by decide) (by show (2 : Int) < 4; decide) ?_)
    · exact fun _ => bd_mono (by omega) (bd_add (bd_mul hq.2.2.1 h4) (bd_mul h3 hq.2.2.2.1))
    refine go_freeze (go_ret ((ev_tupL (ev_var rfl)).sub (tP_ofL (q := shifted q 2 v) rfl ?_)) k)
    exact Int.mul_pos hw hu
end
section
variable {P : Program} {w : World} {K : PySem.W.Frag} {mg : Str → Option Value} {base : Heap}
def at4 (p : P4) (i : Nat) : Int := [p.1, p.2.1, p.2.2.1].getD i default
theorem map_range3 {α : Type} (f : Nat → α) : (List.range 3).map f = [f 0, f 1, f 2] := rfl
theorem sc_added : FnScope ["place", "other", "sums", "k"] ["place", "other"] (defScope s_added) := ⟨rfl, rfl, rfl, by decide +kernel, rfl, by decide +kernel, by decide +kernel⟩
def sp_added (K : PySem.W.Frag) : Sp := spFam (fun (z : Nat × Nat × P4 × P4) => [(tP K z.1).en z.2.2.1, (tP K z.2.1).en z.2.2.2]) (fun z => z.1 + z.2.1 ≤ 200000 ∧ 0 < z.2.2.1.2.2.2 ∧ 0 < z.2.2.2.2.2.2) (fun z => (tP K (z.1 + z.2.1 + 1)).en (added z.2.2.1 z.2.2.2))
theorem ok_added (T : Txt K mg base) : Fn P w K mg base "added" 1 ["place", "other"] (sp_added K) := by
  obtain ⟨fd, F⟩ := T.d_added
  have S := sc_added
  refine ⟨_, fd, fam_ok F S (fun _ => rfl) 2 rfl (fun cdv A0 outer s H E hr => ?_), T.g_added, F.kp, FunD.bindsN F fun _ _ _ _ _ _ us hl => match us, hl with | [_, _], _ => rfl⟩
  refine ⟨_, (pss_cons (ps_setLc (i := 2) (own := [("k", 3)]) (tt := tYes) rfl S.nd rfl rfl (sw_true rfl rfl rfl (by decide +kernel)) (pi_range1 rfl T.z_range (pa_cons pe_int pa_nil)) (blkOk_by (N := ["place", "other", "sums", "k"]) (sc := defScope s_added) (by decide +kernel)) (fun _ _ _ _ _ => (pg_name (i := 3) S.nd rfl (Or.inl rfl))) (fun _ _ _ _ _ => pts_nil) (fun _ _ _ _ _ => (pe_op oAdd (pe_op oMul (xIx (K := K) (pv 0) (pv 3) (fun _ _ => rfl)) (xIx (K := K) (pv 1) pe_int (fun _ _ => rfl))) (pe_op oMul (xIx (K := K) (pv 1) (pv 3) (fun _ _ => rfl)) (xIx (K := K) (pv 0) pe_int (fun _ _ => rfl))))))
    (pss_one (ps_ret (pe_tup (pa_cons (xIx (K := K) (pv 2) pe_int (fun _ _ => rfl)) (pa_cons (xIx (K := K) (pv 2) pe_int (fun _ _ => rfl)) (pa_cons (xIx (K := K) (pv 2) pe_int (fun _ _ => rfl)) (pa_cons (pe_op oMul (xIx (K := K) (pv 0) pe_int (fun _ _ => rfl)) (xIx (K := K) (pv 1) pe_int (fun _ _ => rfl))) pa_nil)))))))), fun z hz B Nx Rt Bk Ct k => ?_⟩
  obtain ⟨n, m, p, o⟩ := z
  (try dsimp only at hz k ⊢)
  obtain ⟨hn, hp, ho⟩ := hz
  refine go_seq (go_asg (EvO.ev (K := K) (A := tI (n + m + 1)) (eo_lcR1 (N := 3) (fun i => at4 p i * o.2.2.2 + at4 o i * p.2.2.2) (ea_cons (ev_int64 (by decide)) ea_nil) (by decide) (by decide) (fun i hi => ?_))) ?_)
  · have hc : i = 0 ∨ i = 1 ∨ i = 2 := by omega
    rcases hc with rfl | rfl | rfl
    all_goals
      refine ev_le (ev_add (ev_mul (ev_ixT (ev_var rfl) (ev_var rfl) (by decide) rfl) (ev_sub' (ev_ixTc (ev_var rfl) rfl)) (by omega)) (ev_mul (ev_ixT (ev_var rfl) (ev_var rfl) (by decide) rfl) (ev_sub' (ev_ixTc (ev_var rfl) rfl)) (by omega))) (by omega)
  · refine go_ret (ev_tup (ea_cons ?_ (ea_cons ?_ (ea_cons ?_ (ea_cons ?_ ea_nil))))) k
    · exact ev_ixLc (ev_var rfl) rfl
    · exact ev_ixLc (ev_var rfl) rfl
    · exact ev_ixLc (ev_var rfl) rfl
    · exact ev_finZ (ev_mul (ev_sub' (ev_ixTc (ev_var rfl) rfl)) (ev_sub' (ev_ixTc (ev_var rfl) rfl)) (by omega)) rfl fun h => ⟨bd_mono (by omega) h, Int.mul_pos hp ho⟩
theorem igcd_pos {a b : Int} (h : b ≠ 0) : 0 < igcd a b := by
  unfold igcd
  have : 0 < Nat.gcd a.natAbs b.natAbs := Nat.gcd_pos_of_pos_right _ (by omega)
  omega
theorem common_pos {p : P4} (h : 0 < p.2.2.2) : 0 < common p := igcd_pos (by have := igcd_pos (a := p.2.2.1) (b := p.2.2.2) (by omega); omega)
theorem common_dvd (p : P4) : common p ∣ p.1 ∧ common p ∣ p.2.1 ∧ common p ∣ p.2.2.1 ∧ common p ∣ p.2.2.2 := by
  have g : ∀ a b : Int, igcd a b ∣ a ∧ igcd a b ∣ b := fun a b => by
    unfold igcd
    exact ⟨Int.ofNat_dvd_left.mpr (Nat.gcd_dvd_left _ _), Int.ofNat_dvd_left.mpr (Nat.gcd_dvd_right _ _)⟩
  have h1 := g (igcd p.1 p.2.1) (igcd p.2.2.1 p.2.2.2)
  have h2 := g p.1 p.2.1
  have h3 := g p.2.2.1 p.2.2.2
  exact ⟨Int.dvd_trans h1.1 h2.1, Int.dvd_trans h1.1 h2.2, Int.dvd_trans h1.2 h3.1, Int.dvd_trans h1.2 h3.2⟩
theorem reduced_pos {p : P4} (h : 0 < p.2.2.2) : 0 < (reduced p).2.2.2 := by
  obtain ⟨c, hc⟩ := (common_dvd p).2.2.2
  have hp := common_pos h
  show 0 < p.2.2.2 / common p
  have h1 : p.2.2.2 / common p = c := by rw [hc, Int.mul_ediv_cancel_left _ (by omega)]
  rw [h1]
  rcases Int.lt_or_le 0 c with z | z
  · exact z
  · have : common p * c ≤ 0 := Int.mul_nonpos_of_nonneg_of_nonpos (by omega) z
    omega
theorem sc_reduced : FnScope ["place", "common", "part"] ["place"] (defScope s_reduced) := ⟨rfl, rfl, rfl, by decide +kernel, rfl, by decide +kernel, by decide +kernel⟩
def sp_reduced (K : PySem.W.Frag) : Sp := spFam (fun (z : Nat × P4) => [(tP K z.1).en z.2]) (fun z => z.1 ≤ 8000 ∧ 0 < z.2.2.2.2) (fun z => (tP K z.1).en (reduced z.2))
theorem ok_reduced (T : Txt K mg base) : Fn P w K mg base "reduced" 1 ["place"] (sp_reduced K) := by
  obtain ⟨fd, F⟩ := T.d_reduced
  have S := sc_reduced
  refine ⟨_, fd, fam_ok F S (fun _ => rfl) 2 rfl (fun cdv A0 outer s H E hr => ?_), T.g_reduced, F.kp, FunD.bindsN F fun _ _ _ _ _ _ us hl => match us, hl with | [_], _ => rfl⟩
  refine ⟨_, (pss_cons (ps_set (i := 1) S.nd rfl (Or.inr rfl) (pe_callBfun cr_gcd rfl T.b_gcd (pa_cons (pe_callBfun cr_gcd rfl T.b_gcd (pa_cons (xIx (K := K) (pv 0) pe_int (fun _ _ => rfl)) (pa_cons (xIx (K := K) (pv 0) pe_int (fun _ _ => rfl)) pa_nil))) (pa_cons (pe_callBfun cr_gcd rfl T.b_gcd (pa_cons (xIx (K := K) (pv 0) pe_int (fun _ _ => rfl)) (pa_cons (xIx (K := K) (pv 0) pe_int (fun _ _ => rfl)) pa_nil))) pa_nil))))
    (pss_one (ps_ret (pe_callTy (xTup (K := K)) (by rfl) T.z_tuple (by decide +kernel) (pa_cons (pe_lc (own := [("part", 2)]) (tt := tYes) rfl S.nd (xPit (K := K) (pv 0)) (blkOk_by (N := ["place", "common", "part"]) (sc := defScope s_reduced) (by decide +kernel)) (fun _ _ _ _ _ => (pg_name (i := 2) S.nd rfl (Or.inl rfl))) (fun _ _ _ _ _ => pts_nil) (fun _ _ _ _ _ => (pe_op oDiv (pv 2) (pv 1)))) pa_nil))))), fun z hz B Nx Rt Bk Ct k => ?_⟩
  obtain ⟨n, p⟩ := z
  (try dsimp only at hz k ⊢)
  obtain ⟨hn, hp⟩ := hz
  refine go_seq (go_asg (ev_gcd (ev_gcd (ev_ixTc (ev_var rfl) rfl) (ev_ixTc (ev_var rfl) rfl)) (ev_gcd (ev_ixTc (ev_var rfl) rfl) (ev_sub' (ev_ixTc (ev_var rfl) rfl)))) ?_)
  have e : Ev (tVar 0) ((Ctx.mk (startG [(tP K n).en p] 2) .no).set 1 ((tI (max (max n n) (max n n))).en (common p))) ((yTupL K (tI n)).en [p.1, p.2.1, p.2.2.1, p.2.2.2]) := (ev_var rfl).sub fun F v h => (tP_toL F v h).1
  refine go_ret ((ev_tupL (EvO.ev (K := K) (A := tI n) (eo_lcT (fun x => x / common p) e (Nat.le_of_ble_eq_true rfl) (by decide) (fun x hx => ev_div (ev_var rfl) (ev_var rfl) (common_pos hp) (by omega))))).sub (tP_ofL (q := reduced p) rfl (reduced_pos hp))) k
theorem added_pos {p o : P4} (h : 0 < p.2.2.2) (h2 : 0 < o.2.2.2) : 0 < (added p o).2.2.2 := Int.mul_pos h h2
theorem turned_pos {p : P4} {a : Int} {v : Int × Int} (h : 0 < p.2.2.2) (hu : 0 < v.2) : 0 < (turned p a v).2.2.2 := by
  unfold turned
  simp only []
  split
  · exact Int.mul_pos h (sq_pos hu)
  · split
    · exact Int.mul_pos h (sq_pos hu)
    · exact Int.mul_pos h (sq_pos hu)
theorem shifted_pos {p : P4} {a : Int} {v : Int × Int} (h : 0 < p.2.2.2) (hu : 0 < v.2) : 0 < (shifted p a v).2.2.2 := by
  unfold shifted
  split
  · exact Int.mul_pos h hu
  · split
    · exact Int.mul_pos h hu
    · exact Int.mul_pos h hu
structure Chain (js : List Jt) (vals : List (Int × Int)) (offs : List P4) : Prop where
  l1 : vals.length = js.length
  l2 : offs.length = js.length
  j6 : js.length ≤ 6
  js : ∀ j ∈ js, JtOk j
  vs : ∀ v ∈ vals, 0 < v.2
  os : ∀ o ∈ offs, 0 < o.2.2.2
theorem getD_mem {α : Type} [Inhabited α] {xs : List α} {i : Nat} (h : i < xs.length) : xs.getD i default ∈ xs := by
  rw [List.getD_eq_getElem?_getD, List.getElem?_eq_getElem h]
  exact List.getElem_mem h
theorem tP_le {n m : Nat} {q : P4} (h : n ≤ m) : ∀ F v, ((tP K n).en q).ok F v → ((tP K m).en q).ok F v := fun F v ⟨a, vs, ea, hs, r⟩ => by
  refine ⟨a, vs, ea, hs, ?_⟩
  cases r with
  | cons r1 r => cases r with
    | cons r2 r => cases r with
      | cons r3 r => cases r with
        | cons r4 r => cases r with
          | nil => exact .cons ⟨r1.1, bd_mono h r1.2⟩ (.cons ⟨r2.1, bd_mono h r2.2⟩ (.cons ⟨r3.1, bd_mono h r3.2⟩ (.cons ⟨r4.1, bd_mono h r4.2.1, r4.2.2⟩ .nil)))
theorem sc_true_place : FnScope ["arm", "values", "offsets", "link", "point", "place", "k", "joint", "over", "under"] ["arm", "values", "offsets", "link", "point"] (defScope s_true_place) := ⟨rfl, rfl, rfl, by decide +kernel, rfl, by decide +kernel, by decide +kernel⟩
def sp_true_place (K : PySem.W.Frag) : Sp := spFam (fun (z : Ar × List (Int × Int) × List P4 × Nat × V3) => [(tAr K).en z.1, (yLstL K (yT2 K (tI 300) (tI 64))).en z.2.1, (yLstL K (tP K 64)).en z.2.2.1, (tI 64).en (z.2.2.2.1 : Int), (tV K 24).en z.2.2.2.2]) (fun z => Chain z.1.joints z.2.1 z.2.2.1 ∧ z.2.2.2.1 ≤ z.1.joints.length) (fun z => (tP K 5000).en (trueP z.1.joints z.2.1 z.2.2.1 z.2.2.2.1 (z.2.2.2.2.1, z.2.2.2.2.2.1, z.2.2.2.2.2.2, 1)))
theorem ok_true_place (T : Txt K mg base) : Fn P w K mg base "true_place" 2 ["arm", "values", "offsets", "link", "point"] (sp_true_place K) := by
  obtain ⟨fd, F⟩ := T.d_true_place
  have S := sc_true_place
  refine ⟨_, fd, fam_ok F S (fun _ => rfl) 5 rfl (fun cdv A0 outer s H E hr => ?_), T.g_true_place, F.kp, FunD.bindsN F fun _ _ _ _ _ _ us hl => match us, hl with | [_, _, _, _, _], _ => rfl⟩
  refine ⟨_, (pss_cons (ps_set (i := 5) S.nd rfl (Or.inl rfl) (pe_tup (pa_cons (xIx (K := K) (pv 4) pe_int (fun _ _ => rfl)) (pa_cons (xIx (K := K) (pv 4) pe_int (fun _ _ => rfl)) (pa_cons (xIx (K := K) (pv 4) pe_int (fun _ _ => rfl)) (pa_cons pe_int pa_nil))))))
    (pss_cons (ps_for PassesOwn.never rfl (pi_range3 rfl T.z_range (pa_cons (pe_op oSub (pv 3) pe_int) (pa_cons (pe_un oNeg pe_int) (pa_cons (pe_un oNeg pe_int) pa_nil)))) (pg_name (i := 6) S.nd rfl (Or.inl rfl)) (pss_cons (ps_set (i := 7) S.nd rfl (Or.inl rfl) (xIx (K := K) (xFld (K := K) (pv 0) rfl) (pv 6) (fun _ _ => rfl)))
    (pss_cons (ps_asg (xIx (K := K) (pv 1) (pv 6) (fun _ _ => rfl)) (xGtup (K := K) rfl (pgs_cons (pg_name (i := 8) S.nd rfl (Or.inl rfl)) (pgs_cons (pg_name (i := 9) S.nd rfl (Or.inl rfl)) pgs_nil))))
    (pss_cons (ps_if (pt_val (xFld (K := K) (pv 7) rfl)) (pss_one (ps_set (i := 5) S.nd rfl (Or.inl rfl) (pe_fn (ok_turned (K := K) T) (hr.mono (by decide)) rfl (pa_cons (pv 5) (pa_cons (xFld (K := K) (pv 7) rfl) (pa_cons (pe_tup (pa_cons (pv 8) (pa_cons (pe_op oMul (pv 9) (pe_gi (T.i_UNIT))) pa_nil))) pa_nil)))))) (pss_one (ps_set (i := 5) S.nd rfl (Or.inl rfl) (pe_fn (ok_shifted (K := K) T) (hr.mono (by decide)) rfl (pa_cons (pv 5) (pa_cons (xFld (K := K) (pv 7) rfl) (pa_cons (pe_tup (pa_cons (pv 8) (pa_cons (pv 9) pa_nil))) pa_nil)))))))
    (pss_one (ps_set (i := 5) S.nd rfl (Or.inl rfl) (pe_fn (ok_reduced (K := K) T) (hr.mono (by decide)) rfl (pa_cons (pe_fn (ok_added (K := K) T) (hr.mono (by decide)) rfl (pa_cons (pv 5) (pa_cons (xIx (K := K) (pv 2) (pv 6) (fun _ _ => rfl)) pa_nil))) pa_nil))))))))
    (pss_one (ps_ret (pv 5))))), fun z hz B Nx Rt Bk Ct k => ?_⟩
  obtain ⟨a, vals, offs, link, pt⟩ := z
  (try dsimp only at hz k ⊢)
  obtain ⟨hc, hl⟩ := hz
  have h6 := hc.j6
  refine go_seq (go_asg (e1 := (tP K 64).en (pt.1, pt.2.1, pt.2.2, 1)) (ev_tup (ea_cons (ev_le (ev_ixTc (ev_var rfl) rfl) (by decide)) (ea_cons (ev_le (ev_ixTc (ev_var rfl) rfl) (by decide)) (ea_cons (ev_le (ev_ixTc (ev_var rfl) rfl) (by decide)) (ea_cons (ev_finZ (ev_int64 (by decide)) rfl fun h => ⟨h, (show (0 : Int) < 1 by decide)⟩) ea_nil))))) ?_)
  refine go_seq (go_forDown (N := link) (fun i G' => ∃ q : P4, trueP a.joints vals offs (link - i) q = trueP a.joints vals offs link (pt.1, pt.2.1, pt.2.2, 1) ∧ 0 < q.2.2.2 ∧ G' = ⟨startG [(tAr K).en a, (yLstL K (yT2 K (tI 300) (tI 64))).en vals, (yLstL K (tP K 64)).en offs, (tI 64).en (link : Int), (tV K 24).en pt, (tP K (64 + 700 * i)).en q] 4, .no⟩) _ (ea_cons (ev_sub (ev_var rfl) (ev_int64 (by decide))) (ea_cons (ev_neg (ev_int64 (by decide))) (ea_cons (ev_neg (ev_int64 (by decide))) ea_nil))) (by omega) (LeC.refl _) ⟨_, rfl, (show (0 : Int) < 1 by decide), rfl⟩ (fun i G' ⟨_, _, _, h⟩ => by subst h; exact trivial) (fun i G' hi ⟨q, hq, hw, h⟩ => ?_) (fun G' ⟨q, hq, hw, h⟩ => ?_))
  · subst h
    have hk : link - 1 - i < a.joints.length := by omega
    have hkv : link - 1 - i < vals.length := by rw [hc.l1]; exact hk
    have hko : link - 1 - i < offs.length := by rw [hc.l2]; exact hk
    have hj := hc.js _ (getD_mem hk)
    have hv := hc.vs _ (getD_mem hkv)
    have ho := hc.os _ (getD_mem hko)
    generalize hjj : a.joints.getD (link - 1 - i) default = j at hj
    generalize hvv : vals.getD (link - 1 - i) default = v at hv
    generalize hoo : offs.getD (link - 1 - i) default = o at ho
    have hstep : ∀ q2 : P4, q2 = stepP j v o q → trueP a.joints vals offs (link - (i + 1)) q2 = trueP a.joints vals offs link (pt.1, pt.2.1, pt.2.2, 1) := fun q2 e => by
      rw [← hq, show link - i = (link - 1 - i) + 1 by omega, e]
      show _ = trueP a.joints vals offs (link - 1 - i) (stepP (a.joints.getD (link - 1 - i) default) (vals.getD (link - 1 - i) default) (offs.getD (link - 1 - i) default) q)
      rw [hjj, hvv, hoo, show link - (i + 1) = link - 1 - i by omega]
    refine go_seq (go_asg (ev_is (ev_atT (f_Arm_joints T (ev_var rfl)) (ev_var rfl) hk) hjj) ?_)
    refine go_seq (go_tup2 (ev_is (ev_atL (ev_var rfl) (ev_var rfl) hkv) hvv) ?_)
    refine go_ifJ (A := tP K (64 + 700 * i + 602)) (x := turned q j.axis (v.1, v.2 * 1000000)) (y := shifted q j.axis (v.1, v.2)) (et_B (f_Joint_turns T (ev_var rfl))) (fun hb => ?_) (fun hb => ?_) ?_
    · exact ev_call (ι := Nat × P4 × Int × (Int × Int)) (64 + 700 * i, q, j.axis, (v.1, v.2 * 1000000)) (ea_cons (ev_var rfl) (ea_cons (f_Joint_axis T (ev_var rfl)) (ea_cons (ev_tup (ea_cons (ev_var rfl) (ea_cons (ev_le (ev_mul (ev_var rfl) (ev_int64 (by decide)) (by decide)) (by decide)) ea_nil))) ea_nil))) ⟨(show 64 + 700 * i ≤ 100000 by omega), hj.axis, hw, Int.mul_pos hv (by decide)⟩
    · exact ev_call (ι := Nat × P4 × Int × (Int × Int)) (64 + 700 * i, q, j.axis, (v.1, v.2)) (ea_cons (ev_var rfl) (ea_cons (f_Joint_axis T (ev_var rfl)) (ea_cons (ev_tup (ea_cons (ev_var rfl) (ea_cons (ev_le (ev_var rfl) (by decide)) ea_nil))) ea_nil))) ⟨(show 64 + 700 * i ≤ 100000 by omega), hj.axis, hw, hv⟩
    have h1 : 0 < (if j.turns = true then turned q j.axis (v.1, v.2 * 1000000) else shifted q j.axis (v.1, v.2)).2.2.2 := by
      split
      · exact turned_pos hw (Int.mul_pos hv (by decide))
      · exact shifted_pos hw hv
    have h2 : stepP j v o q = reduced (added (if j.turns = true then turned q j.axis (v.1, v.2 * 1000000) else shifted q j.axis (v.1, v.2)) o) := rfl
    generalize (if j.turns = true then turned q j.axis (v.1, v.2 * 1000000) else shifted q j.axis (v.1, v.2)) = q1 at h1 h2 ⊢
    refine go_asg (ev_call (ι := Nat × P4) (64 + 700 * i + 602 + 64 + 1, added q1 o) (ea_cons (ev_call (ι := Nat × Nat × P4 × P4) (64 + 700 * i + 602, 64, q1, o) (ea_cons (ev_var rfl) (ea_cons (ev_is (ev_atL (ev_var rfl) (ev_var rfl) hko) hoo) ea_nil)) ⟨(show 64 + 700 * i + 602 + 64 ≤ 200000 by omega), h1, ho⟩) ea_nil) ⟨(show 64 + 700 * i + 602 + 64 + 1 ≤ 8000 by omega), added_pos h1 ho⟩) ?_
    refine go_inv _ ⟨reduced (added q1 o), hstep _ h2.symm, reduced_pos (added_pos h1 ho), rfl⟩ ?_
    refine LeC.trans (LeC.retype (i := 5) rfl (tP_le (show 64 + 700 * i + 602 + 64 + 1 ≤ 64 + 700 * (i + 1) by omega))) ?_
    walk_at "wk"
  · subst h
    rw [Nat.sub_self] at hq
    have hq' : q = trueP a.joints vals offs link (pt.1, pt.2.1, pt.2.2, 1) := hq
    subst hq'
    exact go_ret ((ev_var rfl).sub (tP_le (by omega))) k
end
section
variable {P : Program} {w : World} {K : PySem.W.Frag} {mg : Str → Option Value} {base : Heap}
theorem sc_spot : FnScope ["arm", "row", "link", "point", "offsets", "joint", "place", "value"] ["arm", "row", "link", "point"] (defScope s_spot) := ⟨rfl, rfl, rfl, by decide +kernel, rfl, by decide +kernel, by decide +kernel⟩
def sp_spot (K : PySem.W.Frag) : Sp := spFam (fun (z : Ar × List Int × Nat × V3) => [(tAr K).en z.1, (yLstL K (tI 300)).en z.2.1, (tI 64).en (z.2.2.1 : Int), (tV K 24).en z.2.2.2]) (fun z => ArOk z.1 ∧ z.2.1.length = z.1.joints.length ∧ z.2.2.1 ≤ z.1.joints.length) (fun z => (tV K 5000).en (spot z.1.joints z.2.1 z.2.2.1 z.2.2.2))
theorem ok_spot (T : Txt K mg base) : Fn P w K mg base "spot" 3 ["arm", "row", "link", "point"] (sp_spot K) := by
  obtain ⟨fd, F⟩ := T.d_spot
  have S := sc_spot
  refine ⟨_, fd, fam_ok F S (fun _ => rfl) 4 rfl (fun cdv A0 outer s H E hr => ?_), T.g_spot, F.kp, FunD.bindsN F fun _ _ _ _ _ _ us hl => match us, hl with | [_, _, _, _], _ => rfl⟩
  refine ⟨_, (pss_cons (ps_setLc (i := 4) (own := [("joint", 5)]) (tt := tYes) rfl S.nd rfl rfl (sw_true rfl rfl rfl (by decide +kernel)) (xPit (K := K) (xFld (K := K) (pv 0) rfl)) (blkOk_by (N := ["arm", "row", "link", "point", "offsets", "joint", "place", "value"]) (sc := defScope s_spot) (by decide +kernel)) (fun _ _ _ _ _ => (pg_name (i := 5) S.nd rfl (Or.inl rfl))) (fun _ _ _ _ _ => pts_nil) (fun _ _ _ _ _ => (pe_tup (pa_cons (xIx (K := K) (xFld (K := K) (pv 5) rfl) pe_int (fun _ _ => rfl)) (pa_cons (xIx (K := K) (xFld (K := K) (pv 5) rfl) pe_int (fun _ _ => rfl)) (pa_cons (xIx (K := K) (xFld (K := K) (pv 5) rfl) pe_int (fun _ _ => rfl)) (pa_cons pe_int pa_nil)))))))
    (pss_cons (ps_set (i := 6) S.nd rfl (Or.inl rfl) (pe_fn (ok_true_place (K := K) T) (hr.mono (by decide)) rfl (pa_cons (pv 0) (pa_cons (pe_lc (own := [("value", 7)]) (tt := tYes) rfl S.nd (xPil (K := K) (pv 1)) (blkOk_by (N := ["arm", "row", "link", "point", "offsets", "joint", "place", "value"]) (sc := defScope s_spot) (by decide +kernel)) (fun _ _ _ _ _ => (pg_name (i := 7) S.nd rfl (Or.inl rfl))) (fun _ _ _ _ _ => pts_nil) (fun _ _ _ _ _ => (pe_tup (pa_cons (pv 7) (pa_cons pe_int pa_nil))))) (pa_cons (pv 4) (pa_cons (pv 2) (pa_cons (pv 3) pa_nil)))))))
    (pss_one (ps_ret (pe_tup (pa_cons (pe_op oDiv (xIx (K := K) (pv 6) pe_int (fun _ _ => rfl)) (xIx (K := K) (pv 6) pe_int (fun _ _ => rfl))) (pa_cons (pe_op oDiv (xIx (K := K) (pv 6) pe_int (fun _ _ => rfl)) (xIx (K := K) (pv 6) pe_int (fun _ _ => rfl))) (pa_cons (pe_op oDiv (xIx (K := K) (pv 6) pe_int (fun _ _ => rfl)) (xIx (K := K) (pv 6) pe_int (fun _ _ => rfl))) pa_nil)))))))), fun z hz B Nx Rt Bk Ct k => ?_⟩
  obtain ⟨a, row, link, pt⟩ := z
  (try dsimp only at hz k ⊢)
  obtain ⟨ha, hr', hl⟩ := hz
  have h6 := ha.j6
  refine go_seq (go_asg (EvO.ev (K := K) (A := tP K 64) (eo_lcT offP (f_Arm_joints T (ev_var rfl)) (by omega) (by decide) (fun j hj => ?_))) ?_)
  · exact ev_tup (ea_cons (ev_le (ev_ixTc (f_Joint_offset T (ev_var rfl)) rfl) (by decide)) (ea_cons (ev_le (ev_ixTc (f_Joint_offset T (ev_var rfl)) rfl) (by decide)) (ea_cons (ev_le (ev_ixTc (f_Joint_offset T (ev_var rfl)) rfl) (by decide)) (ea_cons (ev_finZ (ev_int64 (by decide)) rfl fun h => ⟨h, (show (0 : Int) < 1 by decide)⟩) ea_nil))))
  have hch : Chain a.joints (row.map fun v => (v, 1)) (a.joints.map offP) := ⟨by rw [List.length_map]; exact hr', List.length_map _, h6, ha.js, fun v hv => by
    obtain ⟨x, _, e⟩ := List.mem_map.mp hv
    rw [← e]; exact (show (0 : Int) < 1 by decide), fun o ho => by
    obtain ⟨x, _, e⟩ := List.mem_map.mp ho
    rw [← e]; exact (show (0 : Int) < 1 by decide)⟩
  refine go_seq (go_asg (ev_call (ι := Ar × List (Int × Int) × List P4 × Nat × V3) (a, row.map (fun v => (v, 1)), a.joints.map offP, link, pt) (ea_cons (ev_var rfl) (ea_cons (EvO.ev (K := K) (A := yT2 K (tI 300) (tI 64)) (eo_lcL (fun v => (v, 1)) (ev_var rfl) (by omega) (by decide) (fun v hv => ev_tup (ea_cons (ev_var rfl) (ea_cons (ev_int64 (by decide)) ea_nil))))) (ea_cons (ev_var rfl) (ea_cons (ev_var rfl) (ea_cons (ev_var rfl) ea_nil))))) ⟨hch, hl⟩) ?_)
  refine go_fact (i := 6) rfl tP_bd fun hq => ?_
  have hw := hq.2.2.2.2
  refine go_ret (ev_tup (ea_cons ?_ (ea_cons ?_ (ea_cons ?_ ea_nil)))) k
  all_goals exact ev_div (ev_ixTc (ev_var rfl) rfl) (ev_sub' (ev_ixTc (ev_var rfl) rfl)) hw (by decide)
theorem lenUp_eq (v : V3) : lengthUp v = lengthUp v := rfl
theorem sc_unknown : FnScope ["arm", "halves", "link", "body", "apart", "lever", "k", "joint", "loose"] ["arm", "halves", "link", "body"] (defScope s_unknown) := ⟨rfl, rfl, rfl, by decide +kernel, rfl, by decide +kernel, by decide +kernel⟩
def sp_unknown (K : PySem.W.Frag) : Sp := spFam (fun (z : Ar × List Int × Nat × Bd) => [(tAr K).en z.1, (yLstL K (tI 100)).en z.2.1, (tI 64).en (z.2.2.1 : Int), (tBd K).en z.2.2.2]) (fun z => ArOk z.1 ∧ z.2.1.length = z.1.joints.length ∧ z.2.2.1 ≤ z.1.joints.length) (fun z => (tI 400).en (unknown z.1.joints z.2.1 z.2.2.1 z.2.2.2))
theorem ok_unknown (T : Txt K mg base) : Fn P w K mg base "unknown" 3 ["arm", "halves", "link", "body"] (sp_unknown K) := by
  obtain ⟨fd, F⟩ := T.d_unknown
  have S := sc_unknown
  refine ⟨_, fd, fam_ok F S (fun _ => rfl) 5 rfl (fun cdv A0 outer s H E hr => ?_), T.g_unknown, F.kp, FunD.bindsN F fun _ _ _ _ _ _ us hl => match us, hl with | [_, _, _, _], _ => rfl⟩
  refine ⟨_, (pss_cons (ps_set (i := 4) S.nd rfl (Or.inl rfl) pe_int)
    (pss_cons (ps_set (i := 5) S.nd rfl (Or.inl rfl) (pe_callB (kMax2 rfl) (by rfl) T.z_max (by decide +kernel) (pa_cons (pe_fn (ok_length_up (K := K) T) (hr.mono (by decide)) rfl (pa_cons (xFld (K := K) (pv 3) rfl) pa_nil)) (pa_cons (pe_fn (ok_length_up (K := K) T) (hr.mono (by decide)) rfl (pa_cons (xFld (K := K) (pv 3) rfl) pa_nil)) pa_nil))))
    (pss_cons (ps_for PassesOwn.never rfl (pi_range3 rfl T.z_range (pa_cons (pe_op oSub (pv 2) pe_int) (pa_cons (pe_un oNeg pe_int) (pa_cons (pe_un oNeg pe_int) pa_nil)))) (pg_name (i := 6) S.nd rfl (Or.inl rfl)) (pss_cons (ps_set (i := 7) S.nd rfl (Or.inl rfl) (xIx (K := K) (xFld (K := K) (pv 0) rfl) (pv 6) (fun _ _ => rfl)))
    (pss_cons (ps_set (i := 8) S.nd rfl (Or.inl rfl) (pe_op oAdd (xIx (K := K) (pv 1) (pv 6) (fun _ _ => rfl)) (xFld (K := K) (pv 7) rfl)))
    (pss_cons (ps_if (pt_val (xFld (K := K) (pv 7) rfl)) (pss_one (ps_set (i := 4) S.nd rfl (Or.inl rfl) (pe_op oAdd (pv 4) (pe_fn (ok_divide_up (K := K) T) (hr.mono (by decide)) rfl (pa_cons (pe_op oMul (pe_op oMul pe_int (pv 5)) (pv 8)) (pa_cons (pe_gi (T.i_UNIT)) pa_nil)))))) (pss_cons (ps_set (i := 4) S.nd rfl (Or.inl rfl) (pe_op oAdd (pv 4) (pv 8)))
    (pss_one (ps_set (i := 5) S.nd rfl (Or.inl rfl) (pe_op oAdd (pe_op oAdd (pv 5) (pe_callB (kMax2 rfl) (by rfl) T.z_max (by decide +kernel) (pa_cons (pe_callB kAbs (by rfl) T.z_abs (by decide +kernel) (pa_cons (xFld (K := K) (pv 7) rfl) pa_nil)) (pa_cons (pe_callB kAbs (by rfl) T.z_abs (by decide +kernel) (pa_cons (xFld (K := K) (pv 7) rfl) pa_nil)) pa_nil)))) (xFld (K := K) (pv 7) rfl))))))
    (pss_cons (ps_set (i := 4) S.nd rfl (Or.inl rfl) (pe_op oAdd (pv 4) (pe_op oMul pe_int (xFld (K := K) (pv 7) rfl))))
    (pss_one (ps_set (i := 5) S.nd rfl (Or.inl rfl) (pe_op oAdd (pe_op oAdd (pv 5) (pe_fn (ok_length_up (K := K) T) (hr.mono (by decide)) rfl (pa_cons (xFld (K := K) (pv 7) rfl) pa_nil))) (pe_op oMul pe_int (xFld (K := K) (pv 7) rfl))))))))))
    (pss_one (ps_ret (pv 4)))))), fun z hz B Nx Rt Bk Ct k => ?_⟩
  obtain ⟨a, hs, link, b⟩ := z
  (try dsimp only at hz k ⊢)
  obtain ⟨ha, hr', hl⟩ := hz
  have h6 := ha.j6
  refine go_seq (go_asg (ev_le (m := 300) (ev_int64 (by decide)) (by decide)) ?_)
  refine go_seq (go_asg (ev_le (m := 100) (ev_max2 (ev_call (ι := V3) b.first (ea_cons (f_Body_first T (ev_var rfl)) ea_nil) True.intro) (ev_call (ι := V3) b.last (ea_cons (f_Body_last T (ev_var rfl)) ea_nil) True.intro)) (by decide)) ?_)
  refine go_seq (go_forDown (N := link) (fun i G' => ∃ s : Int × Int, unk a.joints hs (link - i) s = unk a.joints hs link (2, max (lengthUp b.first) (lengthUp b.last)) ∧ G' = ⟨startG [(tAr K).en a, (yLstL K (tI 100)).en hs, (tI 64).en (link : Int), (tBd K).en b, (tI (300 + 10 * i)).en s.1, (tI (100 + 10 * i)).en s.2] 3, .no⟩) _ (ea_cons (ev_sub (ev_var rfl) (ev_int64 (by decide))) (ea_cons (ev_neg (ev_int64 (by decide))) (ea_cons (ev_neg (ev_int64 (by decide))) ea_nil))) (by omega) (LeC.refl _) ⟨(2, max (lengthUp b.first) (lengthUp b.last)), rfl, rfl⟩ (fun i G' ⟨_, _, h⟩ => by subst h; exact trivial) (fun i G' hi ⟨s, hq, h⟩ => ?_) (fun G' ⟨s, hq, h⟩ => ?_))
  · subst h
    have hk : link - 1 - i < a.joints.length := by omega
    have hkv : link - 1 - i < hs.length := by rw [hr']; exact hk
    have hj := ha.js _ (getD_mem hk)
    generalize hjj : a.joints.getD (link - 1 - i) default = j at hj
    have hstep : ∀ s2 : Int × Int, s2 = unkStep j (hs.getD (link - 1 - i) default) s → unk a.joints hs (link - (i + 1)) s2 = unk a.joints hs link (2, max (lengthUp b.first) (lengthUp b.last)) := fun q2 e => by
      rw [← hq, show link - i = (link - 1 - i) + 1 by omega, e]
      show _ = unk a.joints hs (link - 1 - i) (unkStep (a.joints.getD (link - 1 - i) default) (hs.getD (link - 1 - i) default) s)
      rw [hjj, show link - (i + 1) = link - 1 - i by omega]
    generalize hhh : hs.getD (link - 1 - i) default = half at hstep
    refine go_seq (go_asg (ev_is (ev_atT (f_Arm_joints T (ev_var rfl)) (ev_var rfl) hk) hjj) ?_)
    refine go_seq (go_asg (e1 := (tI 101).en (half + j.err)) (ev_fin (ev_add (ev_atL (ev_var rfl) (ev_var rfl) hkv) (f_Joint_error T (ev_var rfl))) (by decide) (by rw [hhh])) ?_)
    refine go_seq (go_if (et_B (f_Joint_turns T (ev_var rfl))) (fun hb => ?_) (fun hb => ?_))
    · refine go_asg (ev_add (ev_var rfl) (ev_call (ι := Nat × Nat × Int × Int) (64 + (100 + 10 * i) + 101, 64, 2 * s.2 * (half + j.err), 1000000) (ea_cons (ev_mul (ev_mul (ev_int64 (by decide)) (ev_var rfl) (by omega)) (ev_var rfl) (by omega)) (ea_cons (ev_int64 (by decide)) ea_nil)) ⟨(show (64 : Nat) ≤ 8000 by decide), (show (0 : Int) < 1000000 by decide)⟩)) ?_
      refine go_seq (go_asg (ev_add (ev_var rfl) (ev_mul (ev_int64 (by decide)) (f_Joint_box T (ev_var rfl)) (by decide))) ?_)
      refine go_asg (ev_add (ev_add (ev_var rfl) (ev_call (ι := V3) j.off (ea_cons (f_Joint_offset T (ev_var rfl)) ea_nil) True.intro)) (ev_mul (ev_int64 (by decide)) (f_Joint_box T (ev_var rfl)) (by decide))) ?_
      refine go_inv _ ⟨(_, _), hstep (_, _) (by unfold unkStep; rw [if_pos hb]), rfl⟩ ?_
      refine LeC.trans (LeC.retype (i := 4) rfl (tI_le (m := 300 + 10 * (i + 1)) (by omega))) ?_
      refine LeC.trans (LeC.retype (i := 5) rfl (tI_le (m := 100 + 10 * (i + 1)) (by omega))) ?_
      walk_at "wk"
    · refine go_seq (go_asg (ev_add (ev_var rfl) (ev_var rfl)) ?_)
      refine go_asg (ev_add (ev_add (ev_var rfl) (ev_max2 (ev_abs (f_Joint_least T (ev_var rfl))) (ev_abs (f_Joint_most T (ev_var rfl))))) (f_Joint_error T (ev_var rfl))) ?_
      refine go_seq (go_asg (ev_add (ev_var rfl) (ev_mul (ev_int64 (by decide)) (f_Joint_box T (ev_var rfl)) (by decide))) ?_)
      refine go_asg (ev_add (ev_add (ev_var rfl) (ev_call (ι := V3) j.off (ea_cons (f_Joint_offset T (ev_var rfl)) ea_nil) True.intro)) (ev_mul (ev_int64 (by decide)) (f_Joint_box T (ev_var rfl)) (by decide))) ?_
      refine go_inv _ ⟨(_, _), hstep (_, _) (by unfold unkStep; rw [if_neg (by rw [hb]; decide)]), rfl⟩ ?_
      refine LeC.trans (LeC.retype (i := 4) rfl (tI_le (m := 300 + 10 * (i + 1)) (by omega))) ?_
      refine LeC.trans (LeC.retype (i := 5) rfl (tI_le (m := 100 + 10 * (i + 1)) (by omega))) ?_
      walk_at "wk"
  · subst h
    rw [Nat.sub_self] at hq
    have hq' : s = unk a.joints hs link (2, max (lengthUp b.first) (lengthUp b.last)) := hq
    exact go_ret (ev_fin (ev_var rfl) (by omega) (by rw [hq']; rfl)) k
end
section
variable {P : Program} {w : World} {K : PySem.W.Frag} {mg : Str → Option Value} {base : Heap}
abbrev tG (K : PySem.W.Frag) : Ty Gp := tGp K 26000 21000
abbrev tGX (K : PySem.W.Frag) : Ty Unit := tEx (tG K) fun _ => True
abbrev tLn (K : PySem.W.Frag) : Ty Line := yT2 K (tV K 5000) (tV K 5000)
theorem sc_Gap_init : FnScope ["self", "vector", "scale"] ["self", "vector", "scale"] (defScope s_Gap_init) := ⟨rfl, rfl, rfl, by decide +kernel, rfl, by decide +kernel, by decide +kernel⟩
def sp_Gap_init (K : PySem.W.Frag) : Sp := spMk (fun (z : Nat × Nat × Gp) => [(tV K z.1).en z.2.2.vector, (tI z.2.1).en z.2.2.scale]) (fun _ => True) (He.ga K "Gap") (fun z => gpF K z.1 z.2.1 z.2.2)
theorem mk_Gap (T : Txt K mg base) : Mc P w K mg base "Gap" 1 ["self", "vector", "scale"] (sp_Gap_init K) [] := by
  obtain ⟨fd, F⟩ := T.d_Gap_init
  have S := sc_Gap_init
  refine ⟨_, fd, [], mk_ok F S (fun _ => rfl) 0 rfl (fun cdv A0 outer s H E hr => ?_), T.k_Gap, T.g_Gap, FunD.bindsN F fun _ _ _ _ _ _ us hl => match us, hl with | [_, _, _], _ => rfl, .nil⟩
  refine ⟨_, (pss_cons (xSfld (K := K) (pv 0) (pv 1) rfl)
    (pss_one (xSfld (K := K) (pv 0) (pv 2) rfl))), fun z hz B Nx Rt Bk Ct k => ?_⟩
  refine go_seq (go_fld T.c_Gap T.n_Gap_vector (ev_var rfl) (by kernel_rfl) (Nat.le_of_ble_eq_true rfl) ?_)
  refine (go_fld T.c_Gap T.n_Gap_scale (ev_var rfl) (by kernel_rfl) (Nat.le_of_ble_eq_true rfl) ?_)
  exact go_fin k
theorem e_Gap {G : Ctx} {ta tb : TE} {v : V3} {s : Int} {n m a b : Nat} (h1 : Ev ta G ((tV K n).en v)) (h2 : Ev tb G ((tI m).en s)) (hn : n ≤ a) (hm : m ≤ b) : Ev (tMake (He.ga K "Gap") (sp_Gap_init K) [] E0 (tCons ta (tCons tb tNil))) G ((tGp K a b).en ⟨v, s⟩) :=
  ev_make (des := []) ((a, b, (⟨v, s⟩ : Gp)) : Nat × Nat × Gp) (⟨v, s⟩ : Gp) (ea_cons (h1.sub (tV_le hn)) (ea_cons (ev_le h2 hm) ea_nil)) (fun _ => .nil) rfl trivial rfl trivial
abbrev tGs (K : PySem.W.Frag) : Ty Unit := tEx (tGp K 15006 10004) fun _ => True
theorem sc_Gap_beyond : FnScope ["self", "distance", "reach"] ["self", "distance"] (defScope s_Gap_beyond) := ⟨rfl, rfl, rfl, by decide +kernel, rfl, by decide +kernel, by decide +kernel⟩
def sp_Gap_beyond (K : PySem.W.Frag) : Sp := spFam (fun (z : Gp × Int) => [(tG K).en z.1, (tI 500).en z.2]) (fun _ => True) (fun _ => tAB.en ())
theorem ok_Gap_beyond (T : Txt K mg base) : Mt P w K mg base "Gap" "beyond" 2 ["self", "distance"] (sp_Gap_beyond K) := by
  obtain ⟨fd, F⟩ := T.d_Gap_beyond
  have S := sc_Gap_beyond
  refine ⟨_, fd, fam_ok F S (fun _ => rfl) 1 rfl (fun cdv A0 outer s H E hr => ?_), T.m_Gap_beyond, FunD.bindsN F fun _ _ _ _ _ _ us hl => match us, hl with | [_, _], _ => rfl⟩
  refine ⟨_, (pss_cons (ps_set (i := 2) S.nd rfl (Or.inl rfl) (pe_op oMul (pv 1) (xFld (K := K) (pv 0) rfl)))
    (pss_one (ps_ret (pe_cmpR oGt (pe_fn (ok_dot (K := K) T) (hr.mono (by decide)) rfl (pa_cons (xFld (K := K) (pv 0) rfl) (pa_cons (xFld (K := K) (pv 0) rfl) pa_nil))) (pe_op oMul (pv 2) (pv 2)) (nomark _))))), fun z hz B Nx Rt Bk Ct k => ?_⟩
  refine go_seq (go_asg (ev_mul (ev_var rfl) (f_Gap_scale T (ev_var rfl)) (by decide)) ?_)
  exact go_ret (ev_AB (ev_gt (e_dot (f_Gap_vector T (ev_var rfl)) (f_Gap_vector T (ev_var rfl)) (by decide)) (ev_mul (ev_var rfl) (ev_var rfl) (by decide)))) k
theorem sc_Gap_within : FnScope ["self", "distance"] ["self", "distance"] (defScope s_Gap_within) := ⟨rfl, rfl, rfl, by decide +kernel, rfl, by decide +kernel, by decide +kernel⟩
def sp_Gap_within (K : PySem.W.Frag) : Sp := spFam (fun (z : Gp × Int) => [(tG K).en z.1, (tI 500).en z.2]) (fun _ => True) (fun _ => tAB.en ())
theorem ok_Gap_within (T : Txt K mg base) : Mt P w K mg base "Gap" "within" 3 ["self", "distance"] (sp_Gap_within K) := by
  obtain ⟨fd, F⟩ := T.d_Gap_within
  have S := sc_Gap_within
  refine ⟨_, fd, fam_ok F S (fun _ => rfl) 0 rfl (fun cdv A0 outer s H E hr => ?_), T.m_Gap_within, FunD.bindsN F fun _ _ _ _ _ _ us hl => match us, hl with | [_, _], _ => rfl⟩
  refine ⟨_, (pss_one (ps_ret (pe_and (pe_cmpR oGe (pv 1) pe_int (nomark _)) (pe_one (pe_not (xMt (K := K) T.c_Gap (ok_Gap_beyond (K := K) T) (hr.mono (by decide)) (pv 0) (pa_cons (pv 1) pa_nil))))))), fun z hz B Nx Rt Bk Ct k => ?_⟩
  exact go_ret (ev_andX (ev_AB (ev_ge (ev_var rfl) (ev_int64 (by decide)))) (ev_notX (ev_meth (C := "Gap") (ι := Gp × Int) z (ev_var rfl) (z_Gap_beyond _ _ _) (ea_cons (ev_var rfl) ea_nil) rfl trivial))) k
theorem sc_Gap_shorter : FnScope ["self", "other", "mine"] ["self", "other"] (defScope s_Gap_shorter) := ⟨rfl, rfl, rfl, by decide +kernel, rfl, by decide +kernel, by decide +kernel⟩
def sp_Gap_shorter (K : PySem.W.Frag) : Sp := spFam (fun (z : Gp × Gp) => [(tG K).en z.1, (tG K).en z.2]) (fun _ => True) (fun _ => tAB.en ())
theorem ok_Gap_shorter (T : Txt K mg base) : Mt P w K mg base "Gap" "shorter" 2 ["self", "other"] (sp_Gap_shorter K) := by
  obtain ⟨fd, F⟩ := T.d_Gap_shorter
  have S := sc_Gap_shorter
  refine ⟨_, fd, fam_ok F S (fun _ => rfl) 1 rfl (fun cdv A0 outer s H E hr => ?_), T.m_Gap_shorter, FunD.bindsN F fun _ _ _ _ _ _ us hl => match us, hl with | [_, _], _ => rfl⟩
  refine ⟨_, (pss_cons (ps_set (i := 2) S.nd rfl (Or.inl rfl) (pe_op oMul (pe_op oMul (pe_fn (ok_dot (K := K) T) (hr.mono (by decide)) rfl (pa_cons (xFld (K := K) (pv 0) rfl) (pa_cons (xFld (K := K) (pv 0) rfl) pa_nil))) (xFld (K := K) (pv 1) rfl)) (xFld (K := K) (pv 1) rfl)))
    (pss_one (ps_ret (pe_cmpR oLt (pv 2) (pe_op oMul (pe_op oMul (pe_fn (ok_dot (K := K) T) (hr.mono (by decide)) rfl (pa_cons (xFld (K := K) (pv 1) rfl) (pa_cons (xFld (K := K) (pv 1) rfl) pa_nil))) (xFld (K := K) (pv 0) rfl)) (xFld (K := K) (pv 0) rfl)) (nomark _))))), fun z hz B Nx Rt Bk Ct k => ?_⟩
  refine go_seq (go_asg (ev_mul (ev_mul (e_dot (f_Gap_vector T (ev_var rfl)) (f_Gap_vector T (ev_var rfl)) (by decide)) (f_Gap_scale T (ev_var rfl)) (by decide)) (f_Gap_scale T (ev_var rfl)) (by decide)) ?_)
  exact go_ret (ev_AB (ev_lt (ev_var rfl) (ev_mul (ev_mul (e_dot (f_Gap_vector T (ev_var rfl)) (f_Gap_vector T (ev_var rfl)) (by decide)) (f_Gap_scale T (ev_var rfl)) (by decide)) (f_Gap_scale T (ev_var rfl)) (by decide)))) k
theorem sc_turned_round : FnScope ["gap"] ["gap"] (defScope s_turned_round) := ⟨rfl, rfl, rfl, by decide +kernel, rfl, by decide +kernel, by decide +kernel⟩
def sp_turned_round (K : PySem.W.Frag) : Sp := spFam (fun (z : Nat × Gp) => [(tEx (tGp K 15006 10004) fun _ => True).en ()]) (fun _ => True) (fun _ => (tGX K).en ())
theorem ok_turned_round (T : Txt K mg base) : Fn P w K mg base "turned_round" 3 ["gap"] (sp_turned_round K) := by
  obtain ⟨fd, F⟩ := T.d_turned_round
  have S := sc_turned_round
  refine ⟨_, fd, fam_ok F S (fun _ => rfl) 0 rfl (fun cdv A0 outer s H E hr => ?_), T.g_turned_round, F.kp, FunD.bindsN F fun _ _ _ _ _ _ us hl => match us, hl with | [_], _ => rfl⟩
  refine ⟨_, (pss_one (ps_ret (xMc (K := K) (mk_Gap (K := K) T) (hr.mono (by decide)) rfl (pa_cons (pe_fn (ok_scaled (K := K) T) (hr.mono (by decide)) rfl (pa_cons (xFld (K := K) (pv 0) rfl) (pa_cons (pe_un oNeg pe_int) pa_nil))) (pa_cons (xFld (K := K) (pv 0) rfl) pa_nil))))), fun z hz B Nx Rt Bk Ct k => ?_⟩
  refine go_ex (i := 0) rfl fun g _ => ?_
  exact go_ret (ev_ex (e_Gap (e_scaled (f_Gap_vector T (ev_var rfl)) (ev_neg (ev_int64 (by decide))) (by decide)) (f_Gap_scale T (ev_var rfl)) (by decide) (by decide)) trivial) k
theorem sc_shortest : FnScope ["gaps", "best", "gap"] ["gaps"] (defScope s_shortest) := ⟨rfl, rfl, rfl, by decide +kernel, rfl, by decide +kernel, by decide +kernel⟩
def sp_shortest (K : PySem.W.Frag) : Sp := spFam (fun (z : List Gp) => [(yLstL K (tG K)).en z]) (fun z => 0 < z.length) (fun _ => (tGX K).en ())
theorem ok_shortest (T : Txt K mg base) : Fn P w K mg base "shortest" 3 ["gaps"] (sp_shortest K) := by
  obtain ⟨fd, F⟩ := T.d_shortest
  have S := sc_shortest
  refine ⟨_, fd, fam_ok F S (fun _ => rfl) 2 rfl (fun cdv A0 outer s H E hr => ?_), T.g_shortest, F.kp, FunD.bindsN F fun _ _ _ _ _ _ us hl => match us, hl with | [_], _ => rfl⟩
  refine ⟨_, (pss_cons (ps_set (i := 1) S.nd rfl (Or.inl rfl) (xIx (K := K) (pv 0) pe_int (fun _ _ => rfl)))
    (pss_cons (ps_for PassesOwn.never rfl (xPil (K := K) (pv 0)) (pg_name (i := 2) S.nd rfl (Or.inl rfl)) (pss_one (ps_if (pt_val (xMt (K := K) T.c_Gap (ok_Gap_shorter (K := K) T) (hr.mono (by decide)) (pv 2) (pa_cons (pv 1) pa_nil))) (pss_one (ps_set (i := 1) S.nd rfl (Or.inl rfl) (pv 2))) pss_nil)))
    (pss_one (ps_ret (pv 1))))), fun z hz B Nx Rt Bk Ct k => ?_⟩
  (try dsimp only at hz k ⊢)
  refine go_seq (go_asg (ev_atL (i := 0) (ev_var rfl) (ev_int64 (by decide)) hz) ?_)
  generalize z.getD 0 default = g0
  refine go_seq (go_forL (fun i G' => ∃ b : Gp, G' = ⟨startG [(yLstL K (tG K)).en z, (tG K).en b] 1, .no⟩) _ (ev_var rfl) (LeC.refl _) ⟨_, rfl⟩ (fun i G' ⟨_, h⟩ => by subst h; exact trivial) (fun B1 lb i e1 G' he ⟨b, h⟩ => ?_) (fun G' ⟨b, h⟩ => ?_))
  · subst h
    rw [List.getElem?_map] at he
    obtain ⟨g, _, e⟩ := Option.map_eq_some_iff.mp he
    subst e
    refine go_ifX (etx_B (ev_meth (C := "Gap") (ι := Gp × Gp) (g, b) (ev_var rfl) (z_Gap_shorter _ _ _) (ea_cons (ev_var rfl) ea_nil) rfl trivial)) ?_ ?_
    · exact go_asg (ev_var rfl) (go_inv _ ⟨g, rfl⟩ (by walk_at "wk"))
    · exact go_next (go_inv _ ⟨b, rfl⟩ (by walk_at "wk"))
  · subst h
    exact go_ret (ev_ex (ev_var rfl) trivial) k
theorem sc_place_gap : FnScope ["place", "start", "end", "along", "away", "size", "part"] ["place", "start", "end"] (defScope s_place_gap) := ⟨rfl, rfl, rfl, by decide +kernel, rfl, by decide +kernel, by decide +kernel⟩
def sp_place_gap (K : PySem.W.Frag) : Sp := spFam (fun (z : V3 × V3 × V3) => [(tV K 5000).en z.1, (tV K 5000).en z.2.1, (tV K 5000).en z.2.2]) (fun _ => True) (fun _ => (tGs K).en ())
theorem ok_place_gap (T : Txt K mg base) : Fn P w K mg base "place_gap" 3 ["place", "start", "end"] (sp_place_gap K) := by
  obtain ⟨fd, F⟩ := T.d_place_gap
  have S := sc_place_gap
  refine ⟨_, fd, fam_ok F S (fun _ => rfl) 4 rfl (fun cdv A0 outer s H E hr => ?_), T.g_place_gap, F.kp, FunD.bindsN F fun _ _ _ _ _ _ us hl => match us, hl with | [_, _, _], _ => rfl⟩
  refine ⟨_, (pss_cons (ps_set (i := 3) S.nd rfl (Or.inl rfl) (pe_fn (ok_minus (K := K) T) (hr.mono (by decide)) rfl (pa_cons (pv 2) (pa_cons (pv 1) pa_nil))))
    (pss_cons (ps_set (i := 4) S.nd rfl (Or.inl rfl) (pe_fn (ok_minus (K := K) T) (hr.mono (by decide)) rfl (pa_cons (pv 0) (pa_cons (pv 1) pa_nil))))
    (pss_cons (ps_set (i := 5) S.nd rfl (Or.inl rfl) (pe_fn (ok_dot (K := K) T) (hr.mono (by decide)) rfl (pa_cons (pv 3) (pa_cons (pv 3) pa_nil))))
    (pss_cons (ps_set (i := 6) S.nd rfl (Or.inl rfl) (pe_fn (ok_dot (K := K) T) (hr.mono (by decide)) rfl (pa_cons (pv 4) (pa_cons (pv 3) pa_nil))))
    (pss_cons (ps_if (pt_cmpR oLe (pv 6) pe_int (nomark _)) (pss_one (ps_ret (xMc (K := K) (mk_Gap (K := K) T) (hr.mono (by decide)) rfl (pa_cons (pv 4) (pa_cons pe_int pa_nil))))) pss_nil)
    (pss_cons (ps_if (pt_cmpR oGe (pv 6) (pv 5) (nomark _)) (pss_one (ps_ret (xMc (K := K) (mk_Gap (K := K) T) (hr.mono (by decide)) rfl (pa_cons (pe_fn (ok_minus (K := K) T) (hr.mono (by decide)) rfl (pa_cons (pv 0) (pa_cons (pv 2) pa_nil))) (pa_cons pe_int pa_nil))))) pss_nil)
    (pss_one (ps_ret (xMc (K := K) (mk_Gap (K := K) T) (hr.mono (by decide)) rfl (pa_cons (pe_fn (ok_minus (K := K) T) (hr.mono (by decide)) rfl (pa_cons (pe_fn (ok_scaled (K := K) T) (hr.mono (by decide)) rfl (pa_cons (pv 4) (pa_cons (pv 5) pa_nil))) (pa_cons (pe_fn (ok_scaled (K := K) T) (hr.mono (by decide)) rfl (pa_cons (pv 3) (pa_cons (pv 6) pa_nil))) pa_nil))) (pa_cons (pv 5) pa_nil))))))))))), fun z hz B Nx Rt Bk Ct k => ?_⟩
  obtain ⟨q, s, e⟩ := z
  (try dsimp only at hz k ⊢)
  refine go_seq (go_asg (e_minus (ev_var rfl) (ev_var rfl) (by decide)) ?_)
  refine go_seq (go_asg (e_minus (ev_var rfl) (ev_var rfl) (by decide)) ?_)
  refine go_seq (go_asg (e_dot (ev_var rfl) (ev_var rfl) (by decide)) ?_)
  refine go_seq (go_asg (e_dot (ev_var rfl) (ev_var rfl) (by decide)) ?_)
  refine go_seq (go_if (et_test (ev_lec (ev_var rfl) (ev_int64 (by decide)))) (fun _ => go_ret (ev_ex (e_Gap (ev_var rfl) (ev_int64 (by decide)) (by decide) (by decide)) trivial) k) (fun _ => go_next ?_))
  refine go_seq (go_if (et_test (ev_ge (ev_var rfl) (ev_var rfl))) (fun _ => go_ret (ev_ex (e_Gap (e_minus (ev_var rfl) (ev_var rfl) (by decide)) (ev_int64 (by decide)) (by decide) (by decide)) trivial) k) (fun _ => go_next ?_))
  exact go_ret (ev_ex (e_Gap (e_minus (e_scaled (ev_var rfl) (ev_var rfl) (by decide)) (e_scaled (ev_var rfl) (ev_var rfl) (by decide)) (by decide)) (ev_var rfl) (by decide) (by decide)) trivial) k
theorem e_place_gap {G : Ctx} {ta tb tc : TE} {u v x : V3} (h1 : Ev ta G ((tV K 5000).en u)) (h2 : Ev tb G ((tV K 5000).en v)) (h3 : Ev tc G ((tV K 5000).en x)) : Ev (tCall (sp_place_gap K) [] E0 (tCons ta (tCons tb (tCons tc tNil)))) G ((tGs K).en ()) := ev_call (ι := V3 × V3 × V3) (u, v, x) (ea_cons h1 (ea_cons h2 (ea_cons h3 ea_nil))) True.intro
theorem e_turned_round {G : Ctx} {ta : TE} (h1 : Ev ta G ((tGs K).en ())) : Ev (tCall (sp_turned_round K) [] E0 (tCons ta tNil)) G ((tGX K).en ()) := ev_call (ι := Nat × Gp) (0, default) (ea_cons h1 ea_nil) True.intro
theorem gs_x {te : TE} {G : Ctx} (h : Ev te G ((tGs K).en ())) : Ev te G ((tGX K).en ()) := h.sub fun F v ⟨g, r, _⟩ => ⟨g, gp_le (by decide) (by decide) F v r, trivial⟩
theorem sc_crossing_gap : FnScope ["first", "second", "one", "two", "away", "mixed", "whole", "on_one", "on_two", "moved"] ["first", "second"] (defScope s_crossing_gap) := ⟨rfl, rfl, rfl, by decide +kernel, rfl, by decide +kernel, by decide +kernel⟩
def sp_crossing_gap (K : PySem.W.Frag) : Sp := spFam (fun (z : Line × Line) => [(tLn K).en z.1, (tLn K).en z.2]) (fun _ => True) (fun _ => (tEx (tOpt (tG K)) fun _ => True).en ())
theorem ok_crossing_gap (T : Txt K mg base) : Fn P w K mg base "crossing_gap" 3 ["first", "second"] (sp_crossing_gap K) := by
  obtain ⟨fd, F⟩ := T.d_crossing_gap
  have S := sc_crossing_gap
  refine ⟨_, fd, fam_ok F S (fun _ => rfl) 8 rfl (fun cdv A0 outer s H E hr => ?_), T.g_crossing_gap, F.kp, FunD.bindsN F fun _ _ _ _ _ _ us hl => match us, hl with | [_, _], _ => rfl⟩
  refine ⟨_, (pss_cons (ps_set (i := 2) S.nd rfl (Or.inl rfl) (pe_fn (ok_minus (K := K) T) (hr.mono (by decide)) rfl (pa_cons (xIx (K := K) (pv 0) pe_int (fun _ _ => rfl)) (pa_cons (xIx (K := K) (pv 0) pe_int (fun _ _ => rfl)) pa_nil))))
    (pss_cons (ps_set (i := 3) S.nd rfl (Or.inl rfl) (pe_fn (ok_minus (K := K) T) (hr.mono (by decide)) rfl (pa_cons (xIx (K := K) (pv 1) pe_int (fun _ _ => rfl)) (pa_cons (xIx (K := K) (pv 1) pe_int (fun _ _ => rfl)) pa_nil))))
    (pss_cons (ps_set (i := 4) S.nd rfl (Or.inl rfl) (pe_fn (ok_minus (K := K) T) (hr.mono (by decide)) rfl (pa_cons (xIx (K := K) (pv 0) pe_int (fun _ _ => rfl)) (pa_cons (xIx (K := K) (pv 1) pe_int (fun _ _ => rfl)) pa_nil))))
    (pss_cons (ps_set (i := 5) S.nd rfl (Or.inl rfl) (pe_fn (ok_dot (K := K) T) (hr.mono (by decide)) rfl (pa_cons (pv 2) (pa_cons (pv 3) pa_nil))))
    (pss_cons (ps_set (i := 6) S.nd rfl (Or.inl rfl) (pe_op oSub (pe_op oMul (pe_fn (ok_dot (K := K) T) (hr.mono (by decide)) rfl (pa_cons (pv 2) (pa_cons (pv 2) pa_nil))) (pe_fn (ok_dot (K := K) T) (hr.mono (by decide)) rfl (pa_cons (pv 3) (pa_cons (pv 3) pa_nil)))) (pe_op oMul (pv 5) (pv 5))))
    (pss_cons (ps_if (pt_cmpR oLe (pv 6) pe_int (nomark _)) (pss_one (ps_ret pe_non)) pss_nil)
    (pss_cons (ps_set (i := 7) S.nd rfl (Or.inl rfl) (pe_op oSub (pe_op oMul (pv 5) (pe_fn (ok_dot (K := K) T) (hr.mono (by decide)) rfl (pa_cons (pv 3) (pa_cons (pv 4) pa_nil)))) (pe_op oMul (pe_fn (ok_dot (K := K) T) (hr.mono (by decide)) rfl (pa_cons (pv 3) (pa_cons (pv 3) pa_nil))) (pe_fn (ok_dot (K := K) T) (hr.mono (by decide)) rfl (pa_cons (pv 2) (pa_cons (pv 4) pa_nil))))))
    (pss_cons (ps_set (i := 8) S.nd rfl (Or.inl rfl) (pe_op oSub (pe_op oMul (pe_fn (ok_dot (K := K) T) (hr.mono (by decide)) rfl (pa_cons (pv 2) (pa_cons (pv 2) pa_nil))) (pe_fn (ok_dot (K := K) T) (hr.mono (by decide)) rfl (pa_cons (pv 3) (pa_cons (pv 4) pa_nil)))) (pe_op oMul (pv 5) (pe_fn (ok_dot (K := K) T) (hr.mono (by decide)) rfl (pa_cons (pv 2) (pa_cons (pv 4) pa_nil))))))
    (pss_cons (ps_if (pt_not (PW.pt (pw_and (pt_chain oLt oLt pe_int (pv 7) (pv 6)) (pw_and1 (pt_chain oLt oLt pe_int (pv 8) (pv 6)))))) (pss_one (ps_ret pe_non)) pss_nil)
    (pss_cons (ps_set (i := 9) S.nd rfl (Or.inl rfl) (pe_fn (ok_plus (K := K) T) (hr.mono (by decide)) rfl (pa_cons (pe_fn (ok_scaled (K := K) T) (hr.mono (by decide)) rfl (pa_cons (pv 4) (pa_cons (pv 6) pa_nil))) (pa_cons (pe_fn (ok_scaled (K := K) T) (hr.mono (by decide)) rfl (pa_cons (pv 2) (pa_cons (pv 7) pa_nil))) pa_nil))))
    (pss_one (ps_ret (xMc (K := K) (mk_Gap (K := K) T) (hr.mono (by decide)) rfl (pa_cons (pe_fn (ok_minus (K := K) T) (hr.mono (by decide)) rfl (pa_cons (pv 9) (pa_cons (pe_fn (ok_scaled (K := K) T) (hr.mono (by decide)) rfl (pa_cons (pv 3) (pa_cons (pv 8) pa_nil))) pa_nil))) (pa_cons (pv 6) pa_nil))))))))))))))), fun z hz B Nx Rt Bk Ct k => ?_⟩
  obtain ⟨l, m⟩ := z
  (try dsimp only at hz k ⊢)
  refine go_seq (go_asg (e_minus (ev_ixTc (ev_var rfl) rfl) (ev_ixTc (ev_var rfl) rfl) (by decide)) ?_)
  refine go_seq (go_asg (e_minus (ev_ixTc (ev_var rfl) rfl) (ev_ixTc (ev_var rfl) rfl) (by decide)) ?_)
  refine go_seq (go_asg (e_minus (ev_ixTc (ev_var rfl) rfl) (ev_ixTc (ev_var rfl) rfl) (by decide)) ?_)
  refine go_seq (go_asg (e_dot (ev_var rfl) (ev_var rfl) (by decide)) ?_)
  refine go_seq (go_asg (ev_sub (ev_mul (e_dot (ev_var rfl) (ev_var rfl) (by decide)) (e_dot (ev_var rfl) (ev_var rfl) (by decide)) (by decide)) (ev_mul (ev_var rfl) (ev_var rfl) (by decide))) ?_)
  refine go_seq (go_if (et_test (ev_lec (ev_var rfl) (ev_int64 (by decide)))) (fun _ => go_ret (ev_ex ev_noneO trivial) k) (fun _ => go_next ?_))
  refine go_seq (go_asg (ev_sub (ev_mul (ev_var rfl) (e_dot (ev_var rfl) (ev_var rfl) (by decide)) (by decide)) (ev_mul (e_dot (ev_var rfl) (ev_var rfl) (by decide)) (e_dot (ev_var rfl) (ev_var rfl) (by decide)) (by decide))) ?_)
  refine go_seq (go_asg (ev_sub (ev_mul (e_dot (ev_var rfl) (ev_var rfl) (by decide)) (e_dot (ev_var rfl) (ev_var rfl) (by decide)) (by decide)) (ev_mul (ev_var rfl) (e_dot (ev_var rfl) (ev_var rfl) (by decide)) (by decide))) ?_)
  refine go_seq (go_if (et_not (et_and (et_test (ev_chain (ev_int64 (by decide)) (ev_var rfl) (ev_var rfl) (fun _ H v w Q => rq_lt H v w Q) (fun _ H v w Q => rq_lt H v w Q))) (fun _ => et_test (ev_chain (ev_int64 (by decide)) (ev_var rfl) (ev_var rfl) (fun _ H v w Q => rq_lt H v w Q) (fun _ H v w Q => rq_lt H v w Q))))) (fun _ => go_ret (ev_ex ev_noneO trivial) k) (fun _ => go_next ?_))
  refine go_seq (go_asg (e_plus (e_scaled (ev_var rfl) (ev_var rfl) (by decide)) (e_scaled (ev_var rfl) (ev_var rfl) (by decide)) (by decide)) ?_)
  exact go_ret (ev_ex (ev_someO obj_ne (e_Gap (e_minus (ev_var rfl) (e_scaled (ev_var rfl) (ev_var rfl) (by decide)) (by decide)) (ev_var rfl) (by decide) (by decide))) trivial) k
theorem e_crossing_gap {G : Ctx} {ta tb : TE} {u v : Line} (h1 : Ev ta G ((tLn K).en u)) (h2 : Ev tb G ((tLn K).en v)) : Ev (tCall (sp_crossing_gap K) [] E0 (tCons ta (tCons tb tNil))) G ((tEx (tOpt (tG K)) fun _ => True).en ()) := ev_call (ι := Line × Line) (u, v) (ea_cons h1 (ea_cons h2 ea_nil)) True.intro
theorem sc_line_gap : FnScope ["first", "second", "gaps", "crossing"] ["first", "second"] (defScope s_line_gap) := ⟨rfl, rfl, rfl, by decide +kernel, rfl, by decide +kernel, by decide +kernel⟩
def sp_line_gap (K : PySem.W.Frag) : Sp := spFam (fun (z : Line × Line) => [(tLn K).en z.1, (tLn K).en z.2]) (fun _ => True) (fun _ => (tGX K).en ())
theorem ok_line_gap (T : Txt K mg base) : Fn P w K mg base "line_gap" 4 ["first", "second"] (sp_line_gap K) := by
  obtain ⟨fd, F⟩ := T.d_line_gap
  have S := sc_line_gap
  refine ⟨_, fd, fam_ok F S (fun _ => rfl) 2 rfl (fun cdv A0 outer s H E hr => ?_), T.g_line_gap, F.kp, FunD.bindsN F fun _ _ _ _ _ _ us hl => match us, hl with | [_, _], _ => rfl⟩
  refine ⟨_, (pss_cons (ps_set (i := 2) S.nd rfl (Or.inl rfl) (pe_lst pa_nil))
    (pss_cons (ps_set (i := 3) S.nd rfl (Or.inl rfl) (pe_fn (ok_crossing_gap (K := K) T) (hr.mono (by decide)) rfl (pa_cons (pv 0) (pa_cons (pv 1) pa_nil))))
    (pss_cons (ps_if (pt_cmpR oNotN (pv 3) pe_non (nomark _)) (pss_one (ps_expr (pe_bm PySem.F.plainAttrs_list PySem.F.slot_list_append PySem.F.type_list_append mt_append (pv 2) (pa_cons (pv 3) pa_nil)))) pss_nil)
    (pss_cons (ps_expr (pe_bm PySem.F.plainAttrs_list PySem.F.slot_list_append PySem.F.type_list_append mt_append (pv 2) (pa_cons (pe_fn (ok_place_gap (K := K) T) (hr.mono (by decide)) rfl (pa_cons (xIx (K := K) (pv 0) pe_int (fun _ _ => rfl)) (pa_cons (xIx (K := K) (pv 1) pe_int (fun _ _ => rfl)) (pa_cons (xIx (K := K) (pv 1) pe_int (fun _ _ => rfl)) pa_nil)))) pa_nil)))
    (pss_cons (ps_expr (pe_bm PySem.F.plainAttrs_list PySem.F.slot_list_append PySem.F.type_list_append mt_append (pv 2) (pa_cons (pe_fn (ok_place_gap (K := K) T) (hr.mono (by decide)) rfl (pa_cons (xIx (K := K) (pv 0) pe_int (fun _ _ => rfl)) (pa_cons (xIx (K := K) (pv 1) pe_int (fun _ _ => rfl)) (pa_cons (xIx (K := K) (pv 1) pe_int (fun _ _ => rfl)) pa_nil)))) pa_nil)))
    (pss_cons (ps_expr (pe_bm PySem.F.plainAttrs_list PySem.F.slot_list_append PySem.F.type_list_append mt_append (pv 2) (pa_cons (pe_fn (ok_turned_round (K := K) T) (hr.mono (by decide)) rfl (pa_cons (pe_fn (ok_place_gap (K := K) T) (hr.mono (by decide)) rfl (pa_cons (xIx (K := K) (pv 1) pe_int (fun _ _ => rfl)) (pa_cons (xIx (K := K) (pv 0) pe_int (fun _ _ => rfl)) (pa_cons (xIx (K := K) (pv 0) pe_int (fun _ _ => rfl)) pa_nil)))) pa_nil)) pa_nil)))
    (pss_cons (ps_expr (pe_bm PySem.F.plainAttrs_list PySem.F.slot_list_append PySem.F.type_list_append mt_append (pv 2) (pa_cons (pe_fn (ok_turned_round (K := K) T) (hr.mono (by decide)) rfl (pa_cons (pe_fn (ok_place_gap (K := K) T) (hr.mono (by decide)) rfl (pa_cons (xIx (K := K) (pv 1) pe_int (fun _ _ => rfl)) (pa_cons (xIx (K := K) (pv 0) pe_int (fun _ _ => rfl)) (pa_cons (xIx (K := K) (pv 0) pe_int (fun _ _ => rfl)) pa_nil)))) pa_nil)) pa_nil)))
    (pss_one (ps_ret (pe_fn (ok_shortest (K := K) T) (hr.mono (by decide)) rfl (pa_cons (pv 2) pa_nil))))))))))), fun z hz B Nx Rt Bk Ct k => ?_⟩
  obtain ⟨l, m⟩ := z
  (try dsimp only at hz k ⊢)
  refine go_seq (go_asgO (eo_lst (A := tG K) (xs := []) ea_nil) ?_)
  refine go_seq (go_asgX (e_crossing_gap (ev_var rfl) (ev_var rfl)) fun o _ => ?_)
  refine go_seq (go_if (et_test (ev_notN (ev_var rfl))) (fun hb => ?_) (fun _ => go_next ?_))
  · obtain ⟨g0, rfl⟩ := Option.isSome_iff_exists.mp hb
    refine go_append (x := g0) ((ev_var rfl).sub opt_some) (by decide) ?_
    refine go_seq (go_appendX (gs_x (e_place_gap (ev_ixTc (ev_var rfl) rfl) (ev_ixTc (ev_var rfl) rfl) (ev_ixTc (ev_var rfl) rfl))) (by simp) fun g1 _ => ?_)
    refine go_seq (go_appendX (gs_x (e_place_gap (ev_ixTc (ev_var rfl) rfl) (ev_ixTc (ev_var rfl) rfl) (ev_ixTc (ev_var rfl) rfl))) (by simp) fun g2 _ => ?_)
    refine go_seq (go_appendX (e_turned_round (e_place_gap (ev_ixTc (ev_var rfl) rfl) (ev_ixTc (ev_var rfl) rfl) (ev_ixTc (ev_var rfl) rfl))) (by simp) fun g3 _ => ?_)
    refine go_seq (go_appendX (e_turned_round (e_place_gap (ev_ixTc (ev_var rfl) rfl) (ev_ixTc (ev_var rfl) rfl) (ev_ixTc (ev_var rfl) rfl))) (by simp) fun g4 _ => ?_)
    exact go_freeze (go_ret (ev_call (ι := List Gp) _ (ea_cons (ev_var rfl) ea_nil) (by simp)) k)
  · refine go_seq (go_appendX (gs_x (e_place_gap (ev_ixTc (ev_var rfl) rfl) (ev_ixTc (ev_var rfl) rfl) (ev_ixTc (ev_var rfl) rfl))) (by decide) fun g1 _ => ?_)
    refine go_seq (go_appendX (gs_x (e_place_gap (ev_ixTc (ev_var rfl) rfl) (ev_ixTc (ev_var rfl) rfl) (ev_ixTc (ev_var rfl) rfl))) (by simp) fun g2 _ => ?_)
    refine go_seq (go_appendX (e_turned_round (e_place_gap (ev_ixTc (ev_var rfl) rfl) (ev_ixTc (ev_var rfl) rfl) (ev_ixTc (ev_var rfl) rfl))) (by simp) fun g3 _ => ?_)
    refine go_seq (go_appendX (e_turned_round (e_place_gap (ev_ixTc (ev_var rfl) rfl) (ev_ixTc (ev_var rfl) rfl) (ev_ixTc (ev_var rfl) rfl))) (by simp) fun g4 _ => ?_)
    exact go_freeze (go_ret (ev_call (ι := List Gp) _ (ea_cons (ev_var rfl) ea_nil) (by simp)) k)
theorem e_line_gap {G : Ctx} {ta tb : TE} {u v : Line} (h1 : Ev ta G ((tLn K).en u)) (h2 : Ev tb G ((tLn K).en v)) : Ev (tCall (sp_line_gap K) [] E0 (tCons ta (tCons tb tNil))) G ((tGX K).en ()) := ev_call (ι := Line × Line) (u, v) (ea_cons h1 (ea_cons h2 ea_nil)) True.intro
end
section
variable {P : Program} {w : World} {K : PySem.W.Frag} {mg : Str → Option Value} {base : Heap}
theorem tV_ofL {n : Nat} {xs : List Int} {q : V3} (e : xs = [q.1, q.2.1, q.2.2]) : ∀ F v, ((yTupL K (tI n)).en xs).ok F v → ((tV K n).en q).ok F v := fun F v ⟨a, vs, ea, hs, r⟩ => by
  subst e
  exact ⟨a, vs, ea, hs, r⟩
theorem tV_toL {n : Nat} {q : V3} : ∀ F v, ((tV K n).en q).ok F v → ((yTupL K (tI n)).en [q.1, q.2.1, q.2.2]).ok F v := fun F v ⟨a, vs, ea, hs, r⟩ => ⟨a, vs, ea, hs, r⟩
theorem tLn_toL {q : Line} : ∀ F v, ((tLn K).en q).ok F v → ((yTupL K (tV K 5000)).en [q.1, q.2]).ok F v := fun F v ⟨a, vs, ea, hs, r⟩ => ⟨a, vs, ea, hs, r⟩
theorem intBits_gt {x : Int} (h : 1048576 < x) : 21 ≤ Builtin.Int.intBits x := by
  unfold Builtin.Int.intBits
  rw [if_neg (by simp; omega)]
  have : 20 ≤ x.natAbs.log2 := (Nat.le_log2 (by omega)).mpr (by omega)
  omega
theorem sc_direction : FnScope ["vector", "size", "shift", "half", "part"] ["vector"] (defScope s_direction) := ⟨rfl, rfl, rfl, by decide +kernel, rfl, by decide +kernel, by decide +kernel⟩
def sp_direction (K : PySem.W.Frag) : Sp := spFam (fun (z : V3) => [(tV K 26000).en z]) (fun _ => True) (fun _ => (tEx (tV K 27000) fun _ => True).en ())
theorem ok_direction (T : Txt K mg base) : Fn P w K mg base "direction" 2 ["vector"] (sp_direction K) := by
  obtain ⟨fd, F⟩ := T.d_direction
  have S := sc_direction
  refine ⟨_, fd, fam_ok F S (fun _ => rfl) 4 rfl (fun cdv A0 outer s H E hr => ?_), T.g_direction, F.kp, FunD.bindsN F fun _ _ _ _ _ _ us hl => match us, hl with | [_], _ => rfl⟩
  refine ⟨_, (pss_cons (ps_set (i := 1) S.nd rfl (Or.inl rfl) (pe_fn (ok_greatest (K := K) T) (hr.mono (by decide)) rfl (pa_cons (pv 0) pa_nil)))
    (pss_cons (ps_if (pt_cmpR oLe (pv 1) (pe_gi (T.i_MOST)) (nomark _)) (pss_one (ps_ret (pv 0))) pss_nil)
    (pss_cons (ps_set (i := 2) S.nd rfl (Or.inr rfl) (pe_op oSub (pe_bits (pv 1)) pe_int))
    (pss_cons (ps_set (i := 3) S.nd rfl (Or.inr rfl) (pe_op oShl pe_int (pe_op oSub (pv 2) pe_int)))
    (pss_one (ps_ret (pe_callTy (xTup (K := K)) (by rfl) T.z_tuple (by decide +kernel) (pa_cons (pe_lc (own := [("part", 4)]) (tt := tYes) rfl S.nd (xPit (K := K) (pv 0)) (blkOk_by (N := ["vector", "size", "shift", "half", "part"]) (sc := defScope s_direction) (by decide +kernel)) (fun _ _ _ _ _ => (pg_name (i := 4) S.nd rfl (Or.inl rfl))) (fun _ _ _ _ _ => pts_nil) (fun _ _ _ _ _ => (pe_op oShr (pe_op oAdd (pv 4) (pv 3)) (pv 2)))) pa_nil)))))))), fun z hz B Nx Rt Bk Ct k => ?_⟩
  refine go_seq (go_asg (e_greatest (ev_var rfl)) ?_)
  refine go_seq (go_if (et_test (ev_lec (ev_var rfl) (ev_int64 (by decide)))) (fun _ => go_ret (ev_ex ((ev_var rfl).sub (tV_le (by decide))) trivial) k) (fun hb => go_next ?_))
  have hg : 1048576 < greatest z := by
    have := of_decide_eq_false hb
    omega
  refine go_fact (i := 1) rfl tI_bd fun h1 => ?_
  have b1 := intBits_gt hg
  have b2 := intBits_bd h1
  generalize hn : Builtin.Int.intBits (greatest z) = nb at b1 b2
  refine go_seq (go_asg (e1 := (tI 65).en ((nb : Int) - 20)) (ev_fin (ev_sub (ev_bits (ev_var rfl) (by decide)) (ev_int64 (by decide))) (by decide) (by rw [hn])) ?_)
  refine go_seq (go_asg (e1 := (tI 26000).en (2 ^ ((nb : Int) - 20 - 1).toNat)) (ev_le (ev_shl1 (ev_sub (ev_var rfl) (ev_int64 (by decide))) (by omega) (by omega)) (by omega)) ?_)
  have e : Ev (tVar 0) ((Ctx.mk (startG [(tV K 26000).en z, (tI 26000).en (greatest z), (tI 65).en ((nb : Int) - 20), (tI 26000).en (2 ^ ((nb : Int) - 20 - 1).toNat)] 1) .no)) ((yTupL K (tI 26000)).en [z.1, z.2.1, z.2.2]) := (ev_var rfl).sub tV_toL
  refine go_ret (ev_ex ((ev_tupL (EvO.ev (K := K) (A := tI 27000) (eo_lcT (fun x => (x + 2 ^ ((nb : Int) - 20 - 1).toNat) / 2 ^ ((nb : Int) - 20).toNat) e (Nat.le_of_ble_eq_true rfl) (by decide) (fun x hx => ev_le (ev_shr (ev_add (ev_var rfl) (ev_var rfl)) (ev_var rfl) (by omega)) (by decide))))).sub (tV_ofL (q := (_, _, _)) rfl)) trivial) k
theorem e_direction {G : Ctx} {ta : TE} {u : V3} (h1 : Ev ta G ((tV K 26000).en u)) : Ev (tCall (sp_direction K) [] E0 (tCons ta tNil)) G ((tEx (tV K 27000) fun _ => True).en ()) := ev_call (ι := V3) u (ea_cons h1 ea_nil) True.intro
theorem min2 {a b j : Int} (hj : j ∈ [a, b]) (h : ∀ y, y ∈ [a, b] → j ≤ y) : j = min a b := by
  have h1 := h a (by simp)
  have h2 := h b (by simp)
  simp at hj
  omega
theorem max2 {a b j : Int} (hj : j ∈ [a, b]) (h : ∀ y, y ∈ [a, b] → y ≤ j) : j = max a b := by
  have h1 := h a (by simp)
  have h2 := h b (by simp)
  simp at hj
  omega
theorem sc_parts_places : FnScope ["way", "first", "second", "reach", "least", "place", "most"] ["way", "first", "second", "reach"] (defScope s_parts_places) := ⟨rfl, rfl, rfl, by decide +kernel, rfl, by decide +kernel, by decide +kernel⟩
def sp_parts_places (K : PySem.W.Frag) : Sp := spFam (fun (z : V3 × Line × Line × Int) => [(tV K 24).en z.1, (tLn K).en z.2.1, (tLn K).en z.2.2.1, (tI 500).en z.2.2.2]) (fun _ => True) (fun z => tBl.en (partsB z.1 z.2.1 z.2.2.1 z.2.2.2))
theorem ok_parts_places (T : Txt K mg base) : Fn P w K mg base "parts_places" 3 ["way", "first", "second", "reach"] (sp_parts_places K) := by
  obtain ⟨fd, F⟩ := T.d_parts_places
  have S := sc_parts_places
  refine ⟨_, fd, fam_ok F S (fun _ => rfl) 3 rfl (fun cdv A0 outer s H E hr => ?_), T.g_parts_places, F.kp, FunD.bindsN F fun _ _ _ _ _ _ us hl => match us, hl with | [_, _, _, _], _ => rfl⟩
  refine ⟨_, (pss_cons (ps_set (i := 4) S.nd rfl (Or.inl rfl) (pe_callB (xMinL (K := K) rfl) (by rfl) T.z_min (by decide +kernel) (pa_cons (pe_lc (own := [("place", 5)]) (tt := tYes) rfl S.nd (xPit (K := K) (pv 1)) (blkOk_by (N := ["way", "first", "second", "reach", "least", "place", "most"]) (sc := defScope s_parts_places) (by decide +kernel)) (fun _ _ _ _ _ => (pg_name (i := 5) S.nd rfl (Or.inl rfl))) (fun _ _ _ _ _ => pts_nil) (fun _ _ _ _ _ => (pe_fn (ok_dot (K := K) T) (hr.mono (by decide)) rfl (pa_cons (pv 0) (pa_cons (pv 5) pa_nil))))) pa_nil)))
    (pss_cons (ps_set (i := 6) S.nd rfl (Or.inl rfl) (pe_callB (xMaxL (K := K) rfl) (by rfl) T.z_max (by decide +kernel) (pa_cons (pe_lc (own := [("place", 5)]) (tt := tYes) rfl S.nd (xPit (K := K) (pv 2)) (blkOk_by (N := ["way", "first", "second", "reach", "least", "place", "most"]) (sc := defScope s_parts_places) (by decide +kernel)) (fun _ _ _ _ _ => (pg_name (i := 5) S.nd rfl (Or.inl rfl))) (fun _ _ _ _ _ => pts_nil) (fun _ _ _ _ _ => (pe_fn (ok_dot (K := K) T) (hr.mono (by decide)) rfl (pa_cons (pv 0) (pa_cons (pv 5) pa_nil))))) pa_nil)))
    (pss_one (ps_ret (pe_cmpR oGt (pe_op oSub (pv 4) (pv 6)) (pe_op oMul (pe_fn (ok_length_up (K := K) T) (hr.mono (by decide)) rfl (pa_cons (pv 0) pa_nil)) (pv 3)) (nomark _)))))), fun z hz B Nx Rt Bk Ct k => ?_⟩
  obtain ⟨way, f, s2, reach⟩ := z
  (try dsimp only at hz k ⊢)
  refine go_seq (go_asg (ev_minL (K := K) (n := 5026) (xs := [dot way f.1, dot way f.2]) (k := min (dot way f.1) (dot way f.2)) (EvO.ev (eo_lcT (xs := [f.1, f.2]) (fun x => dot way x) ((ev_var rfl).sub tLn_toL) (Nat.le_of_ble_eq_true rfl) (by decide) (fun x hx => ev_le (e_dot (ev_var rfl) (ev_var rfl) (by decide)) (by decide)))) (by simp) (fun j => min2)) ?_)
  refine go_seq (go_asg (ev_maxL (K := K) (n := 5026) (xs := [dot way s2.1, dot way s2.2]) (k := max (dot way s2.1) (dot way s2.2)) (EvO.ev (eo_lcT (xs := [s2.1, s2.2]) (fun x => dot way x) ((ev_var rfl).sub tLn_toL) (Nat.le_of_ble_eq_true rfl) (by decide) (fun x hx => ev_le (e_dot (ev_var rfl) (ev_var rfl) (by decide)) (by decide)))) (by simp) (fun j => max2)) ?_)
  exact go_ret (ev_is (ev_gt (ev_sub (ev_var rfl) (ev_var rfl)) (ev_mul (e_length_up (ev_var rfl)) (ev_var rfl) (by decide))) rfl) k
theorem e_parts_places {G : Ctx} {ta tb tc td : TE} {u : V3} {f s : Line} {r : Int} (h1 : Ev ta G ((tV K 24).en u)) (h2 : Ev tb G ((tLn K).en f)) (h3 : Ev tc G ((tLn K).en s)) (h4 : Ev td G ((tI 500).en r)) : Ev (tCall (sp_parts_places K) [] E0 (tCons ta (tCons tb (tCons tc (tCons td tNil))))) G (tBl.en (partsB u f s r)) := ev_call (ι := V3 × Line × Line × Int) (u, f, s, r) (ea_cons h1 (ea_cons h2 (ea_cons h3 (ea_cons h4 ea_nil)))) True.intro
theorem sc_is_within : FnScope ["vector", "most"] ["vector", "most"] (defScope s_is_within) := ⟨rfl, rfl, rfl, by decide +kernel, rfl, by decide +kernel, by decide +kernel⟩
def sp_is_within (K : PySem.W.Frag) : Sp := spFam (fun (z : V3 × Int) => [(tV K 24).en z.1, (tI 64).en z.2]) (fun z => small z.2 z.1) (fun _ => tBl.en true)
theorem ok_is_within (T : Txt K mg base) : Fn P w K mg base "is_within" 1 ["vector", "most"] (sp_is_within K) := by
  obtain ⟨fd, F⟩ := T.d_is_within
  have S := sc_is_within
  refine ⟨_, fd, fam_ok F S (fun _ => rfl) 0 rfl (fun cdv A0 outer s H E hr => ?_), T.g_is_within, F.kp, FunD.bindsN F fun _ _ _ _ _ _ us hl => match us, hl with | [_, _], _ => rfl⟩
  refine ⟨_, (pss_one (ps_ret (pe_cmpR oLe (pe_callB (kMax3 rfl) (by rfl) T.z_max (by decide +kernel) (pa_cons (pe_callB kAbs (by rfl) T.z_abs (by decide +kernel) (pa_cons (xIx (K := K) (pv 0) pe_int (fun _ _ => rfl)) pa_nil)) (pa_cons (pe_callB kAbs (by rfl) T.z_abs (by decide +kernel) (pa_cons (xIx (K := K) (pv 0) pe_int (fun _ _ => rfl)) pa_nil)) (pa_cons (pe_callB kAbs (by rfl) T.z_abs (by decide +kernel) (pa_cons (xIx (K := K) (pv 0) pe_int (fun _ _ => rfl)) pa_nil)) pa_nil)))) (pv 1) (nomark _)))), fun z hz B Nx Rt Bk Ct k => ?_⟩
  have hz' : small z.2 z.1 := hz
  refine go_ret (ev_is (ev_lec (ev_max3 (ev_abs (ev_ixTc (ev_var rfl) rfl)) (ev_abs (ev_ixTc (ev_var rfl) rfl)) (ev_abs (ev_ixTc (ev_var rfl) rfl))) (ev_var rfl)) ?_) k
  obtain ⟨⟨a1, a2⟩, ⟨b1, b2⟩, ⟨c1, c2⟩⟩ := hz'
  exact decide_eq_true (by omega)
theorem e_is_within {G : Ctx} {ta tb : TE} {u : V3} {m : Int} (h1 : Ev ta G ((tV K 24).en u)) (h2 : Ev tb G ((tI 64).en m)) (h : small m u) : Ev (tCall (sp_is_within K) [] E0 (tCons ta (tCons tb tNil))) G (tBl.en true) := ev_call (ι := V3 × Int) (u, m) (ea_cons h1 (ea_cons h2 ea_nil)) h
theorem sc_Body_init : FnScope ["self", "first", "last", "radius"] ["self", "first", "last", "radius"] (defScope s_Body_init) := ⟨rfl, rfl, rfl, by decide +kernel, rfl, by decide +kernel, by decide +kernel⟩
def sp_Body_init (K : PySem.W.Frag) : Sp := spMk (fun (z : Bd) => [(tV K 24).en z.first, (tV K 24).en z.last, (tI 24).en z.radius]) BdOk (He.ga K "Body") (fun z => bdF K z)
theorem mk_Body (T : Txt K mg base) : Mc P w K mg base "Body" 2 ["self", "first", "last", "radius"] (sp_Body_init K) [] := by
  obtain ⟨fd, F⟩ := T.d_Body_init
  have S := sc_Body_init
  refine ⟨_, fd, [], mk_ok F S (fun _ => rfl) 0 rfl (fun cdv A0 outer s H E hr => ?_), T.k_Body, T.g_Body, FunD.bindsN F fun _ _ _ _ _ _ us hl => match us, hl with | [_, _, _, _], _ => rfl, .nil⟩
  refine ⟨_, (pss_cons (ps_if (PW.pt (pw_or (pt_not (pt_val (pe_fn (ok_is_within (K := K) T) (hr.mono (by decide)) rfl (pa_cons (pv 1) (pa_cons (pe_gi (T.i_FAR)) pa_nil))))) (pw_or1 (pt_not (pt_val (pe_fn (ok_is_within (K := K) T) (hr.mono (by decide)) rfl (pa_cons (pv 2) (pa_cons (pe_gi (T.i_FAR)) pa_nil)))))))) (pss_one ps_never) pss_nil)
    (pss_cons (ps_if (pt_not (pt_chain oLe oLe pe_int (pv 3) (pe_gi (T.i_THICK)))) (pss_one ps_never) pss_nil)
    (pss_cons (xSfld (K := K) (pv 0) (pe_callTy (xTup (K := K)) (by rfl) T.z_tuple (by decide +kernel) (pa_cons (pv 1) pa_nil)) rfl)
    (pss_cons (xSfld (K := K) (pv 0) (pe_callTy (xTup (K := K)) (by rfl) T.z_tuple (by decide +kernel) (pa_cons (pv 2) pa_nil)) rfl)
    (pss_one (xSfld (K := K) (pv 0) (pv 3) rfl)))))), fun z hz B Nx Rt Bk Ct k => ?_⟩
  have hz' : BdOk z := hz
  refine go_seq (go_ifF (et_is (et_or (et_not (et_B (e_is_within (ev_var rfl) (ev_int64 (by decide)) hz'.first))) (fun _ => et_not (et_B (e_is_within (ev_var rfl) (ev_int64 (by decide)) hz'.last)))) rfl) (go_next ?_))
  refine go_seq (go_ifF (et_is (et_not (et_test (ev_chain (ev_int64 (by decide)) (ev_var rfl) (ev_int64 (by decide)) (fun _ H v w Q => rq_le H v w Q) (fun _ H v w Q => rq_le H v w Q)))) ?_) (go_next ?_))
  · rw [decide_eq_true hz'.radius.1, decide_eq_true hz'.radius.2]; rfl
  refine go_seq (go_fld T.c_Body T.n_Body_first (ev_tupT (ev_var rfl)) (by kernel_rfl) (Nat.le_of_ble_eq_true rfl) ?_)
  refine go_seq (go_fld T.c_Body T.n_Body_last (ev_tupT (ev_var rfl)) (by kernel_rfl) (Nat.le_of_ble_eq_true rfl) ?_)
  refine (go_fld T.c_Body T.n_Body_radius (ev_var rfl) (by kernel_rfl) (Nat.le_of_ble_eq_true rfl) ?_)
  exact go_fin k
theorem e_Body {G : Ctx} {ta tb tc : TE} (z : Bd) (h1 : Ev ta G ((tV K 24).en z.first)) (h2 : Ev tb G ((tV K 24).en z.last)) (h3 : Ev tc G ((tI 24).en z.radius)) (h : BdOk z) : Ev (tMake (He.ga K "Body") (sp_Body_init K) [] E0 (tCons ta (tCons tb (tCons tc tNil)))) G ((tBd K).en z) :=
  ev_make (des := []) z z (ea_cons h1 (ea_cons h2 (ea_cons h3 ea_nil))) (fun _ => .nil) rfl h rfl h
theorem sc_Capsule_init : FnScope ["self", "link", "body"] ["self", "link", "body"] (defScope s_Capsule_init) := ⟨rfl, rfl, rfl, by decide +kernel, rfl, by decide +kernel, by decide +kernel⟩
def sp_Capsule_init (K : PySem.W.Frag) : Sp := spMk (fun (z : Cp) => [(tI 24).en z.link, (tBd K).en z.body]) (fun _ => True) (He.ga K "Capsule") (fun z => cpF K z)
theorem mk_Capsule (T : Txt K mg base) : Mc P w K mg base "Capsule" 1 ["self", "link", "body"] (sp_Capsule_init K) [] := by
  obtain ⟨fd, F⟩ := T.d_Capsule_init
  have S := sc_Capsule_init
  refine ⟨_, fd, [], mk_ok F S (fun _ => rfl) 0 rfl (fun cdv A0 outer s H E hr => ?_), T.k_Capsule, T.g_Capsule, FunD.bindsN F fun _ _ _ _ _ _ us hl => match us, hl with | [_, _, _], _ => rfl, .nil⟩
  refine ⟨_, (pss_cons (xSfld (K := K) (pv 0) (pv 1) rfl)
    (pss_one (xSfld (K := K) (pv 0) (pv 2) rfl))), fun z hz B Nx Rt Bk Ct k => ?_⟩
  refine go_seq (go_fld T.c_Capsule T.n_Capsule_link (ev_var rfl) (by kernel_rfl) (Nat.le_of_ble_eq_true rfl) ?_)
  refine (go_fld T.c_Capsule T.n_Capsule_body (ev_var rfl) (by kernel_rfl) (Nat.le_of_ble_eq_true rfl) ?_)
  exact go_fin k
theorem e_Capsule {G : Ctx} {ta tb : TE} (z : Cp) (h1 : Ev ta G ((tI 24).en z.link)) (h2 : Ev tb G ((tBd K).en z.body)) : Ev (tMake (He.ga K "Capsule") (sp_Capsule_init K) [] E0 (tCons ta (tCons tb tNil))) G ((tCp K).en z) :=
  ev_make (des := []) z z (ea_cons h1 (ea_cons h2 ea_nil)) (fun _ => .nil) rfl trivial rfl trivial
theorem sc_Arm_fits : FnScope ["self", "row", "k"] ["self", "row"] (defScope s_Arm_fits) := ⟨rfl, rfl, rfl, by decide +kernel, rfl, by decide +kernel, by decide +kernel⟩
def sp_Arm_fits (K : PySem.W.Frag) : Sp := spFam (fun (z : Ar × List Int) => [(tAr K).en z.1, (yLstL K (tI 24)).en z.2]) (fun z => ArOk z.1 ∧ Fits z.1.joints z.2) (fun _ => tBl.en true)
theorem ok_Arm_fits (T : Txt K mg base) : Mt P w K mg base "Arm" "fits" 1 ["self", "row"] (sp_Arm_fits K) := by
  obtain ⟨fd, F⟩ := T.d_Arm_fits
  have S := sc_Arm_fits
  refine ⟨_, fd, fam_ok F S (fun _ => rfl) 1 rfl (fun cdv A0 outer s H E hr => ?_), T.m_Arm_fits, FunD.bindsN F fun _ _ _ _ _ _ us hl => match us, hl with | [_, _], _ => rfl⟩
  refine ⟨_, (pss_cons (ps_if (pt_cmpR oNe (pe_callB (xLen (K := K)) (by rfl) T.z_len (by decide +kernel) (pa_cons (pv 1) pa_nil)) (pe_callB (xLen (K := K)) (by rfl) T.z_len (by decide +kernel) (pa_cons (xFld (K := K) (pv 0) rfl) pa_nil)) (nomark _)) (pss_one (ps_ret pe_bl)) pss_nil)
    (pss_one (ps_ret (pe_callB (xAll (K := K) rfl) (by rfl) T.z_all (by decide +kernel) (pa_cons (pe_lc (own := [("k", 2)]) (tt := tYes) rfl S.nd (pi_range1 rfl T.z_range (pa_cons (pe_callB (xLen (K := K)) (by rfl) T.z_len (by decide +kernel) (pa_cons (pv 1) pa_nil)) pa_nil)) (blkOk_by (N := ["self", "row", "k"]) (sc := defScope s_Arm_fits) (by decide +kernel)) (fun _ _ _ _ _ => (pg_name (i := 2) S.nd rfl (Or.inl rfl))) (fun _ _ _ _ _ => pts_nil) (fun _ _ _ _ _ => (pe_chain oLe oLe (xFld (K := K) (xIx (K := K) (xFld (K := K) (pv 0) rfl) (pv 2) (fun _ _ => rfl)) rfl) (xIx (K := K) (pv 1) (pv 2) (fun _ _ => rfl)) (xFld (K := K) (xIx (K := K) (xFld (K := K) (pv 0) rfl) (pv 2) (fun _ _ => rfl)) rfl)))) pa_nil))))), fun z hz B Nx Rt Bk Ct k => ?_⟩
  obtain ⟨a, row⟩ := z
  (try dsimp only at hz k ⊢)
  obtain ⟨ha, hl, hf⟩ := hz
  have h6 := ha.j6
  refine go_seq (go_ifF (et_is (et_test (ev_neI (ev_lenLL (ev_var rfl) (by omega)) (ev_lenTL (f_Arm_joints T (ev_var rfl)) (by omega)))) ?_) (go_next ?_))
  · rw [decide_eq_true (by omega)]; rfl
  refine go_ret (ev_is (ev_all (EvO.ev (K := K) (eo_lcR1 (N := row.length) (fun i => decide ((a.joints.getD i default).least ≤ row.getD i default) && decide (row.getD i default ≤ (a.joints.getD i default).most)) (ea_cons (ev_lenLL (ev_var rfl) (by omega)) ea_nil) (by omega) (by decide) (fun i hi => ?_)))) ?_) k
  · exact ev_chain (f_Joint_least T (ev_atT (f_Arm_joints T (ev_var rfl)) (ev_var rfl) (by omega))) (ev_atL (ev_var rfl) (ev_var rfl) hi) (f_Joint_most T (ev_atT (f_Arm_joints T (ev_var rfl)) (ev_var rfl) (by omega))) (fun _ H v w Q => rq_le H v w Q) (fun _ H v w Q => rq_le H v w Q)
  · rw [List.all_eq_true]
    intro b hb
    obtain ⟨i, hi, e⟩ := List.mem_map.mp hb
    have h := hf i (by have := List.mem_range.mp hi; omega)
    rw [← e, decide_eq_true h.1, decide_eq_true h.2]
    rfl
theorem sc_Move_init : FnScope ["self", "arm", "first", "last"] ["self", "arm", "first", "last"] (defScope s_Move_init) := ⟨rfl, rfl, rfl, by decide +kernel, rfl, by decide +kernel, by decide +kernel⟩
def sp_Move_init (K : PySem.W.Frag) : Sp := spMk (fun (z : Ar × Mv) => [(tAr K).en z.1, (yLstL K (tI 24)).en z.2.first, (yLstL K (tI 24)).en z.2.last]) (fun z => ArOk z.1 ∧ Fits z.1.joints z.2.first ∧ Fits z.1.joints z.2.last) (He.ga K "Move") (fun z => mvF K z.2)
theorem mk_Move (T : Txt K mg base) : Mc P w K mg base "Move" 2 ["self", "arm", "first", "last"] (sp_Move_init K) [] := by
  obtain ⟨fd, F⟩ := T.d_Move_init
  have S := sc_Move_init
  refine ⟨_, fd, [], mk_ok F S (fun _ => rfl) 0 rfl (fun cdv A0 outer s H E hr => ?_), T.k_Move, T.g_Move, FunD.bindsN F fun _ _ _ _ _ _ us hl => match us, hl with | [_, _, _, _], _ => rfl, .nil⟩
  refine ⟨_, (pss_cons (ps_if (pt_not (pt_val (xMt (K := K) T.c_Arm (ok_Arm_fits (K := K) T) (hr.mono (by decide)) (pv 1) (pa_cons (pv 2) pa_nil)))) (pss_one ps_never) pss_nil)
    (pss_cons (ps_if (pt_not (pt_val (xMt (K := K) T.c_Arm (ok_Arm_fits (K := K) T) (hr.mono (by decide)) (pv 1) (pa_cons (pv 3) pa_nil)))) (pss_one ps_never) pss_nil)
    (pss_cons (xSfld (K := K) (pv 0) (pe_callTy (xTup (K := K)) (by rfl) T.z_tuple (by decide +kernel) (pa_cons (pv 2) pa_nil)) rfl)
    (pss_one (xSfld (K := K) (pv 0) (pe_callTy (xTup (K := K)) (by rfl) T.z_tuple (by decide +kernel) (pa_cons (pv 3) pa_nil)) rfl))))), fun z hz B Nx Rt Bk Ct k => ?_⟩
  obtain ⟨ha, h1, h2⟩ := id hz
  refine go_seq (go_ifF (et_is (et_not (et_B (ev_meth (C := "Arm") (ι := Ar × List Int) (z.1, z.2.first) (ev_var rfl) (z_Arm_fits _) (ea_cons (ev_var rfl) ea_nil) rfl ⟨ha, h1⟩))) rfl) (go_next ?_))
  refine go_seq (go_ifF (et_is (et_not (et_B (ev_meth (C := "Arm") (ι := Ar × List Int) (z.1, z.2.last) (ev_var rfl) (z_Arm_fits _) (ea_cons (ev_var rfl) ea_nil) rfl ⟨ha, h2⟩))) rfl) (go_next ?_))
  refine go_seq (go_fld T.c_Move T.n_Move_first (ev_tupL (ev_var rfl)) (by kernel_rfl) (Nat.le_of_ble_eq_true rfl) ?_)
  refine (go_fld T.c_Move T.n_Move_last (ev_tupL (ev_var rfl)) (by kernel_rfl) (Nat.le_of_ble_eq_true rfl) ?_)
  exact go_fin k
theorem e_Move {G : Ctx} {ta tb tc : TE} (a : Ar) (z : Mv) (h0 : Ev ta G ((tAr K).en a)) (h1 : Ev tb G ((yLstL K (tI 24)).en z.first)) (h2 : Ev tc G ((yLstL K (tI 24)).en z.last)) (ha : ArOk a) (hf : Fits a.joints z.first) (hl : Fits a.joints z.last) : Ev (tMake (He.ga K "Move") (sp_Move_init K) [] E0 (tCons ta (tCons tb (tCons tc tNil)))) G ((tMv K).en z) :=
  ev_make (des := []) (a, z) z (ea_cons h0 (ea_cons h1 (ea_cons h2 ea_nil))) (fun _ => .nil) rfl ⟨ha, hf, hl⟩ rfl ⟨by rw [hf.1, hl.1], by rw [hf.1]; exact ha.j6⟩
end
section
variable {P : Program} {w : World} {K : PySem.W.Frag} {mg : Str → Option Value} {base : Heap}
theorem sc_Joint_init : FnScope ["self", "turns", "axis", "offset", "least", "most", "box", "error", "speed", "accel", "brake", "bound"] ["self", "turns", "axis", "offset", "least", "most", "box", "error", "speed", "accel", "brake"] (defScope s_Joint_init) := ⟨rfl, rfl, rfl, by decide +kernel, rfl, by decide +kernel, by decide +kernel⟩
def jtA (K : PySem.W.Frag) (j : Jt) : List Ent := [tBl.en j.turns, (tI 24).en j.axis, (tV K 24).en j.off, (tI 24).en j.least, (tI 24).en j.most, (tI 24).en j.box, (tI 24).en j.err, (tI 64).en 1, (tI 64).en 1, (tI 64).en 1]
def JtIn (j : Jt) : Prop := JtOk j ∧ (j.turns = true → -8000000 ≤ j.least ∧ j.most ≤ 8000000)
def sp_Joint_init (K : PySem.W.Frag) : Sp := spMk (jtA K) JtIn (He.ga K "Joint") (jtF K)
theorem ok_Joint_init (T : Txt K mg base) : ∃ fd, FnOk P w K mg base CX0 2 (He.fAd K d_Joint_init.at_) fd ["self", "turns", "axis", "offset", "least", "most", "box", "error", "speed", "accel", "brake"] (sp_Joint_init K) ∧ FunD K d_Joint_init.name d_Joint_init.qual d_Joint_init.params d_Joint_init.body d_Joint_init.scope (d_Joint_init.dvs K) (d_Joint_init.kws K) (He.fAd K d_Joint_init.at_) fd := by
  obtain ⟨fd, F⟩ := T.d_Joint_init
  have S := sc_Joint_init
  refine ⟨fd, mk_ok F S (fun _ => rfl) 1 rfl (fun cdv A0 outer s H E hr => ?_), F⟩
  refine ⟨_, (pss_cons (ps_set (i := 11) S.nd rfl (Or.inl rfl) (pe_ifExp (pt_val (pv 1)) (pe_gi (T.i_STEEP)) (pe_gi (T.i_FAR))))
    (pss_cons (ps_if (pt_cmpR (xNotIn (K := K)) (pv 2) (pe_tup (pa_cons pe_int (pa_cons pe_int (pa_cons pe_int pa_nil)))) (by rfl)) (pss_one ps_never) pss_nil)
    (pss_cons (ps_if (pt_not (pt_val (pe_fn (ok_is_within (K := K) T) (hr.mono (by decide)) rfl (pa_cons (pv 3) (pa_cons (pe_gi (T.i_FAR)) pa_nil))))) (pss_one ps_never) pss_nil)
    (pss_cons (ps_if (pt_not (pt_chain3 oLe oLe oLe (pe_un oNeg (pv 11)) (pv 4) (pv 5) (pv 11))) (pss_one ps_never) pss_nil)
    (pss_cons (ps_if (pt_not (pt_chain oLe oLe pe_int (pv 6) (pe_gi (T.i_LOOSE)))) (pss_one ps_never) pss_nil)
    (pss_cons (ps_if (pt_not (pt_chain oLe oLe pe_int (pv 7) (pe_gi (T.i_LOOSE)))) (pss_one ps_never) pss_nil)
    (pss_cons (ps_if (pt_not (pt_chain oLe oLe pe_int (pv 8) (pe_gi (T.i_FAST)))) (pss_one ps_never) pss_nil)
    (pss_cons (ps_if (pt_not (pt_chain oLe oLe pe_int (pv 9) (pe_gi (T.i_HARD)))) (pss_one ps_never) pss_nil)
    (pss_cons (ps_if (pt_not (pt_chain oLe oLe (pv 9) (pv 10) (pe_gi (T.i_HARD)))) (pss_one ps_never) pss_nil)
    (pss_cons (xSfld (K := K) (pv 0) (pv 1) rfl)
    (pss_cons (xSfld (K := K) (pv 0) (pv 2) rfl)
    (pss_cons (xSfld (K := K) (pv 0) (pe_callTy (xTup (K := K)) (by rfl) T.z_tuple (by decide +kernel) (pa_cons (pv 3) pa_nil)) rfl)
    (pss_cons (xSfld (K := K) (pv 0) (pv 4) rfl)
    (pss_cons (xSfld (K := K) (pv 0) (pv 5) rfl)
    (pss_cons (xSfld (K := K) (pv 0) (pv 6) rfl)
    (pss_cons (xSfld (K := K) (pv 0) (pv 7) rfl)
    (pss_cons (xSfld (K := K) (pv 0) (pv 8) rfl)
    (pss_cons (xSfld (K := K) (pv 0) (pv 9) rfl)
    (pss_one (xSfld (K := K) (pv 0) (pv 10) rfl)))))))))))))))))))), fun z hz B Nx Rt Bk Ct k => ?_⟩
  obtain ⟨hj, ht⟩ := id hz
  obtain ⟨hb1, hb2⟩ := hj.box
  obtain ⟨he1, he2⟩ := hj.err
  have hl := hj.least
  have hm := hj.most
  have hlm := hj.range
  generalize hbd : (if z.turns = true then (8000000 : Int) else 10000000) = bnd
  have hl2 : -bnd ≤ z.least ∧ z.most ≤ bnd := by
    rw [← hbd]
    split
    · rename_i h; exact ht h
    · exact ⟨hl, hm⟩
  refine go_seq (go_asg (e1 := (tI 64).en bnd) (ev_is (ev_ifI (et_B (ev_var rfl)) (fun _ => ev_int64 (by decide)) (fun _ => ev_int64 (by decide))) hbd) ?_)
  refine go_seq (go_ifF (et_notIn3 (ev_var rfl) hj.axis (ev_tup (ea_cons (ev_int64 (by decide)) (ea_cons (ev_int64 (by decide)) (ea_cons (ev_int64 (by decide)) ea_nil))))) (go_next ?_))
  refine go_seq (go_ifF (et_is (et_not (et_B (e_is_within (ev_var rfl) (ev_int64 (by decide)) hj.off))) rfl) (go_next ?_))
  refine go_seq (go_ifF (et_is (et_not (et_test (ev_chain3 (ev_neg (ev_var rfl)) (ev_var rfl) (ev_var rfl) (ev_var rfl) (fun _ H v w Q => rq_le H v w Q) (fun _ H v w Q => rq_le H v w Q) (fun _ H v w Q => rq_le H v w Q)))) ?_) (go_next ?_))
  · rw [decide_eq_true hl2.1, decide_eq_true hlm, decide_eq_true hl2.2]; rfl
  refine go_seq (go_ifF (et_is (et_not (et_test (ev_chain (ev_int64 (by decide)) (ev_var rfl) (ev_int64 (by decide)) (fun _ H v w Q => rq_le H v w Q) (fun _ H v w Q => rq_le H v w Q)))) ?_) (go_next ?_))
  · rw [decide_eq_true hb1, decide_eq_true hb2]; rfl
  refine go_seq (go_ifF (et_is (et_not (et_test (ev_chain (ev_int64 (by decide)) (ev_var rfl) (ev_int64 (by decide)) (fun _ H v w Q => rq_le H v w Q) (fun _ H v w Q => rq_le H v w Q)))) ?_) (go_next ?_))
  · rw [decide_eq_true he1, decide_eq_true he2]; rfl
  refine go_seq (go_ifF (et_is (et_not (et_test (ev_chain (ev_int64 (by decide)) (ev_var rfl) (ev_int64 (by decide)) (fun _ H v w Q => rq_le H v w Q) (fun _ H v w Q => rq_le H v w Q)))) ?_) (go_next ?_))
  · decide
  refine go_seq (go_ifF (et_is (et_not (et_test (ev_chain (ev_int64 (by decide)) (ev_var rfl) (ev_int64 (by decide)) (fun _ H v w Q => rq_le H v w Q) (fun _ H v w Q => rq_le H v w Q)))) ?_) (go_next ?_))
  · decide
  refine go_seq (go_ifF (et_is (et_not (et_test (ev_chain (ev_var rfl) (ev_var rfl) (ev_int64 (by decide)) (fun _ H v w Q => rq_le H v w Q) (fun _ H v w Q => rq_le H v w Q)))) ?_) (go_next ?_))
  · decide
  refine go_seq (go_fld T.c_Joint T.n_Joint_turns (ev_var rfl) (by kernel_rfl) (Nat.le_of_ble_eq_true rfl) ?_)
  refine go_seq (go_fld T.c_Joint T.n_Joint_axis (ev_var rfl) (by kernel_rfl) (Nat.le_of_ble_eq_true rfl) ?_)
  refine go_seq (go_fld T.c_Joint T.n_Joint_offset (ev_tupT (ev_var rfl)) (by kernel_rfl) (Nat.le_of_ble_eq_true rfl) ?_)
  refine go_seq (go_fld T.c_Joint T.n_Joint_least (ev_var rfl) (by kernel_rfl) (Nat.le_of_ble_eq_true rfl) ?_)
  refine go_seq (go_fld T.c_Joint T.n_Joint_most (ev_var rfl) (by kernel_rfl) (Nat.le_of_ble_eq_true rfl) ?_)
  refine go_seq (go_fld T.c_Joint T.n_Joint_box (ev_var rfl) (by kernel_rfl) (Nat.le_of_ble_eq_true rfl) ?_)
  refine go_seq (go_fld T.c_Joint T.n_Joint_error (ev_var rfl) (by kernel_rfl) (Nat.le_of_ble_eq_true rfl) ?_)
  refine go_seq (go_fld T.c_Joint T.n_Joint_speed (ev_var rfl) (by kernel_rfl) (Nat.le_of_ble_eq_true rfl) ?_)
  refine go_seq (go_fld T.c_Joint T.n_Joint_accel (ev_var rfl) (by kernel_rfl) (Nat.le_of_ble_eq_true rfl) ?_)
  refine (go_fld T.c_Joint T.n_Joint_brake (ev_var rfl) (by kernel_rfl) (Nat.le_of_ble_eq_true rfl) ?_)
  exact go_fin k
theorem mk_Joint (T : Txt K mg base) : McK P w K mg base "Joint" 2 5 ["self", "turns", "axis", "offset", "least", "most", "box", "error", "speed", "accel", "brake"] ["box", "error"] (sp_Joint_init K) (fun vs zs => vs ++ (zs ++ [V.int 1, V.int 1, V.int 1])) := by
  obtain ⟨fd, h, F⟩ := ok_Joint_init (P := P) (w := w) T
  obtain ⟨mv, hb⟩ := FunD.kbinds0 (ps := ["self", "turns", "axis", "offset", "least", "most", "box", "error", "speed", "accel", "brake"]) F 6 ["box", "error"] [("speed", V.int 1), ("accel", V.int 1), ("brake", V.int 1)] (fun us mz ws => us ++ (ws ++ mz)) (by intro h; cases h) (fun q hq => List.mem_cons_of_mem _ (List.mem_cons_of_mem _ hq)) (fun r1 r2 r3 => r1.append (r3.append r2))
    (fun D doc pm an cdv ct us mv ws h1 h2 h3 => match us, mv, ws, h1, h2, h3 with
      | [_, _, _, _, _, _], [_, _, _], [_, _], _, _, _ => ⟨_, _, _, _, _, _, rfl, rfl, _, _, _, _, _, _, rfl, rfl, _, _, _, _, _, _, rfl, rfl, rfl⟩)
  exact ⟨_, fd, _, h, T.k_Joint, T.g_Joint, hb⟩
end
section
variable {P : Program} {w : World} {K : PySem.W.Frag} {mg : Str → Option Value} {base : Heap}
theorem e_Joint {G : Ctx} {ta tb tc td te tf tg : TE} (z : Jt) (h1 : Ev ta G (tBl.en z.turns)) (h2 : Ev tb G ((tI 24).en z.axis)) (h3 : Ev tc G ((tV K 24).en z.off)) (h4 : Ev td G ((tI 24).en z.least)) (h5 : Ev te G ((tI 24).en z.most)) (h6 : Ev tf G ((tI 24).en z.box)) (h7 : Ev tg G ((tI 24).en z.err)) (h : JtIn z) :
    Ev (tMakeK (He.ga K "Joint") 5 2 (sp_Joint_init K) (fun vs zs => vs ++ (zs ++ [V.int 1, V.int 1, V.int 1])) E0 (tCons ta (tCons tb (tCons tc (tCons td (tCons te tNil))))) (tCons tf (tCons tg tNil))) G ((tJt K).en z) :=
  ev_makeK (as := [tBl.en z.turns, (tI 24).en z.axis, (tV K 24).en z.off, (tI 24).en z.least, (tI 24).en z.most]) (ks := [(tI 24).en z.box, (tI 24).en z.err]) z z (ea_cons h1 (ea_cons h2 (ea_cons h3 (ea_cons h4 (ea_cons h5 ea_nil))))) (ea_cons h6 (ea_cons h7 ea_nil)) rfl rfl
    (fun F x vs zs r1 r2 => ⟨vs ++ (zs ++ [V.int 1, V.int 1, V.int 1]), rfl, papp r1 (papp r2 (.cons ⟨rfl, by decide⟩ (.cons ⟨rfl, by decide⟩ (.cons ⟨rfl, by decide⟩ .nil))))⟩) h rfl h.1
theorem sc_Arm_init : FnScope ["self", "joints", "capsules", "beside", "capsule", "pair"] ["self", "joints", "capsules", "beside"] (defScope s_Arm_init) := ⟨rfl, rfl, rfl, by decide +kernel, rfl, by decide +kernel, by decide +kernel⟩
/-- pairs that may touch: rising, of capsules that are there -/
def BeOk (a : Ar) : Prop := ∀ q ∈ a.beside, 0 ≤ q.1 ∧ q.1 < q.2 ∧ q.2 < a.caps.length
abbrev tPr (K : PySem.W.Frag) : Ty (Int × Int) := yT2 K (tI 64) (tI 64)
def sp_Arm_init (K : PySem.W.Frag) : Sp := spMk (fun (z : Ar) => [(yLstL K (tJt K)).en z.joints, (yLstL K (tCp K)).en z.caps, (yLstL K (tPr K)).en z.beside]) (fun z => ArOk z ∧ BeOk z) (He.ga K "Arm") (arF K)
theorem ok_Arm_init (T : Txt K mg base) : ∃ fd, FnOk P w K mg base CX0 1 (He.fAd K d_Arm_init.at_) fd ["self", "joints", "capsules", "beside"] (sp_Arm_init K) ∧ FunD K d_Arm_init.name d_Arm_init.qual d_Arm_init.params d_Arm_init.body d_Arm_init.scope (d_Arm_init.dvs K) (d_Arm_init.kws K) (He.fAd K d_Arm_init.at_) fd := by
  obtain ⟨fd, F⟩ := T.d_Arm_init
  have S := sc_Arm_init
  refine ⟨fd, mk_ok F S (fun _ => rfl) 2 rfl (fun cdv A0 outer s H E hr => ?_), F⟩
  refine ⟨_, (pss_cons (ps_if (pt_not (pt_chain oLe oLe pe_int (pe_callB (xLen (K := K)) (by rfl) T.z_len (by decide +kernel) (pa_cons (pv 1) pa_nil)) (pe_gi (T.i_MOST_JOINTS)))) (pss_one ps_never) pss_nil)
    (pss_cons (ps_if (pt_cmpR oGt (pe_callB (xLen (K := K)) (by rfl) T.z_len (by decide +kernel) (pa_cons (pv 2) pa_nil)) (pe_gi (T.i_MOST_CAPSULES)) (nomark _)) (pss_one ps_never) pss_nil)
    (pss_cons (ps_for PassesOwn.never rfl (xPil (K := K) (pv 2)) (pg_name (i := 4) S.nd rfl (Or.inl rfl)) (pss_one (ps_if (pt_not (pt_chain oLe oLe pe_int (xFld (K := K) (pv 4) rfl) (pe_callB (xLen (K := K)) (by rfl) T.z_len (by decide +kernel) (pa_cons (pv 1) pa_nil)))) (pss_one ps_never) pss_nil)))
    (pss_cons (ps_for PassesOwn.never rfl (xPil (K := K) (pv 3)) (pg_name (i := 5) S.nd rfl (Or.inl rfl)) (pss_one (ps_if (pt_not (pt_chain3 oLe oLt oLt pe_int (xIx (K := K) (pv 5) pe_int (fun _ _ => rfl)) (xIx (K := K) (pv 5) pe_int (fun _ _ => rfl)) (pe_callB (xLen (K := K)) (by rfl) T.z_len (by decide +kernel) (pa_cons (pv 2) pa_nil)))) (pss_one ps_never) pss_nil)))
    (pss_cons (xSfld (K := K) (pv 0) (pe_callTy (xTup (K := K)) (by rfl) T.z_tuple (by decide +kernel) (pa_cons (pv 1) pa_nil)) rfl)
    (pss_cons (xSfld (K := K) (pv 0) (pe_callTy (xTup (K := K)) (by rfl) T.z_tuple (by decide +kernel) (pa_cons (pv 2) pa_nil)) rfl)
    (pss_one (xSfld (K := K) (pv 0) (pe_callTy (xTup (K := K)) (by rfl) T.z_tuple (by decide +kernel) (pa_cons (pe_lc (own := [("pair", 5)]) (tt := tYes) rfl S.nd (xPil (K := K) (pv 3)) (blkOk_by (N := ["self", "joints", "capsules", "beside", "capsule", "pair"]) (sc := defScope s_Arm_init) (by decide +kernel)) (fun _ _ _ _ _ => (pg_name (i := 5) S.nd rfl (Or.inl rfl))) (fun _ _ _ _ _ => pts_nil) (fun _ _ _ _ _ => (pe_callTy (xTup (K := K)) (by rfl) T.z_tuple (by decide +kernel) (pa_cons (pv 5) pa_nil)))) pa_nil)) rfl)))))))), fun z hz B Nx Rt Bk Ct k => ?_⟩
  obtain ⟨ha, hbe⟩ := id hz
  have h1 := ha.j1
  have h6 := ha.j6
  have h8 := ha.c8
  have hb := ha.be
  refine go_seq (go_ifF (et_is (et_not (et_test (ev_chain (ev_int64 (by decide)) (ev_lenLL (ev_var rfl) (by omega)) (ev_int64 (by decide)) (fun _ H v w Q => rq_le H v w Q) (fun _ H v w Q => rq_le H v w Q)))) ?_) (go_next ?_))
  · rw [decide_eq_true (show (1 : Int) ≤ (z.joints.length : Int) by omega), decide_eq_true (show (z.joints.length : Int) ≤ 6 by omega)]; rfl
  refine go_seq (go_ifF (et_is (et_test (ev_gt (ev_lenLL (ev_var rfl) (by omega)) (ev_int64 (by decide)))) ?_) (go_next ?_))
  · exact decide_eq_false (by omega)
  refine go_seq (go_forL (fun i G' => G' = ⟨none :: startG [(yLstL K (tJt K)).en z.joints, (yLstL K (tCp K)).en z.caps, (yLstL K (tPr K)).en z.beside] 2, .obj 0 (He.ga K "Arm") []⟩) _ (ev_var rfl) (LeC.refl _) rfl (fun i G' h => by subst h; show (0 : Nat) ≠ 4; decide) (fun B1 lb i e1 G' he h => ?_) (fun G' h => ?_))
  · subst h
    rw [List.getElem?_map] at he
    obtain ⟨c, hc, e⟩ := Option.map_eq_some_iff.mp he
    subst e
    obtain ⟨q1, q2⟩ := ha.link c (List.mem_of_getElem? hc)
    refine go_ifF (et_is (et_not (et_test (ev_chain (ev_int64 (by decide)) (f_Capsule_link T (ev_var rfl)) (ev_lenLL (ev_var rfl) (by omega)) (fun _ H v w Q => rq_le H v w Q) (fun _ H v w Q => rq_le H v w Q)))) ?_) (go_next (go_inv _ rfl (by walk_at "wk")))
    rw [decide_eq_true q1, decide_eq_true q2]; rfl
  subst h
  refine go_seq (go_forL (fun i G' => G' = ⟨none :: startG [(yLstL K (tJt K)).en z.joints, (yLstL K (tCp K)).en z.caps, (yLstL K (tPr K)).en z.beside] 2, .obj 0 (He.ga K "Arm") []⟩) _ (ev_var rfl) (LeC.refl _) rfl (fun i G' h => by subst h; show (0 : Nat) ≠ 5; decide) (fun B1 lb i e1 G' he h => ?_) (fun G' h => ?_))
  · subst h
    rw [List.getElem?_map] at he
    obtain ⟨c, hc, e⟩ := Option.map_eq_some_iff.mp he
    subst e
    obtain ⟨q1, q2, q3⟩ := hbe c (List.mem_of_getElem? hc)
    refine go_ifF (et_is (et_not (et_test (ev_chain3 (ev_int64 (by decide)) (ev_ixTc (ev_var rfl) rfl) (ev_ixTc (ev_var rfl) rfl) (ev_lenLL (ev_var rfl) (by omega)) (fun _ H v w Q => rq_le H v w Q) (fun _ H v w Q => rq_lt H v w Q) (fun _ H v w Q => rq_lt H v w Q)))) ?_) (go_next (go_inv _ rfl (by walk_at "wk")))
    rw [decide_eq_true q1, decide_eq_true q2, decide_eq_true q3]; rfl
  subst h
  refine go_seq (go_fld T.c_Arm T.n_Arm_joints (ev_tupL (ev_var rfl)) (by kernel_rfl) (Nat.le_of_ble_eq_true rfl) ?_)
  refine go_seq (go_fld T.c_Arm T.n_Arm_capsules (ev_tupL (ev_var rfl)) (by kernel_rfl) (Nat.le_of_ble_eq_true rfl) ?_)
  refine (go_fld T.c_Arm T.n_Arm_beside (ev_is (ev_tupL (EvO.ev (K := K) (eo_lcL (fun q => q) (ev_var rfl) (by omega) (by decide) (fun q hq => ev_tupT (ev_var rfl))))) (List.map_id' _)) (by kernel_rfl) (Nat.le_of_ble_eq_true rfl) ?_)
  exact go_fin k
theorem mk_Arm (T : Txt K mg base) : McK P w K mg base "Arm" 1 2 ["self", "joints", "capsules", "beside"] ["beside"] (sp_Arm_init K) (fun vs zs => vs ++ zs) := by
  obtain ⟨fd, h, F⟩ := ok_Arm_init (P := P) (w := w) T
  obtain ⟨mv, hb⟩ := FunD.kbinds0 (ps := ["self", "joints", "capsules", "beside"]) F 3 ["beside"] [] (fun us mz ws => us ++ ws) (by intro h; cases h) (fun q hq => nomatch hq) (fun r1 r2 r3 => r1.append r3)
    (fun D doc pm an cdv ct us mv ws h1 h2 h3 => match us, mv, ws, h1, h2, h3 with
      | [_, _, _], [], [_], _, _, _ => rfl)
  exact ⟨_, fd, _, h, T.k_Arm, T.g_Arm, hb⟩
theorem e_Arm {G : Ctx} {ta tb tc : TE} (z : Ar) (h1 : Ev ta G ((yLstL K (tJt K)).en z.joints)) (h2 : Ev tb G ((yLstL K (tCp K)).en z.caps)) (h3 : Ev tc G ((yLstL K (tPr K)).en z.beside)) (h : ArOk z) (hb : BeOk z) :
    Ev (tMakeK (He.ga K "Arm") 2 1 (sp_Arm_init K) (fun vs zs => vs ++ zs) E0 (tCons ta (tCons tb tNil)) (tCons tc tNil)) G ((tAr K).en z) :=
  ev_makeK (as := [(yLstL K (tJt K)).en z.joints, (yLstL K (tCp K)).en z.caps]) (ks := [(yLstL K (tPr K)).en z.beside]) z z (ea_cons h1 (ea_cons h2 ea_nil)) (ea_cons h3 ea_nil) rfl rfl
    (fun F x vs zs r1 r2 => ⟨vs ++ zs, rfl, papp r1 r2⟩) ⟨h, hb⟩ rfl h
theorem sc_Mover_init : FnScope ["self", "arm", "move", "held"] ["self", "arm", "move", "held"] (defScope s_Mover_init) := ⟨rfl, rfl, rfl, by decide +kernel, rfl, by decide +kernel, by decide +kernel⟩
def sp_Mover_init (K : PySem.W.Frag) : Sp := spMk (fun (z : Mr) => [(tAr K).en z.arm, (tMv K).en z.move, (yTupL K (tBd K)).en z.held]) (fun _ => True) (He.ga K "Mover") (mrF K)
theorem mk_Mover (T : Txt K mg base) : Mc P w K mg base "Mover" 1 ["self", "arm", "move", "held"] (sp_Mover_init K) [] := by
  obtain ⟨fd, F⟩ := T.d_Mover_init
  have S := sc_Mover_init
  obtain ⟨ds, hv, hb⟩ := FunD.binds1 (ps := ["self", "arm", "move", "held"]) F 4 1 (by intro h; cases h) rfl (fun T kV doc pm an cdv ct us its h1 h2 => match us, its, h1, h2 with | [_, _, _, _], [_], _, _ => ⟨_, rfl, rfl⟩)
  refine ⟨_, fd, ds, mk_ok F S (fun _ => rfl) 0 rfl (fun cdv A0 outer s H E hr => ?_), T.k_Mover, T.g_Mover, hb, hv⟩
  refine ⟨_, (pss_cons (xSfld (K := K) (pv 0) (pv 1) rfl)
    (pss_cons (xSfld (K := K) (pv 0) (pv 2) rfl)
    (pss_one (xSfld (K := K) (pv 0) (pe_callTy (xTup (K := K)) (by rfl) T.z_tuple (by decide +kernel) (pa_cons (pv 3) pa_nil)) rfl)))), fun z hz B Nx Rt Bk Ct k => ?_⟩
  refine go_seq (go_fld T.c_Mover T.n_Mover_arm (ev_var rfl) (by kernel_rfl) (Nat.le_of_ble_eq_true rfl) ?_)
  refine go_seq (go_fld T.c_Mover T.n_Mover_move (ev_var rfl) (by kernel_rfl) (Nat.le_of_ble_eq_true rfl) ?_)
  refine (go_fld T.c_Mover T.n_Mover_held (ev_tupT (ev_var rfl)) (by kernel_rfl) (Nat.le_of_ble_eq_true rfl) ?_)
  exact go_fin k
theorem e_Mover {G : Ctx} {ta tb tc : TE} (z : Mr) (h1 : Ev ta G ((tAr K).en z.arm)) (h2 : Ev tb G ((tMv K).en z.move)) (h3 : Ev tc G ((yTupL K (tBd K)).en z.held)) (h : MrOk z) : Ev (tMake (He.ga K "Mover") (sp_Mover_init K) [] E0 (tCons ta (tCons tb (tCons tc tNil)))) G ((tMr K).en z) :=
  ev_make (des := []) z z (ea_cons h1 (ea_cons h2 (ea_cons h3 ea_nil))) (fun _ => .nil) rfl trivial rfl h
theorem sc_Matter_init : FnScope ["self", "kind", "mover", "other"] ["self", "kind", "mover", "other"] (defScope s_Matter_init) := ⟨rfl, rfl, rfl, by decide +kernel, rfl, by decide +kernel, by decide +kernel⟩
def sp_Matter_init (K : PySem.W.Frag) : Sp := spMk (fun (z : Mr) => [tStr.en "self", (tMr K).en z, tNon.en ()]) (fun _ => True) (He.ga K "Matter") (mtF K)
theorem mk_Matter (T : Txt K mg base) : Mc P w K mg base "Matter" 1 ["self", "kind", "mover", "other"] (sp_Matter_init K) [V.non] := by
  obtain ⟨fd, F⟩ := T.d_Matter_init
  have S := sc_Matter_init
  obtain ⟨ds, hv, hb⟩ := FunD.binds1 (ps := ["self", "kind", "mover", "other"]) F 3 0 (by intro h; cases h) rfl (fun T kV doc pm an cdv ct us its h1 h2 => match us, its, h1, h2 with | [_, _, _], [_], _, _ => ⟨_, rfl, rfl⟩)
  refine ⟨_, fd, ds, mk_ok F S (fun _ => rfl) 0 rfl (fun cdv A0 outer s H E hr => ?_), T.k_Matter, T.g_Matter, hb, hv⟩
  refine ⟨_, (pss_cons (xSfld (K := K) (pv 0) (pv 1) rfl)
    (pss_cons (xSfld (K := K) (pv 0) (pv 2) rfl)
    (pss_one (xSfld (K := K) (pv 0) (pv 3) rfl)))), fun z hz B Nx Rt Bk Ct k => ?_⟩
  refine go_seq (go_fld T.c_Matter T.n_Matter_kind (ev_var rfl) (by kernel_rfl) (Nat.le_of_ble_eq_true rfl) ?_)
  refine go_seq (go_fld T.c_Matter T.n_Matter_mover (ev_var rfl) (by kernel_rfl) (Nat.le_of_ble_eq_true rfl) ?_)
  refine (go_fld T.c_Matter T.n_Matter_other (ev_var rfl) (by kernel_rfl) (Nat.le_of_ble_eq_true rfl) ?_)
  exact go_fin k
theorem e_Matter {G : Ctx} {ta tb : TE} (z : Mr) (h1 : Ev ta G (tStr.en "self")) (h2 : Ev tb G ((tMr K).en z)) : Ev (tMake (He.ga K "Matter") (sp_Matter_init K) [V.non] E0 (tCons ta (tCons tb tNil))) G ((tMt K).en z) :=
  ev_make (des := [tNon.en ()]) z z (ea_cons h1 (ea_cons h2 ea_nil)) (fun F => .cons rfl .nil) rfl trivial rfl trivial
end
section
variable {P : Program} {w : World} {K : PySem.W.Frag} {mg : Str → Option Value} {base : Heap}
abbrev tBo (K : PySem.W.Frag) : Ty (Int × Bd) := yT2 K (tI 64) (tBd K)
theorem bodies_ok {m : Mr} (h : MrOk m) : ∀ b ∈ bodies m, 0 ≤ b.1 ∧ b.1 ≤ m.arm.joints.length ∧ BdOk b.2 := fun b hb => by
  unfold bodies at hb
  rcases List.mem_append.mp hb with h1 | h1
  · obtain ⟨c, hc, e⟩ := List.mem_map.mp h1
    obtain ⟨q1, q2⟩ := h.arm.link c hc
    subst e
    exact ⟨q1, q2, h.arm.bs c hc⟩
  · obtain ⟨c, hc, e⟩ := List.mem_map.mp h1
    subst e
    exact ⟨Int.natCast_nonneg _, Int.le_refl _, h.hs c hc⟩
theorem bodies_len {m : Mr} (h : MrOk m) : (bodies m).length ≤ 12 := by
  unfold bodies
  rw [List.length_append, List.length_map, List.length_map]
  have := h.arm.c8
  have := h.held
  omega
theorem mv_ok {m : Mr} (h : MrOk m) : m.move.first.length = m.move.last.length ∧ m.move.first.length ≤ 6 := ⟨by rw [h.first.1, h.last.1], by rw [h.first.1]; exact h.arm.j6⟩
theorem take_map_succ {α β : Type} [Inhabited α] (f : α → β) (xs : List α) (i : Nat) (x : α) (h : xs[i]? = some x) : (xs.take (i + 1)).map f = (xs.take i).map f ++ [f x] := by
  rw [List.take_add_one, h, List.map_append]; rfl
theorem nat_cast {x : Int} (h : 0 ≤ x) : x = ((x.toNat : Nat) : Int) := by omega
theorem sc_Mover_bodies : FnScope ["self", "row", "capsule", "body"] ["self"] (defScope s_Mover_bodies) := ⟨rfl, rfl, rfl, by decide +kernel, rfl, by decide +kernel, by decide +kernel⟩
def sp_Mover_bodies (K : PySem.W.Frag) : Sp := spFam (fun (z : Mr) => [(tMr K).en z]) MrOk (fun z => (yLstL K (tBo K)).en (bodies z))
theorem ok_Mover_bodies (T : Txt K mg base) : Mt P w K mg base "Mover" "bodies" 1 ["self"] (sp_Mover_bodies K) := by
  obtain ⟨fd, F⟩ := T.d_Mover_bodies
  have S := sc_Mover_bodies
  refine ⟨_, fd, fam_ok F S (fun _ => rfl) 3 rfl (fun cdv A0 outer s H E hr => ?_), T.m_Mover_bodies, FunD.bindsN F fun _ _ _ _ _ _ us hl => match us, hl with | [_], _ => rfl⟩
  refine ⟨_, (pss_cons (ps_setLc (i := 1) (own := [("capsule", 2)]) (tt := tYes) rfl S.nd rfl rfl (sw_true rfl rfl rfl (by decide +kernel)) (xPit (K := K) (xFld (K := K) (xFld (K := K) (pv 0) rfl) rfl)) (blkOk_by (N := ["self", "row", "capsule", "body"]) (sc := defScope s_Mover_bodies) (by decide +kernel)) (fun _ _ _ _ _ => (pg_name (i := 2) S.nd rfl (Or.inl rfl))) (fun _ _ _ _ _ => pts_nil) (fun _ _ _ _ _ => (pe_tup (pa_cons (xFld (K := K) (pv 2) rfl) (pa_cons (xFld (K := K) (pv 2) rfl) pa_nil)))))
    (pss_cons (ps_for PassesOwn.never rfl (xPit (K := K) (xFld (K := K) (pv 0) rfl)) (pg_name (i := 3) S.nd rfl (Or.inl rfl)) (pss_one (ps_expr (pe_bm PySem.F.plainAttrs_list PySem.F.slot_list_append PySem.F.type_list_append mt_append (pv 1) (pa_cons (pe_tup (pa_cons (pe_callB (xLen (K := K)) (by rfl) T.z_len (by decide +kernel) (pa_cons (xFld (K := K) (xFld (K := K) (pv 0) rfl) rfl) pa_nil)) (pa_cons (pv 3) pa_nil))) pa_nil)))))
    (pss_one (ps_ret (pv 1))))), fun z hz B Nx Rt Bk Ct k => ?_⟩
  have h8 := hz.arm.c8
  have h6 := hz.arm.j6
  have h4 := hz.held
  refine go_seq (go_asgO (eo_lcT (A := tBo K) (fun c : Cp => (c.link, c.body)) (f_Arm_capsules T (f_Mover_arm T (ev_var rfl))) (by omega) (by decide) (fun c hc => ev_tup (ea_cons (ev_le (f_Capsule_link T (ev_var rfl)) (by decide)) (ea_cons (f_Capsule_body T (ev_var rfl)) ea_nil)))) ?_)
  refine go_seq (go_forT (fun i G' => G' = ⟨startG [(tMr K).en z] 3, .lst 1 (tBo K) ((z.arm.caps.map fun c => (c.link, c.body)) ++ (z.held.take i).map fun b => ((z.arm.joints.length : Int), b))⟩) _ (f_Mover_held T (ev_var rfl)) (LeC.refl _) (by rw [List.take_zero, List.map_nil, List.append_nil]; rfl) (fun i G' h => by subst h; show (1 : Nat) ≠ 3; decide) (fun B1 lb i e1 G' he h => ?_) (fun G' h => ?_))
  · subst h
    rw [List.getElem?_map] at he
    obtain ⟨b, hb, e⟩ := Option.map_eq_some_iff.mp he
    subst e
    refine go_append (x := ((z.arm.joints.length : Int), b)) (ev_tup (ea_cons (ev_lenTL (f_Arm_joints T (f_Mover_arm T (ev_var rfl))) (by omega)) (ea_cons (ev_var rfl) ea_nil))) ?_ (go_inv _ rfl ?_)
    · rw [List.length_append, List.length_map, List.length_map, List.length_take]; omega
    · rw [take_map_succ _ _ _ _ hb, ← List.append_assoc]; walk_at "wk"
  · subst h
    refine go_freeze (go_ret (ev_is (ev_var rfl) ?_) k)
    rw [List.length_map, List.take_length]; rfl
theorem e_bodies (T : Txt K mg base) {G : Ctx} {ta : TE} {m : Mr} (h : Ev ta G ((tMr K).en m)) (hm : MrOk m) : Ev (tMeth (He.ga K "Mover") "bodies" (sp_Mover_bodies K) [] E0 ta tNil) G ((yLstL K (tBo K)).en (bodies m)) := ev_meth (C := "Mover") (ι := Mr) m h (z_Mover_bodies _) ea_nil rfl hm
theorem sc_Mover_lines : FnScope ["self", "part", "values", "row", "link", "body"] ["self", "part"] (defScope s_Mover_lines) := ⟨rfl, rfl, rfl, by decide +kernel, rfl, by decide +kernel, by decide +kernel⟩
def sp_Mover_lines (K : PySem.W.Frag) : Sp := spFam (fun (z : Mr × Part) => [(tMr K).en z.1, (tPt K).en z.2]) (fun z => MrOk z.1 ∧ PartOk z.2) (fun z => (yLstL K (tLn K)).en (lines z.1 z.2))
theorem ok_Mover_lines (T : Txt K mg base) : Mt P w K mg base "Mover" "lines" 4 ["self", "part"] (sp_Mover_lines K) := by
  obtain ⟨fd, F⟩ := T.d_Mover_lines
  have S := sc_Mover_lines
  refine ⟨_, fd, fam_ok F S (fun _ => rfl) 4 rfl (fun cdv A0 outer s H E hr => ?_), T.m_Mover_lines, FunD.bindsN F fun _ _ _ _ _ _ us hl => match us, hl with | [_, _], _ => rfl⟩
  refine ⟨_, (pss_cons (ps_set (i := 2) S.nd rfl (Or.inl rfl) (xMt (K := K) T.c_Move (ok_Move_middle (K := K) T) (hr.mono (by decide)) (xFld (K := K) (pv 0) rfl) (pa_cons (pv 1) pa_nil)))
    (pss_cons (ps_set (i := 3) S.nd rfl (Or.inl rfl) (pe_lst pa_nil))
    (pss_cons (ps_for PassesOwn.never rfl (xPil (K := K) (xMt0 (K := K) T.c_Mover (ok_Mover_bodies (K := K) T) (hr.mono (by decide)) (pv 0))) (xGtup (K := K) (n := 2) rfl (pgs_cons (pg_name (i := 4) S.nd rfl (Or.inl rfl)) (pgs_cons (pg_name (i := 5) S.nd rfl (Or.inl rfl)) pgs_nil))) (pss_one (ps_expr (pe_bm PySem.F.plainAttrs_list PySem.F.slot_list_append PySem.F.type_list_append mt_append (pv 3) (pa_cons (pe_tup (pa_cons (pe_fn (ok_spot (K := K) T) (hr.mono (by decide)) rfl (pa_cons (xFld (K := K) (pv 0) rfl) (pa_cons (pv 2) (pa_cons (pv 4) (pa_cons (xFld (K := K) (pv 5) rfl) pa_nil))))) (pa_cons (pe_fn (ok_spot (K := K) T) (hr.mono (by decide)) rfl (pa_cons (xFld (K := K) (pv 0) rfl) (pa_cons (pv 2) (pa_cons (pv 4) (pa_cons (xFld (K := K) (pv 5) rfl) pa_nil))))) pa_nil))) pa_nil)))))
    (pss_one (ps_ret (pv 3)))))), fun z hz B Nx Rt Bk Ct k => ?_⟩
  obtain ⟨m, pt⟩ := z
  (try dsimp only at hz k ⊢)
  obtain ⟨hm, hp⟩ := hz
  have h12 := bodies_len hm
  refine go_seq (go_asg (ev_meth (C := "Move") (ι := Mv × Part) (m.move, pt) (f_Mover_move T (ev_var rfl)) (z_Move_middle _) (ea_cons (ev_var rfl) ea_nil) rfl ⟨mv_ok hm, hp⟩) ?_)
  have hml : (middle m.move pt).length = m.arm.joints.length := by unfold middle; rw [map_range_len, hm.first.1]
  refine go_seq (go_asgO (eo_lst (A := tLn K) (xs := []) ea_nil) ?_)
  refine go_seq (go_forL2 (δ := Int × Bd) (fs := fun b => [(tI 64).en b.1, (tBd K).en b.2]) (fun i G' => G' = ⟨startG [(tMr K).en m, (tPt K).en pt, (yLstL K (tI 300)).en (middle m.move pt)] 3, .lst 3 (tLn K) (((bodies m).take i).map (lineOf m (middle m.move pt)))⟩) _ (e_bodies T (ev_var rfl) hm) (LeC.refl _) (by rw [List.take_zero]; rfl) (fun i G' h => by subst h; exact ⟨(show (3 : Nat) ≠ 4 by decide), (show (3 : Nat) ≠ 5 by decide)⟩) (fun B1 lb i e1 G' he h => ?_) (fun G' h => ?_))
  · subst h
    rw [List.getElem?_map] at he
    obtain ⟨b, hb, e⟩ := Option.map_eq_some_iff.mp he
    subst e
    obtain ⟨b1, b2, b3⟩ := bodies_ok hm b (List.mem_of_getElem? hb)
    refine ⟨b, _, _, rfl, rfl, ?_⟩
    refine go_append (x := lineOf m (middle m.move pt) b) (ev_tup (ea_cons ?_ (ea_cons ?_ ea_nil))) ?_ (go_inv _ rfl ?_)
    · exact ev_call (ι := Ar × List Int × Nat × V3) (m.arm, middle m.move pt, b.1.toNat, b.2.first) (ea_cons (f_Mover_arm T (ev_var rfl)) (ea_cons (ev_var rfl) (ea_cons (ev_is (ev_var rfl) (nat_cast b1)) (ea_cons (f_Body_first T (ev_var rfl)) ea_nil)))) ⟨hm.arm, hml, (show b.1.toNat ≤ m.arm.joints.length by omega)⟩
    · exact ev_call (ι := Ar × List Int × Nat × V3) (m.arm, middle m.move pt, b.1.toNat, b.2.last) (ea_cons (f_Mover_arm T (ev_var rfl)) (ea_cons (ev_var rfl) (ea_cons (ev_is (ev_var rfl) (nat_cast b1)) (ea_cons (f_Body_last T (ev_var rfl)) ea_nil)))) ⟨hm.arm, hml, (show b.1.toNat ≤ m.arm.joints.length by omega)⟩
    · rw [List.length_map, List.length_take]; omega
    · rw [take_map_succ _ _ _ _ hb]; walk_at "wk"
  · subst h
    refine go_freeze (go_ret (ev_is (ev_var rfl) ?_) k)
    rw [List.length_map, List.take_length]; rfl
theorem sc_Mover_unknowns : FnScope ["self", "halves", "link", "body"] ["self", "halves"] (defScope s_Mover_unknowns) := ⟨rfl, rfl, rfl, by decide +kernel, rfl, by decide +kernel, by decide +kernel⟩
def sp_Mover_unknowns (K : PySem.W.Frag) : Sp := spFam (fun (z : Mr × List Int) => [(tMr K).en z.1, (yLstL K (tI 100)).en z.2]) (fun z => MrOk z.1 ∧ z.2.length = z.1.arm.joints.length) (fun z => (yLstL K (tI 400)).en (unknowns z.1 z.2))
theorem ok_Mover_unknowns (T : Txt K mg base) : Mt P w K mg base "Mover" "unknowns" 4 ["self", "halves"] (sp_Mover_unknowns K) := by
  obtain ⟨fd, F⟩ := T.d_Mover_unknowns
  have S := sc_Mover_unknowns
  refine ⟨_, fd, fam_ok F S (fun _ => rfl) 2 rfl (fun cdv A0 outer s H E hr => ?_), T.m_Mover_unknowns, FunD.bindsN F fun _ _ _ _ _ _ us hl => match us, hl with | [_, _], _ => rfl⟩
  refine ⟨_, (pss_one (ps_ret (pe_lc (own := [("link", 2), ("body", 3)]) (tt := tYes) rfl S.nd (xPil (K := K) (xMt0 (K := K) T.c_Mover (ok_Mover_bodies (K := K) T) (hr.mono (by decide)) (pv 0))) (blkOk_by (N := ["self", "halves", "link", "body"]) (sc := defScope s_Mover_unknowns) (by decide +kernel)) (fun _ _ _ _ _ => (xGtup (K := K) (n := 2) rfl (pgs_cons (pg_name (i := 2) S.nd rfl (Or.inl rfl)) (pgs_cons (pg_name (i := 3) S.nd rfl (Or.inl rfl)) pgs_nil)))) (fun _ _ _ _ _ => pts_nil) (fun _ _ _ _ _ => (pe_fn (ok_unknown (K := K) T) (hr.mono (by decide)) rfl (pa_cons (xFld (K := K) (pv 0) rfl) (pa_cons (pv 1) (pa_cons (pv 2) (pa_cons (pv 3) pa_nil))))))))), fun z hz B Nx Rt Bk Ct k => ?_⟩
  obtain ⟨m, hs⟩ := z
  (try dsimp only at hz k ⊢)
  obtain ⟨hm, hl⟩ := hz
  have h12 := bodies_len hm
  refine go_ret (EvO.ev (K := K) (A := tI 400) (eo_lcL2 (fs := fun b => [(tI 64).en b.1, (tBd K).en b.2]) (fun b : Int × Bd => unknown m.arm.joints hs b.1.toNat b.2) (fun (x : Int × Bd) => (tI 64).en x.1) (fun x => (tBd K).en x.2) (e_bodies T (ev_var rfl) hm) (fun _ => rfl) (by omega) (by decide) (by decide) (fun b hb => ?_))) k
  obtain ⟨b1, b2, b3⟩ := bodies_ok hm b hb
  exact ev_call (ι := Ar × List Int × Nat × Bd) (m.arm, hs, b.1.toNat, b.2) (ea_cons (f_Mover_arm T (ev_var rfl)) (ea_cons (ev_var rfl) (ea_cons (ev_is (ev_var rfl) (nat_cast b1)) (ea_cons (ev_var rfl) ea_nil)))) ⟨hm.arm, hl, (show b.1.toNat ≤ m.arm.joints.length by omega)⟩
abbrev tSd (K : PySem.W.Frag) : Ty Side := yT3 K (tLn K) (tI 24) (tI 400)
def hsOf (m : Mr) (p : Part) (near : Bool) : List Int := if near = true then slack m.move else halves m.move p.1
theorem hsOf_len {m : Mr} (h : MrOk m) (p : Part) (b : Bool) : (hsOf m p b).length = m.arm.joints.length := by
  unfold hsOf
  split
  · unfold slack; rw [map_range_len, h.first.1]
  · unfold halves; rw [map_range_len, h.first.1]
theorem tIs_le {n m : Nat} {xs : List Int} (h : n ≤ m) (F : Hp) (v : V) (r : ((yLstL K (tI n)).en xs).ok F v) : ((yLstL K (tI m)).en xs).ok F v := by
  obtain ⟨a, vs, ea, hs, r⟩ := r
  exact ⟨a, vs, ea, hs, pmapR' (Paired.mapP (pmapR (R := fun v (t : Ent) => t.ok F v) (f := fun x => (tI n).en x) r) fun _ _ z => ⟨z.1, bd_mono h z.2⟩)⟩
theorem sc_sides : FnScope ["mover", "part", "near", "halves", "lines", "unknowns", "bodies", "k"] ["mover", "part", "near"] (defScope s_sides) := ⟨rfl, rfl, rfl, by decide +kernel, rfl, by decide +kernel, by decide +kernel⟩
def sp_sides (K : PySem.W.Frag) : Sp := spFam (fun (z : Mr × Part × Bool) => [(tMr K).en z.1, (tPt K).en z.2.1, tBl.en z.2.2]) (fun z => MrOk z.1 ∧ PartOk z.2.1) (fun z => (yLstL K (tSd K)).en (sides z.1 z.2.1 (hsOf z.1 z.2.1 z.2.2)))
theorem ok_sides (T : Txt K mg base) : Fn P w K mg base "sides" 5 ["mover", "part", "near"] (sp_sides K) := by
  obtain ⟨fd, F⟩ := T.d_sides
  have S := sc_sides
  refine ⟨_, fd, fam_ok F S (fun _ => rfl) 5 rfl (fun cdv A0 outer s H E hr => ?_), T.g_sides, F.kp, FunD.bindsN F fun _ _ _ _ _ _ us hl => match us, hl with | [_, _, _], _ => rfl⟩
  refine ⟨_, (pss_cons (ps_set (i := 3) S.nd rfl (Or.inl rfl) (pe_ifExp (pt_val (pv 2)) (xMt0 (K := K) T.c_Move (ok_Move_slack (K := K) T) (hr.mono (by decide)) (xFld (K := K) (pv 0) rfl)) (xMt (K := K) T.c_Move (ok_Move_halves (K := K) T) (hr.mono (by decide)) (xFld (K := K) (pv 0) rfl) (pa_cons (xIx (K := K) (pv 1) pe_int (fun _ _ => rfl)) pa_nil))))
    (pss_cons (ps_set (i := 4) S.nd rfl (Or.inr rfl) (xMt (K := K) T.c_Mover (ok_Mover_lines (K := K) T) (hr.mono (by decide)) (pv 0) (pa_cons (pv 1) pa_nil)))
    (pss_cons (ps_set (i := 5) S.nd rfl (Or.inr rfl) (xMt (K := K) T.c_Mover (ok_Mover_unknowns (K := K) T) (hr.mono (by decide)) (pv 0) (pa_cons (pv 3) pa_nil)))
    (pss_cons (ps_set (i := 6) S.nd rfl (Or.inr rfl) (xMt0 (K := K) T.c_Mover (ok_Mover_bodies (K := K) T) (hr.mono (by decide)) (pv 0)))
    (pss_one (ps_ret (pe_lc (own := [("k", 7)]) (tt := tYes) rfl S.nd (pi_range1 rfl T.z_range (pa_cons (pe_callB (xLen (K := K)) (by rfl) T.z_len (by decide +kernel) (pa_cons (pv 6) pa_nil)) pa_nil)) (blkOk_by (N := ["mover", "part", "near", "halves", "lines", "unknowns", "bodies", "k"]) (sc := defScope s_sides) (by decide +kernel)) (fun _ _ _ _ _ => (pg_name (i := 7) S.nd rfl (Or.inl rfl))) (fun _ _ _ _ _ => pts_nil) (fun _ _ _ _ _ => (pe_tup (pa_cons (xIx (K := K) (pv 4) (pv 7) (fun _ _ => rfl)) (pa_cons (xFld (K := K) (xIx (K := K) (xIx (K := K) (pv 6) (pv 7) (fun _ _ => rfl)) pe_int (fun _ _ => rfl)) rfl) (pa_cons (xIx (K := K) (pv 5) (pv 7) (fun _ _ => rfl)) pa_nil)))))))))))), fun z hz B Nx Rt Bk Ct k => ?_⟩
  obtain ⟨m, pt, near⟩ := z
  (try dsimp only at hz k ⊢)
  obtain ⟨hm, hp⟩ := hz
  have h12 := bodies_len hm
  obtain ⟨p1, p2, p3, p4⟩ := id hp
  refine go_seq (go_asg (e1 := (yLstL K (tI 100)).en (hsOf m pt near)) (ev_if (et_B (ev_var rfl)) (fun hb => ?_) (fun hb => ?_)) ?_)
  · exact ev_is ((ev_meth (C := "Move") (ι := Mv) m.move (f_Mover_move T (ev_var rfl)) (z_Move_slack _) ea_nil rfl (mv_ok hm)).sub (tIs_le (by decide))) (by unfold hsOf; rw [if_pos hb])
  · exact ev_is (ev_meth (C := "Move") (ι := Mv × Int) (m.move, pt.1) (f_Mover_move T (ev_var rfl)) (z_Move_halves _) (ea_cons (ev_ixTc (ev_var rfl) rfl) ea_nil) rfl ⟨mv_ok hm, p1, p2⟩) (by unfold hsOf; rw [if_neg (by rw [hb]; decide)])
  have hl := hsOf_len hm pt near
  generalize hsOf m pt near = hs at hl k ⊢
  refine go_seq (go_asg (ev_meth (C := "Mover") (ι := Mr × Part) (m, pt) (ev_var rfl) (z_Mover_lines _) (ea_cons (ev_var rfl) ea_nil) rfl ⟨hm, hp⟩) ?_)
  refine go_seq (go_asg (ev_meth (C := "Mover") (ι := Mr × List Int) (m, hs) (ev_var rfl) (z_Mover_unknowns _) (ea_cons (ev_var rfl) ea_nil) rfl ⟨hm, hl⟩) ?_)
  refine go_seq (go_asg (e_bodies T (ev_var rfl) hm) ?_)
  have hl1 : (lines m pt).length = (bodies m).length := List.length_map _
  have hl2 : (unknowns m hs).length = (bodies m).length := List.length_map _
  refine go_ret (EvO.ev (K := K) (A := tSd K) (eo_lcR1 (sideAt m pt hs) (ea_cons (ev_lenLL (ev_var rfl) (by omega)) ea_nil) (by omega) (by decide) (fun i hi => ?_))) k
  refine ev_tup (ea_cons (ev_atL (ev_var rfl) (ev_var rfl) (by omega)) (ea_cons (f_Body_radius T (ev_ixTc (ev_atL (ev_var rfl) (ev_var rfl) hi) rfl)) (ea_cons (ev_atL (ev_var rfl) (ev_var rfl) (by omega)) ea_nil)))
end
section
variable {P : Program} {w : World} {K : PySem.W.Frag} {mg : Str → Option Value} {base : Heap}
theorem lay_pairs : ∀ ps : List (Int × Int), PyData.canLayAll0 (ps.map datP) = true ∧ PyData.depthAll (ps.map datP) ≤ 2
  | [] => ⟨rfl, Nat.zero_le _⟩
  | q :: ps => by
    obtain ⟨h1, h2⟩ := lay_pairs ps
    constructor
    · simp only [List.map_cons, datP, PyData.canLayAll0, PyData.canLay0, h1, Bool.and_true]
    · simp only [List.map_cons, PyData.depthAll]
      have : (datP q).depth ≤ 2 := by simp [datP, PyData.depth, PyData.depthAll]
      omega
theorem shaped_pairs (ps : List (Int × Int)) : SeqAt.shaped (.tuple (ps.map datP)) = true := by
  obtain ⟨h1, h2⟩ := lay_pairs ps
  have h3 : (PyData.tuple (ps.map datP)).depth ≤ 64 := by
    simp only [PyData.depth]
    omega
  unfold SeqAt.shaped
  rw [decide_eq_true h3, Bool.and_true]
  simp only [PyData.canLay0, h1]
theorem shaped_pair (q : Int × Int) : SeqAt.shaped (datP q) = true := by
  unfold SeqAt.shaped datP
  simp [PyData.canLay0, PyData.canLayAll0, PyData.depth, PyData.depthAll]
theorem dp_pair {F : Hp} {v : V} {q : Int × Int} {n m : Nat} (r : ((yT2 K (tI n) (tI m)).en q).ok F v) : Dp K F v (datP q) := by
  obtain ⟨a, vs, e, hs, r⟩ := r
  cases r with
  | cons r1 r => cases r with
    | cons r2 r => cases r with
      | nil =>
        subst e
        refine .tup hs (.cons ?_ (.cons ?_ .nil))
        · rw [r1.1]; exact .int _
        · rw [r2.1]; exact .int _
theorem dp_pairs {F : Hp} {n m : Nat} : ∀ {vs : List V} {ps : List (Int × Int)}, Oks F vs (ps.map fun x => (yT2 K (tI n) (tI m)).en x) → DpAll K F vs (ps.map datP)
  | [], [], _ => .nil
  | _ :: _, _ :: _, .cons r t => .cons (dp_pair r) (dp_pairs t)
theorem et_notInT {G : Ctx} {ta tb : TE} {ps : List (Int × Int)} {q : Int × Int} (ha : Ev ta G ((tPr K).en q)) (hb : Ev tb G ((yTupL K (tPr K)).en ps)) : EvT (tTest (tOp (aNotInT K) ta tb)) G (!((ps.map datP).any fun z => PyData.eqv z (datP q))) := fun B σ F H a Q qq =>
  ha B σ F H a _ fun v F1 H1 g1 r1 => hb B σ F1 H1 (a.grow g1) _ fun w F2 H2 g2 r2 => by
    obtain ⟨p', vs, e, hs, r⟩ := r2
    subst e
    have s2 := g2.s
    have r1' : ((tPr K).en q).ok H2 v := ((tPr K).en q).mono (g2.f.trans s2) r1
    exact ⟨datP q, ps.map datP, dp_pair r1', .tup (sameT s2 hs) (dp_pairs (r.mono s2)), shaped_pair q, shaped_pairs ps, _, rfl, qq F2 H2 (g1.trans g2)⟩
theorem flatMap_len {α : Type} (f : Nat → List α) (c : Nat) (h : ∀ k, (f k).length ≤ c) : ∀ i, ((List.range i).flatMap f).length ≤ i * c
  | 0 => by simp
  | i + 1 => by
    rw [List.range_succ, List.flatMap_append, List.length_append]
    have := flatMap_len f c h i
    have := h i
    rw [Nat.succ_mul]
    simp only [List.flatMap_cons, List.flatMap_nil, List.append_nil]
    omega
theorem rowPairs_len (m : Mr) (k n : Nat) : (rowPairs m k n).length ≤ n := by
  unfold rowPairs
  rw [List.length_map]
  have := List.length_filter_le (fun i => apartB m k (k + 1 + i)) (List.range n)
  rw [List.length_range] at this
  exact this
theorem rowPairs_succ (m : Mr) (k n : Nat) : rowPairs m k (n + 1) = if apartB m k (k + 1 + n) = true then rowPairs m k n ++ [((k : Int), ((k + 1 + n : Nat) : Int))] else rowPairs m k n := by
  unfold rowPairs
  rw [List.range_succ, List.filter_append, List.map_append]
  by_cases h : apartB m k (k + 1 + n) = true
  · rw [if_pos h, List.filter_cons_of_pos (p := fun i => apartB m k (k + 1 + i)) h]; rfl
  · rw [if_neg h, List.filter_cons_of_neg (p := fun i => apartB m k (k + 1 + i)) h]; simp
theorem pairs_len {m : Mr} (h : MrOk m) : (pairs m).length ≤ 144 := by
  have hb := bodies_len h
  have := flatMap_len (fun k => rowPairs m k ((bodies m).length - (k + 1))) 12 (fun k => Nat.le_trans (rowPairs_len _ _ _) (by omega)) (bodies m).length
  unfold pairs
  omega
theorem pairs_in {m : Mr} : ∀ q ∈ pairs m, ∃ k j : Nat, q = ((k : Int), (j : Int)) ∧ k < j ∧ j < (bodies m).length ∧ apartB m k j = true := fun q hq => by
  unfold pairs at hq
  obtain ⟨k, hk, h1⟩ := List.mem_flatMap.mp hq
  have hk' := List.mem_range.mp hk
  unfold rowPairs at h1
  obtain ⟨i, hi, e⟩ := List.mem_map.mp h1
  obtain ⟨h2, h3⟩ := List.mem_filter.mp hi
  have h4 := List.mem_range.mp h2
  exact ⟨k, k + 1 + i, e.symm, by omega, by omega, h3⟩
theorem sc_Matter_pairs : FnScope ["self", "many", "k", "j", "links", "link", "body", "row"] ["self"] (defScope s_Matter_pairs) := ⟨rfl, rfl, rfl, by decide +kernel, rfl, by decide +kernel, by decide +kernel⟩
def sp_Matter_pairs (K : PySem.W.Frag) : Sp := spFam (fun (z : Mr) => [(tMt K).en z]) MrOk (fun z => (yLstL K (tPr K)).en (pairs z))
theorem ok_Matter_pairs (T : Txt K mg base) : Mt P w K mg base "Matter" "pairs" 2 ["self"] (sp_Matter_pairs K) := by
  obtain ⟨fd, F⟩ := T.d_Matter_pairs
  have S := sc_Matter_pairs
  refine ⟨_, fd, fam_ok F S (fun _ => rfl) 7 rfl (fun cdv A0 outer s H E hr => ?_), T.m_Matter_pairs, FunD.bindsN F fun _ _ _ _ _ _ us hl => match us, hl with | [_], _ => rfl⟩
  have hu : _ := hu65 hr
  refine ⟨_, (pss_cons (ps_set (i := 1) S.nd rfl (Or.inl rfl) (pe_callB (xLen (K := K)) (by rfl) T.z_len (by decide +kernel) (pa_cons (xMt0 (K := K) T.c_Mover (ok_Mover_bodies (K := K) T) (hr.mono (by decide)) (xFld (K := K) (pv 0) rfl)) pa_nil)))
    (pss_cons (ps_if (pt_cmpR oEq (xFld (K := K) (pv 0) rfl) pe_str (nomark _)) pss_never pss_nil)
    (pss_cons (ps_if (pt_cmpR oEq (xFld (K := K) (pv 0) rfl) pe_str (nomark _)) pss_never pss_nil)
    (pss_cons (ps_setLc (i := 4) (own := [("link", 5), ("body", 6)]) (tt := tYes) rfl S.nd rfl rfl (sw_true rfl rfl rfl (by decide +kernel)) (xPil (K := K) (xMt0 (K := K) T.c_Mover (ok_Mover_bodies (K := K) T) (hr.mono (by decide)) (xFld (K := K) (pv 0) rfl))) (blkOk_by (N := ["self", "many", "k", "j", "links", "link", "body", "row"]) (sc := defScope s_Matter_pairs) (by decide +kernel)) (fun _ _ _ _ _ => (xGtup (K := K) (n := 2) rfl (pgs_cons (pg_name (i := 5) S.nd rfl (Or.inl rfl)) (pgs_cons (pg_name (i := 6) S.nd rfl (Or.inl rfl)) pgs_nil)))) (fun _ _ _ _ _ => pts_nil) (fun _ _ _ _ _ => (pv 5)))
    (pss_cons (ps_set (i := 7) S.nd rfl (Or.inl rfl) (pe_lst pa_nil))
    (pss_cons (ps_for PassesOwn.never rfl (pi_range1 rfl T.z_range (pa_cons (pv 1) pa_nil)) (pg_name (i := 2) S.nd rfl (Or.inl rfl)) (pss_one (ps_for PassesOwn.never rfl (pi_range2 rfl T.z_range (pa_cons (pe_op oAdd (pv 2) pe_int) (pa_cons (pv 1) pa_nil))) (pg_name (i := 3) S.nd rfl (Or.inl rfl)) (pss_one (ps_if (PW.pt (pw_and (pt_cmpR oGt (pe_callB kAbs (by rfl) T.z_abs (by decide +kernel) (pa_cons (pe_op oSub (xIx (K := K) (pv 4) (pv 2) (fun _ _ => rfl)) (xIx (K := K) (pv 4) (pv 3) (fun _ _ => rfl))) pa_nil)) pe_int (nomark _)) (pw_and1 (pt_cmpR (xNotInT (K := K) hu) (pe_tup (pa_cons (pv 2) (pa_cons (pv 3) pa_nil))) (xFld (K := K) (xFld (K := K) (xFld (K := K) (pv 0) rfl) rfl) rfl) (by rfl))))) (pss_one (ps_expr (pe_bm PySem.F.plainAttrs_list PySem.F.slot_list_append PySem.F.type_list_append mt_append (pv 7) (pa_cons (pe_tup (pa_cons (pv 2) (pa_cons (pv 3) pa_nil))) pa_nil)))) pss_nil)))))
    (pss_one (ps_ret (pv 7))))))))), fun z hz B Nx Rt Bk Ct k => ?_⟩
  have h12 := bodies_len hz
  refine go_seq (go_asg (ev_lenLL (e_bodies T (f_Matter_mover T (ev_var rfl)) hz) (by omega)) ?_)
  refine go_seq (go_ifF (et_is (et_test (ev_eqS (f_Matter_kind T (ev_var rfl)) ev_str)) (by decide)) (go_next ?_))
  refine go_seq (go_ifF (et_is (et_test (ev_eqS (f_Matter_kind T (ev_var rfl)) ev_str)) (by decide)) (go_next ?_))
  refine go_seq (go_asg (EvO.ev (K := K) (A := tI 64) (eo_lcL2 (fs := fun b => [(tI 64).en b.1, (tBd K).en b.2]) (fun b : Int × Bd => b.1) (fun (x : Int × Bd) => (tI 64).en x.1) (fun x => (tBd K).en x.2) (e_bodies T (f_Matter_mover T (ev_var rfl)) hz) (fun _ => rfl) (by omega) (by decide) (by decide) (fun b hb => ev_var rfl))) ?_)
  have hll : ((bodies z).map fun b => b.1).length = (bodies z).length := List.length_map _
  refine go_seq (go_asgO (eo_lst (A := tPr K) (xs := []) ea_nil) ?_)
  refine go_seq (go_forR1 (N := (bodies z).length) (fun i G' => G' = ⟨[some ((tMt K).en z), some ((tI 64).en ((bodies z).length : Int)), none, none, some ((yLstL K (tI 64)).en ((bodies z).map fun b => b.1)), none, none, none], .lst 7 (tPr K) ((List.range i).flatMap fun k => rowPairs z k ((bodies z).length - (k + 1)))⟩) _ (ea_cons (ev_var rfl) ea_nil) (by omega) (LeC.refl _) rfl (fun i G' h => by subst h; show (7 : Nat) ≠ 2; decide) (fun i G' hi h => ?_) (fun G' h => ?_))
  · subst h
    have hfl := flatMap_len (fun k => rowPairs z k ((bodies z).length - (k + 1))) 12 (fun k => Nat.le_trans (rowPairs_len _ _ _) (by omega)) i
    refine go_forR2 (L := i + 1) (N := (bodies z).length - (i + 1)) (hi := ((bodies z).length : Int)) (fun t G' => G' = ⟨[some ((tMt K).en z), some ((tI 64).en ((bodies z).length : Int)), some ((tI 64).en (i : Int)), none, some ((yLstL K (tI 64)).en ((bodies z).map fun b => b.1)), none, none, none], .lst 7 (tPr K) (((List.range i).flatMap fun k => rowPairs z k ((bodies z).length - (k + 1))) ++ rowPairs z i t)⟩) _ (ea_cons (ev_is (ev_add (ev_var rfl) (ev_int64 (by decide))) (show (i : Int) + 1 = ((i + 1 : Nat) : Int) by omega)) (ea_cons (ev_var rfl) ea_nil)) (by omega) ⟨by omega, by omega, by omega⟩ (LeC.refl _) (by rw [show rowPairs z i 0 = [] from rfl, List.append_nil]; rfl) (fun i G' h => by subst h; show (7 : Nat) ≠ 3; decide) (fun t G' ht h => ?_) (fun G' h => ?_)
    · subst h
      have hrl := rowPairs_len z i t
      refine go_if (b := apartB z i (i + 1 + t)) (et_and (et_test (ev_gt (ev_abs (ev_sub (ev_atL (ev_var rfl) (ev_var rfl) (by omega)) (ev_atL (ev_var rfl) (ev_var rfl) (by omega)))) (ev_int64 (by decide)))) (fun _ => et_notInT (q := ((i : Int), ((i + 1 + t : Nat) : Int))) (ev_tup (ea_cons (ev_var rfl) (ea_cons (ev_var rfl) ea_nil))) (f_Arm_beside T (f_Mover_arm T (f_Matter_mover T (ev_var rfl)))))) (fun hb => ?_) (fun hb => ?_)
      · refine go_append (x := ((i : Int), ((i + 1 + t : Nat) : Int))) (ev_tup (ea_cons (ev_var rfl) (ea_cons (ev_var rfl) ea_nil))) ?_ (go_inv _ rfl ?_)
        · rw [List.length_append]; omega
        · rw [rowPairs_succ, if_pos hb, ← List.append_assoc]; walk_at "wk"
      · refine go_next (go_inv _ rfl ?_)
        rw [rowPairs_succ, if_neg (by rw [hb]; decide)]; walk_at "wk"
    · subst h
      refine go_inv _ rfl ?_
      rw [show (List.range (i + 1)).flatMap (fun k => rowPairs z k ((bodies z).length - (k + 1))) = ((List.range i).flatMap fun k => rowPairs z k ((bodies z).length - (k + 1))) ++ rowPairs z i ((bodies z).length - (i + 1)) by rw [List.range_succ, List.flatMap_append]; simp]
      walk_at "wk"
  · subst h
    exact go_freeze (go_ret (ev_var rfl) k)
theorem e_pairs (T : Txt K mg base) {G : Ctx} {ta : TE} {m : Mr} (h : Ev ta G ((tMt K).en m)) (hm : MrOk m) : Ev (tMeth (He.ga K "Matter") "pairs" (sp_Matter_pairs K) [] E0 ta tNil) G ((yLstL K (tPr K)).en (pairs m)) := ev_meth (C := "Matter") (ι := Mr) m h (z_Matter_pairs _) ea_nil rfl hm
theorem ev_methK {G : Ctx} {ar ak : TA} {ta : TE} {ι γ : Type} {A : ι → List Ent} {pre : ι → Prop} {R : ι → Ent} {C m : Str} {n l : Nat} {gV : List V → List V → List V} {es : γ → List (Str × Ent)} {P : γ → Prop} {o : γ} {as ks : List Ent} (z : ι) (ho : Ev ta G ((yObj K C es P).en o)) (hm : (es o).lookup m = none) (h : EvA ar G as) (hk : EvA ak G ks) (hn : as.length + 1 = n) (hl : ks.length = l)
    (hg : ∀ F v vs zs, ((yObj K C es P).en o).ok F v → Oks F vs as → Oks F zs ks → Oks F (gV (v :: vs) zs) (A z)) (hp : pre z) :
    Ev (tMethK (He.ga K C) m n l (spFam A pre R) gV E0 ta ar ak) G (R z) := fun B σ F H a Q q =>
  ho B σ F H a _ fun v F1 H1 g1 r1 => by
    obtain ⟨x, dx, gs, e, hx, r, p⟩ := id r1
    exact ⟨x, dx, gs, e, g1.s x _ hx, plook0 r hm, h B σ F1 H1 (a.grow g1) _ fun vs F2 H2 g2 r2 => hk B σ F2 H2 ((a.grow g1).grow g2) _ fun zs F3 H3 g3 r3 => ⟨by rw [r2.length]; exact hn, by rw [r3.length]; exact hl, z, F3, g3.s, hg F3 v vs zs (((yObj K C es P).en o).mono (g2.f.trans g3.f) r1) (r2.mono g3.f) r3, hp, fun v F' H' g' r' => q v F' H' (((g1.trans g2).trans g3).trans g') r'⟩⟩
theorem kbindsN {name qual : Str} {params : Arguments} {body : List Stmt} {scope : Scope} {kws : List (Str × V)} {f : Addr} {fd : FuncData} {ps : List Str} (F : FunD K name qual params body scope [] kws f fd) (n : Nat) (ks : List Str)
    (h : ∀ (kV doc pm : Value) (an : Option Addr) (cdv ct : Value) (us ws : List Value), us.length = n → ws.length = ks.length → bindArgs (PySem.W.fnOf name qual params body scope .none kV doc pm an cdv ct) ⟨us, ks.zip ws⟩ = pure (ps.zip (us ++ ws))) :
    KBn K fd ps n ks (fun us ws => us ++ ws) (fun vs zs => vs ++ zs) := by
  obtain ⟨oc, od, dV, kV, doc, pm, an, cdv, ct, osl, rfl, lk, hcd, hD, hK⟩ := F.ex
  rcases hD with ⟨_, rfl⟩ | ⟨e, _⟩
  · exact ⟨fun s us ws X l1 l2 => .of_eq (h kV doc pm an cdv ct us ws l1 l2), fun r1 r2 => r1.append r2⟩
  · exact absurd rfl e
abbrev tVw (K : PySem.W.Frag) : Ty View := yT2 K (tSd K) (tSd K)
theorem sc_Matter_views : FnScope ["self", "first", "second", "near", "mine", "k", "j", "theirs"] ["self", "first", "second", "near"] (defScope s_Matter_views) := ⟨rfl, rfl, rfl, by decide +kernel, rfl, by decide +kernel, by decide +kernel⟩
def sp_Matter_views (K : PySem.W.Frag) : Sp := spFam (fun (z : Mr × Part × Part × Bool) => [(tMt K).en z.1, (tPt K).en z.2.1, (tPt K).en z.2.2.1, tBl.en z.2.2.2]) (fun z => MrOk z.1 ∧ PartOk z.2.1) (fun z => (yLstL K (tVw K)).en (views z.1 z.2.1 (hsOf z.1 z.2.1 z.2.2.2)))
theorem ok_Matter_views (T : Txt K mg base) : MtK P w K mg base "Matter" "views" 6 3 ["self", "first", "second", "near"] ["near"] (sp_Matter_views K) (fun vs zs => vs ++ zs) := by
  obtain ⟨fd, F⟩ := T.d_Matter_views
  have S := sc_Matter_views
  refine ⟨_, fd, _, fam_ok F S (fun _ => rfl) 4 rfl (fun cdv A0 outer s H E hr => ?_), T.m_Matter_views, kbindsN F 3 ["near"] fun kV doc pm an cdv ct us ws h1 h2 => match us, ws, h1, h2 with | [_, _, _], [_], _, _ => rfl⟩
  refine ⟨_, (pss_cons (ps_set (i := 4) S.nd rfl (Or.inr rfl) (pe_fn (ok_sides (K := K) T) (hr.mono (by decide)) rfl (pa_cons (xFld (K := K) (pv 0) rfl) (pa_cons (pv 1) (pa_cons (pv 3) pa_nil)))))
    (pss_cons (ps_if (pt_cmpR oEq (xFld (K := K) (pv 0) rfl) pe_str (nomark _)) pss_never pss_nil)
    (pss_cons (ps_if (pt_cmpR oEq (xFld (K := K) (pv 0) rfl) pe_str (nomark _)) (pss_one (ps_ret (pe_lc (own := [("k", 5), ("j", 6)]) (tt := tYes) rfl S.nd (xPil (K := K) (xMt0 (K := K) T.c_Matter (ok_Matter_pairs (K := K) T) (hr.mono (by decide)) (pv 0))) (blkOk_by (N := ["self", "first", "second", "near", "mine", "k", "j", "theirs"]) (sc := defScope s_Matter_views) (by decide +kernel)) (fun _ _ _ _ _ => (xGtup (K := K) (n := 2) rfl (pgs_cons (pg_name (i := 5) S.nd rfl (Or.inl rfl)) (pgs_cons (pg_name (i := 6) S.nd rfl (Or.inl rfl)) pgs_nil)))) (fun _ _ _ _ _ => pts_nil) (fun _ _ _ _ _ => (pe_tup (pa_cons (xIx (K := K) (pv 4) (pv 5) (fun _ _ => rfl)) (pa_cons (xIx (K := K) (pv 4) (pv 6) (fun _ _ => rfl)) pa_nil))))))) pss_nil)
    pss_never))), fun z hz B Nx Rt Bk Ct k => ?_⟩
  obtain ⟨m, p1, p2, near⟩ := z
  (try dsimp only at hz k ⊢)
  obtain ⟨hm, hp⟩ := hz
  have h144 := pairs_len hm
  refine go_seq (go_asg (ev_call (ι := Mr × Part × Bool) (m, p1, near) (ea_cons (f_Matter_mover T (ev_var rfl)) (ea_cons (ev_var rfl) (ea_cons (ev_var rfl) ea_nil))) ⟨hm, hp⟩) ?_)
  refine go_seq (go_ifF (et_is (et_test (ev_eqS (f_Matter_kind T (ev_var rfl)) ev_str)) (by decide)) (go_next ?_))
  have hsl : (sides m p1 (hsOf m p1 near)).length = (bodies m).length := by unfold sides; rw [map_range_len]
  refine go_seq (go_ifT (et_is (et_test (ev_eqS (f_Matter_kind T (ev_var rfl)) ev_str)) (by decide)) (go_ret (EvO.ev (K := K) (A := tVw K) (eo_lcL2 (fs := fun q => [(tI 64).en q.1, (tI 64).en q.2]) (fun q : Int × Int => ((sides m p1 (hsOf m p1 near)).getD q.1.toNat default, (sides m p1 (hsOf m p1 near)).getD q.2.toNat default)) (fun (x : Int × Int) => (tI 64).en x.1) (fun x => (tI 64).en x.2) (e_pairs T (ev_var rfl) hm) (fun _ => rfl) (by omega) (by decide) (by decide) (fun q hq => ?_))) k))
  obtain ⟨a, b, e, h1, h2, _⟩ := pairs_in q hq
  subst e
  refine ev_tup (ea_cons (ev_atL (ev_var rfl) (ev_is (ev_var rfl) (nat_cast (Int.natCast_nonneg a))) ?_) (ea_cons (ev_atL (ev_var rfl) (ev_is (ev_var rfl) (nat_cast (Int.natCast_nonneg b))) ?_) ea_nil))
  · simp only [Int.toNat_natCast]; omega
  · simp only [Int.toNat_natCast]; omega
theorem e_views (T : Txt K mg base) {G : Ctx} {ta tb tc td : TE} {m : Mr} {p q : Part} {b : Bool} (h : Ev ta G ((tMt K).en m)) (h1 : Ev tb G ((tPt K).en p)) (h2 : Ev tc G ((tPt K).en q)) (h3 : Ev td G (tBl.en b)) (hm : MrOk m) (hp : PartOk p) :
    Ev (tMethK (He.ga K "Matter") "views" 3 1 (sp_Matter_views K) (fun vs zs => vs ++ zs) E0 ta (tCons tb (tCons tc tNil)) (tCons td tNil)) G ((yLstL K (tVw K)).en (views m p (hsOf m p b))) :=
  ev_methK (C := "Matter") (ι := Mr × Part × Part × Bool) (m, p, q, b) h (z_Matter_views _) (ea_cons h1 (ea_cons h2 ea_nil)) (ea_cons h3 ea_nil) rfl rfl (fun F v vs zs r1 r2 r3 => .cons r1 (papp r2 r3)) ⟨hm, hp⟩
end
section
variable {P : Program} {w : World} {K : PySem.W.Frag} {mg : Str → Option Value} {base : Heap}
theorem e_directionX {G : Ctx} {ta : TE} (h1 : Ev ta G ((tEx (tV K 26000) fun _ => True).en ())) : Ev (tCall (sp_direction K) [] E0 (tCons ta tNil)) G ((tEx (tV K 27000) fun _ => True).en ()) := fun B σ F H a Q q =>
  h1 B σ F H a _ fun v F1 H1 g ⟨x, r, _⟩ => ⟨x, F1, g.s, .cons r .nil, True.intro, fun v F' H' g' r' => q v F' H' (g.trans g') r'⟩
theorem ev_exX {te : TE} {G : Ctx} {α : Type} {A : Ty α} {Q Q' : α → Prop} (h : Ev te G ((tEx A Q).en ())) (hq : ∀ x, Q x → Q' x) : Ev te G ((tEx A Q').en ()) := h.sub fun F v ⟨x, r, p⟩ => ⟨x, r, hq x p⟩
theorem ev_narrow {te : TE} {G : Ctx} {n m : Nat} {x : Int} (h : Ev te G ((tI n).en x)) (hb : bd m x) : Ev te G ((tI m).en x) := h.sub fun _ _ r => ⟨r.1, hb⟩
theorem lower_ok {p : Part} (h : PartOk p) (h2 : p.1 < 20) : PartOk (lower p) ∧ PartOk (upper p) := by
  obtain ⟨h1, _, h3, h4⟩ := h
  have e : (p.1 + 1).toNat = p.1.toNat + 1 := by omega
  have e2 : (2 : Int) ^ (p.1 + 1).toNat = 2 * 2 ^ p.1.toNat := by rw [e, Int.pow_succ]; omega
  unfold PartOk lower upper
  simp only [e2]
  refine ⟨⟨by omega, by omega, by omega, by omega⟩, ⟨by omega, by omega, by omega, by omega⟩⟩
theorem sc_way_between : FnScope ["kind", "view"] ["kind", "view"] (defScope s_way_between) := ⟨rfl, rfl, rfl, by decide +kernel, rfl, by decide +kernel, by decide +kernel⟩
def sp_way_between (K : PySem.W.Frag) : Sp := spFam (fun (z : View) => [tStr.en "self", (tVw K).en z]) (fun _ => True) (fun _ => (tEx (tV K 27000) fun _ => True).en ())
theorem ok_way_between (T : Txt K mg base) : Fn P w K mg base "way_between" 5 ["kind", "view"] (sp_way_between K) := by
  obtain ⟨fd, F⟩ := T.d_way_between
  have S := sc_way_between
  refine ⟨_, fd, fam_ok F S (fun _ => rfl) 0 rfl (fun cdv A0 outer s H E hr => ?_), T.g_way_between, F.kp, FunD.bindsN F fun _ _ _ _ _ _ us hl => match us, hl with | [_, _], _ => rfl⟩
  refine ⟨_, (pss_cons (ps_if (pt_cmpR oEq (pv 0) pe_str (nomark _)) pss_never pss_nil)
    (pss_one (ps_ret (pe_fn (ok_direction (K := K) T) (hr.mono (by decide)) rfl (pa_cons (xFld (K := K) (pe_fn (ok_line_gap (K := K) T) (hr.mono (by decide)) rfl (pa_cons (xIx (K := K) (xIx (K := K) (pv 1) pe_int (fun _ _ => rfl)) pe_int (fun _ _ => rfl)) (pa_cons (xIx (K := K) (xIx (K := K) (pv 1) pe_int (fun _ _ => rfl)) pe_int (fun _ _ => rfl)) pa_nil))) rfl) pa_nil))))), fun z hz B Nx Rt Bk Ct k => ?_⟩
  refine go_seq (go_ifF (et_is (et_test (ev_eqS (ev_var rfl) ev_str)) (by decide)) (go_next ?_))
  exact go_ret (e_directionX (ev_fldX (C := "Gap") (es := gpF K 26000 21000) (P := fun _ => True) (P2 := fun _ => True) (e1 := (tEx (tV K 26000) fun _ => True).en ()) (e_line_gap (ev_ixTc (ev_ixTc (ev_var rfl) rfl) rfl) (ev_ixTc (ev_ixTc (ev_var rfl) rfl) rfl)) T.c_Gap T.n_Gap_vector (fun g _ _ => ⟨_, l_Gap_vector 26000 21000 g, fun F v r => ⟨_, r, trivial⟩⟩))) k
theorem sc_is_parted : FnScope ["kind", "view", "way", "line", "radius", "loose", "other", "breadth", "slack"] ["kind", "view", "way"] (defScope s_is_parted) := ⟨rfl, rfl, rfl, by decide +kernel, rfl, by decide +kernel, by decide +kernel⟩
def sp_is_parted (K : PySem.W.Frag) : Sp := spFam (fun (z : View × V3) => [tStr.en "self", (tVw K).en z.1, (tV K 24).en z.2]) (fun _ => True) (fun z => tBl.en (partedB z.1 z.2))
theorem ok_is_parted (T : Txt K mg base) : Fn P w K mg base "is_parted" 4 ["kind", "view", "way"] (sp_is_parted K) := by
  obtain ⟨fd, F⟩ := T.d_is_parted
  have S := sc_is_parted
  refine ⟨_, fd, fam_ok F S (fun _ => rfl) 6 rfl (fun cdv A0 outer s H E hr => ?_), T.g_is_parted, F.kp, FunD.bindsN F fun _ _ _ _ _ _ us hl => match us, hl with | [_, _, _], _ => rfl⟩
  refine ⟨_, (pss_cons (ps_asg (xIx (K := K) (pv 1) pe_int (fun _ _ => rfl)) (xGtup (K := K) (n := 3) rfl (pgs_cons (pg_name (i := 3) S.nd rfl (Or.inl rfl)) (pgs_cons (pg_name (i := 4) S.nd rfl (Or.inl rfl)) (pgs_cons (pg_name (i := 5) S.nd rfl (Or.inl rfl)) pgs_nil)))))
    (pss_cons (ps_if (pt_cmpR oEq (pv 0) pe_str (nomark _)) pss_never pss_nil)
    (pss_cons (ps_asg (xIx (K := K) (pv 1) pe_int (fun _ _ => rfl)) (xGtup (K := K) (n := 3) rfl (pgs_cons (pg_name (i := 6) S.nd rfl (Or.inl rfl)) (pgs_cons (pg_name (i := 7) S.nd rfl (Or.inl rfl)) (pgs_cons (pg_name (i := 8) S.nd rfl (Or.inl rfl)) pgs_nil)))))
    (pss_one (ps_ret (pe_fn (ok_parts_places (K := K) T) (hr.mono (by decide)) rfl (pa_cons (pv 2) (pa_cons (pv 3) (pa_cons (pv 6) (pa_cons (pe_op oAdd (pe_op oAdd (pe_op oAdd (pv 4) (pv 5)) (pv 7)) (pv 8)) pa_nil)))))))))), fun z hz B Nx Rt Bk Ct k => ?_⟩
  refine go_seq (go_tup3 (p := z.1.1) (ev_ixTc (ev_var rfl) rfl) ?_)
  refine go_seq (go_ifF (et_is (et_test (ev_eqS (ev_var rfl) ev_str)) (by decide)) (go_next ?_))
  refine go_seq (go_tup3 (p := z.1.2) (ev_ixTc (ev_var rfl) rfl) ?_)
  exact go_ret (e_parts_places (ev_var rfl) (ev_var rfl) (ev_var rfl) (ev_le (ev_add (ev_add (ev_add (ev_var rfl) (ev_var rfl)) (ev_var rfl)) (ev_var rfl)) (by decide))) k
theorem sc_contact : FnScope ["kind", "view", "line", "radius", "loose", "other", "breadth", "slack", "gap"] ["kind", "view"] (defScope s_contact) := ⟨rfl, rfl, rfl, by decide +kernel, rfl, by decide +kernel, by decide +kernel⟩
def sp_contact (K : PySem.W.Frag) : Sp := spFam (fun (z : View) => [tStr.en "self", (tVw K).en z]) (fun _ => True) (fun z => (tEx tStr fun _ => True).en ())
theorem ok_contact (T : Txt K mg base) : Fn P w K mg base "contact" 5 ["kind", "view"] (sp_contact K) := by
  obtain ⟨fd, F⟩ := T.d_contact
  have S := sc_contact
  refine ⟨_, fd, fam_ok F S (fun _ => rfl) 7 rfl (fun cdv A0 outer s H E hr => ?_), T.g_contact, F.kp, FunD.bindsN F fun _ _ _ _ _ _ us hl => match us, hl with | [_, _], _ => rfl⟩
  refine ⟨_, (pss_cons (ps_asg (xIx (K := K) (pv 1) pe_int (fun _ _ => rfl)) (xGtup (K := K) (n := 3) rfl (pgs_cons (pg_name (i := 2) S.nd rfl (Or.inl rfl)) (pgs_cons (pg_name (i := 3) S.nd rfl (Or.inl rfl)) (pgs_cons (pg_name (i := 4) S.nd rfl (Or.inl rfl)) pgs_nil)))))
    (pss_cons (ps_if (pt_cmpR oEq (pv 0) pe_str (nomark _)) pss_never pss_nil)
    (pss_cons (ps_asg (xIx (K := K) (pv 1) pe_int (fun _ _ => rfl)) (xGtup (K := K) (n := 3) rfl (pgs_cons (pg_name (i := 5) S.nd rfl (Or.inl rfl)) (pgs_cons (pg_name (i := 6) S.nd rfl (Or.inl rfl)) (pgs_cons (pg_name (i := 7) S.nd rfl (Or.inl rfl)) pgs_nil)))))
    (pss_cons (ps_set (i := 8) S.nd rfl (Or.inl rfl) (pe_fn (ok_line_gap (K := K) T) (hr.mono (by decide)) rfl (pa_cons (pv 2) (pa_cons (pv 5) pa_nil))))
    (pss_cons (ps_if (pt_val (xMt (K := K) T.c_Gap (ok_Gap_beyond (K := K) T) (hr.mono (by decide)) (pv 8) (pa_cons (pe_op oAdd (pe_op oAdd (pe_op oAdd (pv 3) (pv 6)) (pv 4)) (pv 7)) pa_nil))) (pss_one (ps_ret pe_str)) pss_nil)
    (pss_one (ps_ret (pe_ifExp (pt_val (xMt (K := K) T.c_Gap (ok_Gap_within (K := K) T) (hr.mono (by decide)) (pv 8) (pa_cons (pe_op oSub (pe_op oSub (pe_op oAdd (pv 3) (pv 6)) (pv 4)) (pv 7)) pa_nil))) pe_str pe_str)))))))), fun z hz B Nx Rt Bk Ct k => ?_⟩
  refine go_seq (go_tup3 (p := z.1) (ev_ixTc (ev_var rfl) rfl) ?_)
  refine go_seq (go_ifF (et_is (et_test (ev_eqS (ev_var rfl) ev_str)) (by decide)) (go_next ?_))
  refine go_seq (go_tup3 (p := z.2) (ev_ixTc (ev_var rfl) rfl) ?_)
  refine go_seq (go_asgX (e_line_gap (ev_var rfl) (ev_var rfl)) fun gg _ => ?_)
  refine go_seq (go_ifX (etx_B (ev_meth (C := "Gap") (ι := Gp × Int) (gg, _) (ev_var rfl) (z_Gap_beyond _ _ _) (ea_cons (ev_le (ev_add (ev_add (ev_add (ev_var rfl) (ev_var rfl)) (ev_var rfl)) (ev_var rfl)) (by decide)) ea_nil) rfl trivial)) (go_ret (ev_ex ev_str trivial) k) (go_next ?_))
  exact go_ret (ev_ifX (etx_B (ev_meth (C := "Gap") (ι := Gp × Int) (gg, _) (ev_var rfl) (z_Gap_within _ _ _) (ea_cons (ev_le (ev_sub (ev_sub (ev_add (ev_var rfl) (ev_var rfl)) (ev_var rfl)) (ev_var rfl)) (by decide)) ea_nil) rfl trivial)) (ev_ex ev_str trivial) (ev_ex ev_str trivial)) k
theorem tV_small {n : Nat} {q : V3} (h : greatest q ≤ 1048576) (F : Hp) (v : V) (r : ((tV K n).en q).ok F v) : ((tV K 24).en q).ok F v := by
  have hb : bd 24 q.1 ∧ bd 24 q.2.1 ∧ bd 24 q.2.2 := by
    unfold greatest iabs at h
    unfold bd
    omega
  obtain ⟨a, vs, ea, hs, r⟩ := r
  refine ⟨a, vs, ea, hs, ?_⟩
  cases r with
  | cons r1 r => cases r with
    | cons r2 r => cases r with
      | cons r3 r => cases r with
        | nil => exact .cons ⟨r1.1, hb.1⟩ (.cons ⟨r2.1, hb.2.1⟩ (.cons ⟨r3.1, hb.2.2⟩ .nil))
theorem views_len {m : Mr} (h : MrOk m) (p : Part) (hs : List Int) : (views m p hs).length ≤ 144 := by
  unfold views; rw [List.length_map]; exact pairs_len h
def leafAt (m : Mr) (ways : List V3) (p : Part) (i : Nat) : Bool := decide (greatest (ways.getD i default) ≤ 1048576) && partedB ((views m p (halves m.move p.1)).getD i default) (ways.getD i default)
abbrev tWs (K : PySem.W.Frag) : Ty (List V3) := yTupL K (tV K 27000)
theorem sc_is_leaf_right : FnScope ["matter", "ways", "first", "second", "views", "k"] ["matter", "ways", "first", "second"] (defScope s_is_leaf_right) := ⟨rfl, rfl, rfl, by decide +kernel, rfl, by decide +kernel, by decide +kernel⟩
def sp_is_leaf_right (K : PySem.W.Frag) : Sp := spFam (fun (z : Mr × List V3 × Part × Part) => [(tMt K).en z.1, (tWs K).en z.2.1, (tPt K).en z.2.2.1, (tPt K).en z.2.2.2]) (fun z => MrOk z.1 ∧ PartOk z.2.2.1 ∧ z.2.1.length ≤ 1000) (fun z => tBl.en (leafB z.1 z.2.1 z.2.2.1))
theorem ok_is_leaf_right (T : Txt K mg base) : Fn P w K mg base "is_leaf_right" 7 ["matter", "ways", "first", "second"] (sp_is_leaf_right K) := by
  obtain ⟨fd, F⟩ := T.d_is_leaf_right
  have S := sc_is_leaf_right
  refine ⟨_, fd, fam_ok F S (fun _ => rfl) 2 rfl (fun cdv A0 outer s H E hr => ?_), T.g_is_leaf_right, F.kp, FunD.bindsN F fun _ _ _ _ _ _ us hl => match us, hl with | [_, _, _, _], _ => rfl⟩
  refine ⟨_, (pss_cons (ps_set (i := 4) S.nd rfl (Or.inl rfl) (xMtk (K := K) T.c_Matter (ok_Matter_views (K := K) T) (hr.mono (by decide)) (pv 0) (pa_cons (pv 2) (pa_cons (pv 3) pa_nil)) (pk_cons pe_bl pk_nil)))
    (pss_cons (ps_if (pt_cmpR oNe (pe_callB (xLen (K := K)) (by rfl) T.z_len (by decide +kernel) (pa_cons (pv 1) pa_nil)) (pe_callB (xLen (K := K)) (by rfl) T.z_len (by decide +kernel) (pa_cons (pv 4) pa_nil)) (nomark _)) (pss_one (ps_ret pe_bl)) pss_nil)
    (pss_cons (ps_for PassesOwn.never rfl (pi_range1 rfl T.z_range (pa_cons (pe_callB (xLen (K := K)) (by rfl) T.z_len (by decide +kernel) (pa_cons (pv 4) pa_nil)) pa_nil)) (pg_name (i := 5) S.nd rfl (Or.inl rfl)) (pss_one (ps_if (PW.pt (pw_or (pt_cmpR oGt (pe_fn (ok_greatest (K := K) T) (hr.mono (by decide)) rfl (pa_cons (xIx (K := K) (pv 1) (pv 5) (fun _ _ => rfl)) pa_nil)) (pe_gi (T.i_MOST)) (nomark _)) (pw_or1 (pt_not (pt_val (pe_fn (ok_is_parted (K := K) T) (hr.mono (by decide)) rfl (pa_cons (xFld (K := K) (pv 0) rfl) (pa_cons (xIx (K := K) (pv 4) (pv 5) (fun _ _ => rfl)) (pa_cons (xIx (K := K) (pv 1) (pv 5) (fun _ _ => rfl)) pa_nil))))))))) (pss_one (ps_ret pe_bl)) pss_nil)))
    (pss_one (ps_ret pe_bl))))), fun z hz B Nx Rt Bk Ct k => ?_⟩
  obtain ⟨m, ways, p1, p2⟩ := z
  (try dsimp only at hz k ⊢)
  obtain ⟨hm, hp, hw⟩ := hz
  refine go_seq (go_asg (e1 := (yLstL K (tVw K)).en (views m p1 (halves m.move p1.1))) (ev_is (e_views T (b := false) (ev_var rfl) (ev_var rfl) (ev_var rfl) ev_bl hm hp) rfl) ?_)
  have hvl := views_len hm p1 (halves m.move p1.1)
  refine go_seq (go_if (et_test (ev_neI (ev_lenTL (ev_var rfl) (by omega)) (ev_lenLL (ev_var rfl) (by omega)))) (fun hb => go_ret (ev_is ev_bl ?_) k) (fun hb => go_next ?_))
  · unfold leafB
    rw [decide_eq_false (by intro e; rw [e] at hb; simp at hb)]; rfl
  have hle : ways.length = (views m p1 (halves m.move p1.1)).length := by
    have := of_decide_eq_true (show decide ((ways.length : Int) = ((views m p1 (halves m.move p1.1)).length : Int)) = true by rw [Bool.not_eq_false'] at hb; exact hb)
    omega
  have hleaf : leafB m ways p1 = (List.range (views m p1 (halves m.move p1.1)).length).all (leafAt m ways p1) := by
    unfold leafB
    rw [decide_eq_true hle, Bool.true_and]; rfl
  refine go_seq (go_forR1 (N := (views m p1 (halves m.move p1.1)).length) (fun i G' => (∀ t, t < i → leafAt m ways p1 t = true) ∧ G' = ⟨startG [(tMt K).en m, (tWs K).en ways, (tPt K).en p1, (tPt K).en p2, (yLstL K (tVw K)).en (views m p1 (halves m.move p1.1))] 1, .no⟩) _ (ea_cons (ev_lenLL (ev_var rfl) (by omega)) ea_nil) (by omega) (LeC.refl _) ⟨fun t ht => absurd ht (Nat.not_lt_zero t), rfl⟩ (fun i G' ⟨_, h⟩ => by subst h; exact trivial) (fun i G' hi ⟨h1, h⟩ => ?_) (fun G' ⟨h1, h⟩ => ?_))
  · subst h
    refine go_if (b := !leafAt m ways p1 i) (et_is (et_or (et_test (ev_gt (e_greatest (ev_atT (ev_var rfl) (ev_var rfl) (by omega))) (ev_int64 (by decide)))) (fun hf => et_not (et_B (ev_call (ι := View × V3) ((views m p1 (halves m.move p1.1)).getD i default, ways.getD i default) (ea_cons (f_Matter_kind T (ev_var rfl)) (ea_cons (ev_atL (ev_var rfl) (ev_var rfl) hi) (ea_cons ((ev_atT (ev_var rfl) (ev_var rfl) (by omega)).sub (tV_small (by have := of_decide_eq_false hf; omega))) ea_nil))) trivial)))) ?_) (fun hb => go_ret (ev_is ev_bl ?_) k) (fun hb => go_next (go_inv _ ⟨fun t ht => ?_, rfl⟩ (by walk_at "wk")))
    · unfold leafAt
      rw [Bool.not_and]
      congr 1
      rw [← decide_not]
      exact decide_eq_decide.mpr (by omega)
    · rw [hleaf]
      have hb' : leafAt m ways p1 i = false := by rw [Bool.not_eq_true'] at hb; exact hb
      symm
      refine Bool.eq_false_iff.mpr fun e => ?_
      have := List.all_eq_true.mp e i (List.mem_range.mpr hi)
      rw [hb'] at this
      cases this
    · rcases Nat.lt_succ_iff_lt_or_eq.mp ht with h2 | h2
      · exact h1 t h2
      · subst h2; rw [Bool.not_eq_false'] at hb; exact hb
  · subst h
    refine go_ret (ev_is ev_bl ?_) k
    rw [hleaf]
    exact (List.all_eq_true.mpr fun t ht => h1 t (List.mem_range.mp ht)).symm
theorem e_is_leaf_right (T : Txt K mg base) {G : Ctx} {ta tb tc td : TE} {m : Mr} {ws : List V3} {p q : Part} (h1 : Ev ta G ((tMt K).en m)) (h2 : Ev tb G ((tWs K).en ws)) (h3 : Ev tc G ((tPt K).en p)) (h4 : Ev td G ((tPt K).en q)) (hm : MrOk m) (hp : PartOk p) (hw : ws.length ≤ 1000) : Ev (tCall (sp_is_leaf_right K) [] E0 (tCons ta (tCons tb (tCons tc (tCons td tNil))))) G (tBl.en (leafB m ws p)) :=
  ev_call (ι := Mr × List V3 × Part × Part) (m, ws, p, q) (ea_cons h1 (ea_cons h2 (ea_cons h3 (ea_cons h4 ea_nil)))) ⟨hm, hp, hw⟩
/-! trees -/
def trRel (K : PySem.W.Frag) (F : Hp) : V → Tree → Prop
  | v, .leaf ws => ((yTup K fun ws => [tStr.en "leaf", (tWs K).en ws]).en ws).ok F v ∧ ws.length ≤ 1000
  | v, .node l h => ∃ a x y, v = .ref a ∧ SqT K F a [.str "first", x, y] ∧ trRel K F x l ∧ trRel K F y h
theorem trRel_mono {F F' : Hp} (s : Same F F') : ∀ (t : Tree) (v : V), trRel K F v t → trRel K F' v t
  | .leaf ws, v, h => ⟨Ent.mono _ s h.1, h.2⟩
  | .node l h, v, ⟨a, x, y, e, q, r1, r2⟩ => ⟨a, x, y, e, sameT s q, trRel_mono s l x r1, trRel_mono s h y r2⟩
def tTr (K : PySem.W.Frag) : Ty Tree := ⟨fun F v t => trRel K F v t, fun {F F' v x} s h => trRel_mono s x v h⟩
abbrev tLf (K : PySem.W.Frag) : Ty (List V3) := yTup K fun ws => [tStr.en "leaf", (tWs K).en ws]
abbrev tNd (K : PySem.W.Frag) : Ty (Tree × Tree) := yTup K fun p => [tStr.en "first", (tTr K).en p.1, (tTr K).en p.2]
theorem tr_leaf {ws : List V3} (F : Hp) (v : V) (h : ((tTr K).en (.leaf ws)).ok F v) : ((tLf K).en ws).ok F v := h.1
theorem tr_leafL {ws : List V3} (F : Hp) (v : V) (h : ((tTr K).en (.leaf ws)).ok F v) : ws.length ≤ 1000 := h.2
theorem tr_node {l h : Tree} (F : Hp) (v : V) (r : ((tTr K).en (.node l h)).ok F v) : ((tNd K).en (l, h)).ok F v := by
  obtain ⟨a, x, y, e, q, r1, r2⟩ := r
  exact ⟨a, _, e, q, .cons rfl (.cons r1 (.cons r2 .nil))⟩
theorem tr_ofLeaf {ws : List V3} (hl : ws.length ≤ 1000) (F : Hp) (v : V) (h : ((tLf K).en ws).ok F v) : ((tTr K).en (.leaf ws)).ok F v := ⟨h, hl⟩
theorem tr_ofNode {l h : Tree} (F : Hp) (v : V) (r : ((tNd K).en (l, h)).ok F v) : ((tTr K).en (.node l h)).ok F v := by
  obtain ⟨a, vs, e, q, r⟩ := r
  cases r with
  | cons r1 r => cases r with
    | cons r2 r => cases r with
      | cons r3 r => cases r with
        | nil =>
          have e1 : _ = V.str "first" := r1
          subst e1
          exact ⟨a, _, _, e, q, r2, r3⟩
def sp_is_right (N : Nat) (K : PySem.W.Frag) : Sp := spFam (fun (z : Mr × Tree × Part × Part × Nat) => [(tMt K).en z.1, (tTr K).en z.2.1, (tPt K).en z.2.2.1, (tPt K).en z.2.2.2.1, (tI 64).en (z.2.2.2.2 : Int)]) (fun z => MrOk z.1 ∧ PartOk z.2.2.1 ∧ z.2.2.1.1 + z.2.2.2.2 ≤ 20 ∧ z.2.1.depth ≤ N) (fun z => tBl.en (rightB z.1 z.2.1 z.2.2.1 z.2.2.2.2))
theorem sc_is_right : FnScope ["matter", "tree", "first", "second", "left", "low"] ["matter", "tree", "first", "second", "left"] (defScope s_is_right) := ⟨rfl, rfl, rfl, by decide +kernel, rfl, by decide +kernel, by decide +kernel⟩
theorem ok_is_right0 (T : Txt K mg base) : Fn P w K mg base "is_right" 8 ["matter", "tree", "first", "second", "left"] (sp_is_right 0 K) := by
  obtain ⟨fd, F⟩ := T.d_is_right
  have S := sc_is_right
  refine ⟨_, fd, fam_ok F S (fun _ => rfl) 1 rfl (fun cdv A0 outer s H E hr => ?_), T.g_is_right, F.kp, FunD.bindsN F fun _ _ _ _ _ _ us hl => match us, hl with | [_, _, _, _, _], _ => rfl⟩
  refine ⟨_, (pss_cons (ps_if (pt_cmpR oEq (xIx (K := K) (pv 1) pe_int (fun _ _ => rfl)) pe_str (nomark _)) (pss_one (ps_ret (pe_fn (ok_is_leaf_right (K := K) T) (hr.mono (by decide)) rfl (pa_cons (pv 0) (pa_cons (xIx (K := K) (pv 1) pe_int (fun _ _ => rfl)) (pa_cons (pv 2) (pa_cons (pv 3) pa_nil))))))) pss_nil)
    pss_never), fun z hz B Nx Rt Bk Ct k => ?_⟩
  obtain ⟨m, tree, p1, p2, left⟩ := z
  (try dsimp only at hz k ⊢)
  obtain ⟨hm, hp, hpl, hd⟩ := hz
  cases tree with
  | node l h => simp only [Tree.depth] at hd; omega
  | leaf ws =>
    refine go_fact (i := 1) rfl tr_leafL fun hwl => ?_
    refine Go.le ?_ (LeC.retype (i := 1) rfl tr_leaf)
    refine go_seq (go_ifT (et_is (et_test (ev_eqS (ev_ixTc (ev_var rfl) rfl) ev_str)) (by decide)) (go_ret (ev_is (e_is_leaf_right T (ev_var rfl) (ev_ixTc (ev_var rfl) rfl) (ev_var rfl) (ev_var rfl) hm hp hwl) (by unfold rightB; rfl)) k))

theorem ok_is_rightS (T : Txt K mg base) {N : Nat} (ih : Fn P w K mg base "is_right" (8 + N) ["matter", "tree", "first", "second", "left"] (sp_is_right N K)) : Fn P w K mg base "is_right" (8 + (N + 1)) ["matter", "tree", "first", "second", "left"] (sp_is_right (N + 1) K) := by
  obtain ⟨fd, F⟩ := T.d_is_right
  have S := sc_is_right
  refine ⟨_, fd, fam_ok F S (fun _ => rfl) 1 rfl (fun cdv A0 outer s H E hr => ?_), T.g_is_right, F.kp, FunD.bindsN F fun _ _ _ _ _ _ us hl => match us, hl with | [_, _, _, _, _], _ => rfl⟩
  refine ⟨_, (pss_cons (ps_if (pt_cmpR oEq (xIx (K := K) (pv 1) pe_int (fun _ _ => rfl)) pe_str (nomark _)) (pss_one (ps_ret (pe_fn (ok_is_leaf_right (K := K) T) (hr.mono (Nat.le_trans (by decide) (Nat.le_add_right 8 N))) rfl (pa_cons (pv 0) (pa_cons (xIx (K := K) (pv 1) pe_int (fun _ _ => rfl)) (pa_cons (pv 2) (pa_cons (pv 3) pa_nil))))))) pss_nil)
    (pss_cons (ps_if (pt_cmpR oEq (pv 4) pe_int (nomark _)) (pss_one (ps_ret pe_bl)) pss_nil)
    (pss_cons (ps_if (pt_cmpR oEq (xIx (K := K) (pv 1) pe_int (fun _ _ => rfl)) pe_str (nomark _)) (pss_cons (ps_set (i := 5) S.nd rfl (Or.inl rfl) (pe_fn ih (hr.mono (Nat.le_refl _)) rfl (pa_cons (pv 0) (pa_cons (xIx (K := K) (pv 1) pe_int (fun _ _ => rfl)) (pa_cons (pe_fn (ok_lower (K := K) T) (hr.mono (Nat.le_trans (by decide) (Nat.le_add_right 8 N))) rfl (pa_cons (pv 2) pa_nil)) (pa_cons (pv 3) (pa_cons (pe_op oSub (pv 4) pe_int) pa_nil)))))))
    (pss_one (ps_ret (pe_and (pv 5) (pe_one (pe_fn ih (hr.mono (Nat.le_refl _)) rfl (pa_cons (pv 0) (pa_cons (xIx (K := K) (pv 1) pe_int (fun _ _ => rfl)) (pa_cons (pe_fn (ok_upper (K := K) T) (hr.mono (Nat.le_trans (by decide) (Nat.le_add_right 8 N))) rfl (pa_cons (pv 2) pa_nil)) (pa_cons (pv 3) (pa_cons (pe_op oSub (pv 4) pe_int) pa_nil))))))))))) pss_nil)
    pss_never))), fun z hz B Nx Rt Bk Ct k => ?_⟩
  obtain ⟨m, tree, p1, p2, left⟩ := z
  (try dsimp only at hz k ⊢)
  obtain ⟨hm, hp, hpl, hd⟩ := hz
  cases tree with
  | leaf ws =>
    refine go_fact (i := 1) rfl tr_leafL fun hwl => ?_
    refine Go.le ?_ (LeC.retype (i := 1) rfl tr_leaf)
    refine go_seq (go_ifT (et_is (et_test (ev_eqS (ev_ixTc (ev_var rfl) rfl) ev_str)) (by decide)) (go_ret (ev_is (e_is_leaf_right T (ev_var rfl) (ev_ixTc (ev_var rfl) rfl) (ev_var rfl) (ev_var rfl) hm hp hwl) (by unfold rightB; rfl)) k))
  | node l h =>
    have hdl : l.depth ≤ N ∧ h.depth ≤ N := by simp only [Tree.depth] at hd; omega
    refine Go.le ?_ (LeC.retype (i := 1) rfl tr_node)
    refine go_seq (go_ifF (et_is (et_test (ev_eqS (ev_ixTc (ev_var rfl) rfl) ev_str)) (by decide)) (go_next ?_))
    cases left with
    | zero =>
      refine go_seq (go_ifT (et_is (et_test (ev_eqI (ev_var rfl) (ev_int64 (by decide)))) (by decide)) (go_ret (ev_is ev_bl (by unfold rightB; rfl)) k))
    | succ n =>
      have hlt : p1.1 < 20 := by omega
      have hp0 : 0 ≤ p1.1 := hp.1
      obtain ⟨ho1, ho2⟩ := lower_ok hp hlt
      refine go_seq (go_ifF (et_is (et_test (ev_eqI (ev_var rfl) (ev_int64 (by decide)))) (decide_eq_false (by omega))) (go_next ?_))
      refine go_seq (go_ifT (et_is (et_test (ev_eqS (ev_ixTc (ev_var rfl) rfl) ev_str)) (by decide)) ?_)
      refine go_seq (go_asg (ev_call (ι := Mr × Tree × Part × Part × Nat) (m, l, lower p1, p2, n) (ea_cons (ev_var rfl) (ea_cons (ev_ixTc (ev_var rfl) rfl) (ea_cons (ev_call (ι := Part) p1 (ea_cons (ev_var rfl) ea_nil) ⟨hp, hlt⟩) (ea_cons (ev_var rfl) (ea_cons (ev_narrow (ev_is (ev_sub (ev_var rfl) (ev_int64 (by decide))) (show ((n + 1 : Nat) : Int) - 1 = (n : Int) by omega)) (bd64 (by show _ < (n : Int); omega) (by show (n : Int) < _; omega))) ea_nil))))) ⟨hm, ho1, (by show p1.1 + 1 + (n : Int) ≤ 20; omega), hdl.1⟩) ?_)
      refine go_ret (ev_is (ev_andV (ev_var rfl) (fun _ => ev_call (ι := Mr × Tree × Part × Part × Nat) (m, h, upper p1, p2, n) (ea_cons (ev_var rfl) (ea_cons (ev_ixTc (ev_var rfl) rfl) (ea_cons (ev_call (ι := Part) p1 (ea_cons (ev_var rfl) ea_nil) ⟨hp, hlt⟩) (ea_cons (ev_var rfl) (ea_cons (ev_narrow (ev_is (ev_sub (ev_var rfl) (ev_int64 (by decide))) (show ((n + 1 : Nat) : Int) - 1 = (n : Int) by omega)) (bd64 (by show _ < (n : Int); omega) (by show (n : Int) < _; omega))) ea_nil))))) ⟨hm, ho2, (by show p1.1 + 1 + (n : Int) ≤ 20; omega), hdl.2⟩)) (by conv => rhs; unfold rightB)) k
theorem ok_is_right (T : Txt K mg base) : ∀ N : Nat, Fn P w K mg base "is_right" (8 + N) ["matter", "tree", "first", "second", "left"] (sp_is_right N K)
  | 0 => ok_is_right0 T
  | N + 1 => ok_is_rightS T (ok_is_right T N)
theorem whole_ok : PartOk (0, 0) := ⟨by decide, by decide, by decide, by decide⟩
theorem ev_whole (T : Txt K mg base) {G : Ctx} : Ev (tC (.ref (He.ga K "WHOLE"))) G ((tPt K).en (0, 0)) := ev_const fun F => ⟨_, _, rfl, T.t_WHOLE F, .cons ⟨rfl, by decide⟩ (.cons ⟨rfl, by decide⟩ .nil)⟩
theorem sc_judge : FnScope ["matter", "tree"] ["matter", "tree"] (defScope s_judge) := ⟨rfl, rfl, rfl, by decide +kernel, rfl, by decide +kernel, by decide +kernel⟩
def sp_judge (K : PySem.W.Frag) : Sp := spFam (fun (z : Mr × Tree) => [(tMt K).en z.1, (tTr K).en z.2]) (fun z => MrOk z.1 ∧ z.2.depth ≤ 6) (fun z => tBl.en (rightB z.1 z.2 (0, 0) 20))
theorem ok_judge (T : Txt K mg base) : Fn P w K mg base "judge" 15 ["matter", "tree"] (sp_judge K) := by
  obtain ⟨fd, F⟩ := T.d_judge
  have S := sc_judge
  refine ⟨_, fd, fam_ok F S (fun _ => rfl) 0 rfl (fun cdv A0 outer s H E hr => ?_), T.g_judge, F.kp, FunD.bindsN F fun _ _ _ _ _ _ us hl => match us, hl with | [_, _], _ => rfl⟩
  refine ⟨_, (pss_one (ps_ret (pe_fn (ok_is_right (K := K) T 6) (hr.mono (by decide)) rfl (pa_cons (pv 0) (pa_cons (pv 1) (pa_cons (pe_ga T.g_WHOLE) (pa_cons (pe_ga T.g_WHOLE) (pa_cons (pe_gi (T.i_DEEPEST)) pa_nil)))))))), fun z hz B Nx Rt Bk Ct k => ?_⟩
  exact go_ret (ev_call (ι := Mr × Tree × Part × Part × Nat) (z.1, z.2, (0, 0), (0, 0), 20) (ea_cons (ev_var rfl) (ea_cons (ev_var rfl) (ea_cons (ev_whole T) (ea_cons (ev_whole T) (ea_cons (ev_int64 (by decide)) ea_nil))))) ⟨hz.1, whole_ok, (by show (0 : Int) + ((20 : Nat) : Int) ≤ 20; decide), hz.2⟩) k
end
section
variable {P : Program} {w : World} {K : PySem.W.Frag} {mg : Str → Option Value} {base : Heap}
def tAny : Ty Unit := ⟨fun _ _ _ => True, fun _ _ => trivial⟩
theorem ev_any {te : TE} {G : Ctx} {t : Ent} (h : Ev te G t) : Ev te G (tAny.en ()) := h.sub fun _ _ _ => trivial
inductive Vd where
  | clear (t : Tree) (n : Int)
  | bad (w : Str) (n : Int)
  deriving Inhabited
def Vd.word : Vd → Str
  | .clear _ _ => "clear"
  | .bad w _ => w
def Vd.looked : Vd → Int
  | .clear _ n => n
  | .bad _ n => n
def Vd.treeE (K : PySem.W.Frag) : Vd → Ent
  | .clear t _ => (tTr K).en t
  | .bad _ _ => tAny.en ()
def vdF (K : PySem.W.Frag) (x : Vd) : List (Str × Ent) := [("word", tStr.en x.word), ("tree", x.treeE K), ("at", tAny.en ()), ("looked", (tI 64).en x.looked)]
def tVd (K : PySem.W.Frag) : Ty Vd := yObj K "Verdict" (vdF K) fun _ => True
theorem f_Verdict_word (T : Txt K mg base) {G : Ctx} {ta : TE} {o : Vd} (h : Ev ta G ((tVd K).en o)) : Ev (tFld K ta "word") G (tStr.en o.word) := ev_fld (C := "Verdict") h T.c_Verdict T.n_Verdict_word (show (vdF K o).lookup ("word" : Str) = _ by kernel_rfl)
theorem f_Verdict_tree (T : Txt K mg base) {G : Ctx} {ta : TE} {o : Vd} (h : Ev ta G ((tVd K).en o)) : Ev (tFld K ta "tree") G (o.treeE K) := ev_fld (C := "Verdict") h T.c_Verdict T.n_Verdict_tree (show (vdF K o).lookup ("tree" : Str) = _ by kernel_rfl)
theorem f_Verdict_at (T : Txt K mg base) {G : Ctx} {ta : TE} {o : Vd} (h : Ev ta G ((tVd K).en o)) : Ev (tFld K ta "at") G (tAny.en ()) := ev_fld (C := "Verdict") h T.c_Verdict T.n_Verdict_at (show (vdF K o).lookup ("at" : Str) = _ by kernel_rfl)
theorem f_Verdict_looked (T : Txt K mg base) {G : Ctx} {ta : TE} {o : Vd} (h : Ev ta G ((tVd K).en o)) : Ev (tFld K ta "looked") G ((tI 64).en o.looked) := ev_fld (C := "Verdict") h T.c_Verdict T.n_Verdict_looked (show (vdF K o).lookup ("looked" : Str) = _ by kernel_rfl)
theorem sc_Verdict_init : FnScope ["self", "word", "tree", "at", "looked"] ["self", "word", "tree", "at", "looked"] (defScope s_Verdict_init) := ⟨rfl, rfl, rfl, by decide +kernel, rfl, by decide +kernel, by decide +kernel⟩
def sp_Verdict_init (K : PySem.W.Frag) : Sp := spMk (fun (z : Vd) => [tStr.en z.word, z.treeE K, tAny.en (), (tI 64).en z.looked]) (fun _ => True) (He.ga K "Verdict") (vdF K)
theorem mk_Verdict (T : Txt K mg base) : Mc P w K mg base "Verdict" 1 ["self", "word", "tree", "at", "looked"] (sp_Verdict_init K) [] := by
  obtain ⟨fd, F⟩ := T.d_Verdict_init
  have S := sc_Verdict_init
  refine ⟨_, fd, [], mk_ok F S (fun _ => rfl) 0 rfl (fun cdv A0 outer s H E hr => ?_), T.k_Verdict, T.g_Verdict, FunD.bindsN F fun _ _ _ _ _ _ us hl => match us, hl with | [_, _, _, _, _], _ => rfl, .nil⟩
  refine ⟨_, (pss_cons (xSfld (K := K) (pv 0) (pv 1) rfl)
    (pss_cons (xSfld (K := K) (pv 0) (pv 2) rfl)
    (pss_cons (xSfld (K := K) (pv 0) (pv 3) rfl)
    (pss_one (xSfld (K := K) (pv 0) (pv 4) rfl))))), fun z hz B Nx Rt Bk Ct k => ?_⟩
  refine go_seq (go_fld T.c_Verdict T.n_Verdict_word (ev_var rfl) (by kernel_rfl) (Nat.le_of_ble_eq_true rfl) ?_)
  refine go_seq (go_fld T.c_Verdict T.n_Verdict_tree (ev_var rfl) (by kernel_rfl) (Nat.le_of_ble_eq_true rfl) ?_)
  refine go_seq (go_fld T.c_Verdict T.n_Verdict_at (ev_var rfl) (by kernel_rfl) (Nat.le_of_ble_eq_true rfl) ?_)
  refine (go_fld T.c_Verdict T.n_Verdict_looked (ev_var rfl) (by kernel_rfl) (Nat.le_of_ble_eq_true rfl) ?_)
  exact go_fin k
theorem e_Verdict {G : Ctx} {ta tb tc td : TE} (z : Vd) (h1 : Ev ta G (tStr.en z.word)) (h2 : Ev tb G (z.treeE K)) (h3 : Ev tc G (tAny.en ())) (h4 : Ev td G ((tI 64).en z.looked)) : Ev (tMake (He.ga K "Verdict") (sp_Verdict_init K) [] E0 (tCons ta (tCons tb (tCons tc (tCons td tNil))))) G ((tVd K).en z) :=
  ev_make (des := []) z z (ea_cons h1 (ea_cons h2 (ea_cons h3 (ea_cons h4 ea_nil)))) (fun _ => .nil) rfl trivial rfl trivial
/-- what a verdict says -/
def VdOk (m : Mr) (p : Part) (left : Nat) : Vd → Prop
  | .clear t n => t.depth ≤ left ∧ (∀ f, t.depth ≤ f → rightB m t p f = true) ∧ 1 ≤ n ∧ n < 2 ^ (left + 1) ∧ (pairs m = [] → t = .leaf [] ∧ n = 1)
  | .bad w n => (w = "meets" ∨ w = "open") ∧ 1 ≤ n ∧ n < 2 ^ (left + 1) ∧ pairs m ≠ []
def LkOk (m : Mr) (p : Part) (left : Nat) : Option Vd → Prop
  | some v => VdOk m p left v
  | none => left ≠ 0 ∧ pairs m ≠ []
theorem VdOk.n {m : Mr} {p : Part} {l : Nat} {v : Vd} (h : VdOk m p l v) : 1 ≤ v.looked ∧ v.looked < 2 ^ (l + 1) := by
  cases v with
  | clear t n => exact ⟨h.2.2.1, h.2.2.2.1⟩
  | bad w n => exact ⟨h.2.1, h.2.2.1⟩
theorem oks_ex {F : Hp} {α : Type} {A : Ty α} {P : α → Prop} : ∀ {vs : List V} {us : List Unit}, Oks F vs (us.map fun u => (tEx A P).en u) → ∃ xs : List α, xs.length = us.length ∧ Oks F vs (xs.map fun x => A.en x)
  | [], [], _ => ⟨[], rfl, .nil⟩
  | v :: vs, u :: us, .cons ⟨x, r, _⟩ t => by
    obtain ⟨xs, hl, h⟩ := oks_ex t
    exact ⟨x :: xs, by rw [List.length_cons, List.length_cons, hl], .cons r h⟩
theorem ex_tup {α : Type} {A : Ty α} {P : α → Prop} {us : List Unit} (F : Hp) (v : V) (h : ((yTupL K (tEx A P)).en us).ok F v) : ((tEx (yTupL K A) fun xs => xs.length = us.length).en ()).ok F v := by
  obtain ⟨a, vs, e, hs, r⟩ := h
  obtain ⟨xs, hl, h⟩ := oks_ex r
  exact ⟨xs, ⟨a, vs, e, hs, h⟩, hl⟩
theorem et_orXT {t u : TT} {G : Ctx} (h1 : EvTX t G) (h2 : EvT u G true) : EvT (tOr t u) G true := fun B σ F H a Q q => h1 B σ F H a _ fun b F1 H1 g => by
  cases b with
  | true => exact q F1 H1 g
  | false => exact h2 B σ F1 H1 (a.grow g) Q fun F2 H2 g2 => q F2 H2 (g.trans g2)
theorem leafB_nil {m : Mr} {p : Part} (h : pairs m = []) {ws : List V3} (hl : ws.length = (views m p (halves m.move p.1)).length) : ws = [] ∧ leafB m ws p = true := by
  have hv : views m p (halves m.move p.1) = [] := by unfold views; rw [h]; rfl
  rw [hv] at hl
  have hw : ws = [] := List.eq_nil_of_length_eq_zero hl
  subst hw
  refine ⟨rfl, ?_⟩
  unfold leafB
  rw [hv]; rfl
theorem some_ex {te : TE} {G : Ctx} {Q : Option Vd → Prop} (x : Vd) (h : Ev te G ((tVd K).en x)) (q : Q (some x)) : Ev te G ((tEx (tOpt (tVd K)) Q).en ()) := ev_ex (ev_someO obj_ne h) q
theorem sc_halves_second : FnScope ["matter", "first", "second"] ["matter", "first", "second"] (defScope s_halves_second) := ⟨rfl, rfl, rfl, by decide +kernel, rfl, by decide +kernel, by decide +kernel⟩
def sp_halves_second (K : PySem.W.Frag) : Sp := spFam (fun (z : Mr × Part × Part) => [(tMt K).en z.1, (tPt K).en z.2.1, (tPt K).en z.2.2]) (fun _ => True) (fun _ => tBl.en false)
theorem ok_halves_second (T : Txt K mg base) : Fn P w K mg base "halves_second" 1 ["matter", "first", "second"] (sp_halves_second K) := by
  obtain ⟨fd, F⟩ := T.d_halves_second
  have S := sc_halves_second
  refine ⟨_, fd, fam_ok F S (fun _ => rfl) 0 rfl (fun cdv A0 outer s H E hr => ?_), T.g_halves_second, F.kp, FunD.bindsN F fun _ _ _ _ _ _ us hl => match us, hl with | [_, _, _], _ => rfl⟩
  refine ⟨_, (pss_cons (ps_if (pt_cmpR oNe (xFld (K := K) (pv 0) rfl) pe_str (nomark _)) (pss_one (ps_ret pe_bl)) pss_nil)
    pss_never), fun z hz B Nx Rt Bk Ct k => ?_⟩
  exact go_seq (go_ifT (et_is (et_test (ev_neS (f_Matter_kind T (ev_var rfl)) ev_str)) (by decide)) (go_ret ev_bl k))
theorem sc_look : FnScope ["matter", "first", "second", "left", "wide", "ways", "view", "words"] ["matter", "first", "second", "left"] (defScope s_look) := ⟨rfl, rfl, rfl, by decide +kernel, rfl, by decide +kernel, by decide +kernel⟩
def sp_look (K : PySem.W.Frag) : Sp := spFam (fun (z : Mr × Part × Part × Nat) => [(tMt K).en z.1, (tPt K).en z.2.1, (tPt K).en z.2.2.1, (tI 64).en (z.2.2.2 : Int)]) (fun z => MrOk z.1 ∧ PartOk z.2.1) (fun z => (tEx (tOpt (tVd K)) (LkOk z.1 z.2.1 z.2.2.2)).en ())
theorem ok_look (T : Txt K mg base) : Fn P w K mg base "look" 8 ["matter", "first", "second", "left"] (sp_look K) := by
  obtain ⟨fd, F⟩ := T.d_look
  have S := sc_look
  refine ⟨_, fd, fam_ok F S (fun _ => rfl) 4 rfl (fun cdv A0 outer s H E hr => ?_), T.g_look, F.kp, FunD.bindsN F fun _ _ _ _ _ _ us hl => match us, hl with | [_, _, _, _], _ => rfl⟩
  refine ⟨_, (pss_cons (ps_set (i := 4) S.nd rfl (Or.inl rfl) (xMtk (K := K) T.c_Matter (ok_Matter_views (K := K) T) (hr.mono (by decide)) (pv 0) (pa_cons (pv 1) (pa_cons (pv 2) pa_nil)) (pk_cons pe_bl pk_nil)))
    (pss_cons (ps_set (i := 5) S.nd rfl (Or.inl rfl) (pe_callTy (xTup (K := K)) (by rfl) T.z_tuple (by decide +kernel) (pa_cons (pe_lc (own := [("view", 6)]) (tt := tYes) rfl S.nd (xPil (K := K) (pv 4)) (blkOk_by (N := ["matter", "first", "second", "left", "wide", "ways", "view", "words"]) (sc := defScope s_look) (by decide +kernel)) (fun _ _ _ _ _ => (pg_name (i := 6) S.nd rfl (Or.inl rfl))) (fun _ _ _ _ _ => pts_nil) (fun _ _ _ _ _ => (pe_fn (ok_way_between (K := K) T) (hr.mono (by decide)) rfl (pa_cons (xFld (K := K) (pv 0) rfl) (pa_cons (pv 6) pa_nil))))) pa_nil)))
    (pss_cons (ps_if (pt_val (pe_fn (ok_is_leaf_right (K := K) T) (hr.mono (by decide)) rfl (pa_cons (pv 0) (pa_cons (pv 5) (pa_cons (pv 1) (pa_cons (pv 2) pa_nil)))))) (pss_one (ps_ret (xMc (K := K) (mk_Verdict (K := K) T) (hr.mono (by decide)) rfl (pa_cons pe_str (pa_cons (pe_tup (pa_cons pe_str (pa_cons (pv 5) pa_nil))) (pa_cons pe_non (pa_cons pe_int pa_nil))))))) pss_nil)
    (pss_cons (ps_setLc (i := 7) (own := [("view", 6)]) (tt := tYes) rfl S.nd rfl rfl (sw_true rfl rfl rfl (by decide +kernel)) (xPil (K := K) (xMtk (K := K) T.c_Matter (ok_Matter_views (K := K) T) (hr.mono (by decide)) (pv 0) (pa_cons (pv 1) (pa_cons (pv 2) pa_nil)) (pk_cons pe_bl pk_nil))) (blkOk_by (N := ["matter", "first", "second", "left", "wide", "ways", "view", "words"]) (sc := defScope s_look) (by decide +kernel)) (fun _ _ _ _ _ => (pg_name (i := 6) S.nd rfl (Or.inl rfl))) (fun _ _ _ _ _ => pts_nil) (fun _ _ _ _ _ => (pe_fn (ok_contact (K := K) T) (hr.mono (by decide)) rfl (pa_cons (xFld (K := K) (pv 0) rfl) (pa_cons (pv 6) pa_nil)))))
    (pss_cons (ps_if (pt_cmpR (xIn (K := K)) pe_str (pv 7) (by rfl)) (pss_one (ps_ret (xMc (K := K) (mk_Verdict (K := K) T) (hr.mono (by decide)) rfl (pa_cons pe_str (pa_cons pe_non (pa_cons (pe_tup (pa_cons (pv 1) (pa_cons (pv 2) pa_nil))) (pa_cons pe_int pa_nil))))))) pss_nil)
    (pss_cons (ps_if (PW.pt (pw_or (pt_cmpR (xIn (K := K)) pe_str (pv 7) (by rfl)) (pw_or1 (pt_cmpR oEq (pv 3) pe_int (nomark _))))) (pss_one (ps_ret (xMc (K := K) (mk_Verdict (K := K) T) (hr.mono (by decide)) rfl (pa_cons pe_str (pa_cons pe_non (pa_cons (pe_tup (pa_cons (pv 1) (pa_cons (pv 2) pa_nil))) (pa_cons pe_int pa_nil))))))) pss_nil)
    (pss_one (ps_ret pe_non)))))))), fun z hz B Nx Rt Bk Ct k => ?_⟩
  obtain ⟨m, p1, p2, left⟩ := z
  (try dsimp only at hz k ⊢)
  obtain ⟨hm, hp⟩ := hz
  have hvl := views_len hm p1 (halves m.move p1.1)
  have hvl2 := views_len hm p1 (hsOf m p1 true)
  have h2p : (1 : Int) < 2 ^ (left + 1) := by
    have h := Nat.one_lt_two_pow (n := left + 1) (by omega)
    have e : ((2 ^ (left + 1) : Nat) : Int) = 2 ^ (left + 1) := by simp
    omega
  refine go_seq (go_asg (e1 := (yLstL K (tVw K)).en (views m p1 (halves m.move p1.1))) (ev_is (e_views T (b := false) (ev_var rfl) (ev_var rfl) (ev_var rfl) ev_bl hm hp) rfl) ?_)
  refine go_seq (go_asgX ((ev_tupL (EvO.ev (K := K) (A := tEx (tV K 27000) fun _ => True) (eo_lcL (fun _ => ()) (ev_var rfl) (by omega) (by decide) (fun v hv => ev_call (ι := View) v (ea_cons (f_Matter_kind T (ev_var rfl)) (ea_cons (ev_var rfl) ea_nil)) trivial)))).sub ex_tup) fun ws hws => ?_)
  rw [List.length_map] at hws
  refine go_seq (go_if (b := leafB m ws p1) (et_B (e_is_leaf_right T (ev_var rfl) (ev_var rfl) (ev_var rfl) (ev_var rfl) hm hp (by omega))) (fun hb => ?_) (fun hb => go_next ?_))
  · refine go_ret (some_ex (.clear (.leaf ws) 1) (e_Verdict (.clear (.leaf ws) 1) ev_str ((ev_tup (es := fun ws => [tStr.en "leaf", (tWs K).en ws]) (ea_cons ev_str (ea_cons (ev_var rfl) ea_nil))).sub (tr_ofLeaf (by omega))) (ev_any ev_non) (ev_int64 (by decide))) ⟨Nat.zero_le _, fun f _ => ?_, by decide, h2p, fun e => ⟨?_, rfl⟩⟩) k
    · cases f <;> · unfold rightB; exact hb
    · rw [(leafB_nil e hws).1]
  have hne : pairs m ≠ [] := fun e => by
    rw [(leafB_nil e hws).2] at hb
    cases hb
  refine go_seq (go_asg (EvO.ev (K := K) (A := tEx tStr fun _ => True) (eo_lcL (fun _ => ()) (e_views T (b := true) (ev_var rfl) (ev_var rfl) (ev_var rfl) ev_bl hm hp) (by omega) (by decide) (fun v hv => ev_call (ι := View) v (ea_cons (f_Matter_kind T (ev_var rfl)) (ea_cons (ev_var rfl) ea_nil)) trivial))) ?_)
  have mk : ∀ (w : Str) (G : Ctx) (hw : w = "meets" ∨ w = "open") (h1 : G.g[1]? = some (some ((tPt K).en p1))) (h2 : G.g[2]? = some (some ((tPt K).en p2))), Ev (tMake (He.ga K "Verdict") (sp_Verdict_init K) [] E0 (tCons (tC (.str w)) (tCons (tC .non) (tCons (tTup (tCons (tVar 1) (tCons (tVar 2) tNil))) (tCons (tC (.int 1)) tNil))))) G ((tEx (tOpt (tVd K)) (LkOk m p1 left)).en ()) := fun w G hw h1 h2 =>
    some_ex (.bad w 1) (e_Verdict (.bad w 1) ev_str (ev_any ev_non) (ev_any (ev_tup (K := K) (es := fun (q : Part × Part) => [(tPt K).en q.1, (tPt K).en q.2]) (x := (p1, p2)) (ea_cons (ev_var h1) (ea_cons (ev_var h2) ea_nil)))) (ev_int64 (by decide))) ⟨hw, by decide, h2p, hne⟩
  refine go_seq (go_ifX (etx_inS (ev_var rfl)) (go_ret (mk _ _ (Or.inl rfl) rfl rfl) k) (go_next ?_))
  by_cases hl : left = 0
  · subst hl
    exact go_seq (go_ifT (et_orXT (etx_inS (ev_var rfl)) (et_is (et_test (ev_eqI (ev_var rfl) (ev_int64 (by decide)))) (by decide))) (go_ret (mk _ _ (Or.inr rfl) rfl rfl) k))
  · exact go_seq (go_ifX (etx_or (etx_inS (ev_var rfl)) (et_test (ev_eqI (ev_var rfl) (ev_int64 (by decide)))).anyB) (go_ret (mk _ _ (Or.inr rfl) rfl rfl) k) (go_next (go_ret (ev_ex ev_noneO ⟨hl, hne⟩) k)))
end
section
variable {P : Program} {w : World} {K : PySem.W.Frag} {mg : Str → Option Value} {base : Heap}
theorem f_word_bad (T : Txt K mg base) {G : Ctx} {ta : TE} {w : Str} {n : Int} (h : Ev ta G ((tVd K).en (.bad w n))) : Ev (tFld K ta "word") G (tStr.en w) := f_Verdict_word T h
theorem f_tree_clear (T : Txt K mg base) {G : Ctx} {ta : TE} {t : Tree} {n : Int} (h : Ev ta G ((tVd K).en (.clear t n))) : Ev (tFld K ta "tree") G ((tTr K).en t) := f_Verdict_tree T h
theorem pow_int (n : Nat) : (2 : Int) ^ (n + 1) = 2 * 2 ^ n := by rw [Int.pow_succ]; omega
theorem rightB_node {m : Mr} {p : Part} {l h : Tree} (h1 : ∀ f, l.depth ≤ f → rightB m l (lower p) f = true) (h2 : ∀ f, h.depth ≤ f → rightB m h (upper p) f = true) : ∀ f, (Tree.node l h).depth ≤ f → rightB m (.node l h) p f = true := fun f hf => by
  cases f with
  | zero => simp only [Tree.depth] at hf; omega
  | succ n =>
    simp only [Tree.depth] at hf
    unfold rightB
    rw [h1 n (by omega), h2 n (by omega)]; rfl
theorem pow_le2 {n : Nat} (h : n ≤ 20) : (2 : Int) ^ (n + 1) ≤ 2097152 := by
  have h1 : 2 ^ (n + 1) ≤ 2 ^ 21 := Nat.pow_le_pow_right (n := 2) (by decide) (by omega)
  have e : ((2 ^ (n + 1) : Nat) : Int) = 2 ^ (n + 1) := by simp
  omega
def sp_search (N : Nat) (K : PySem.W.Frag) : Sp := spFam (fun (z : Mr × Part × Part × Nat) => [(tMt K).en z.1, (tPt K).en z.2.1, (tPt K).en z.2.2.1, (tI 64).en (z.2.2.2 : Int)]) (fun z => MrOk z.1 ∧ PartOk z.2.1 ∧ z.2.1.1 + z.2.2.2 ≤ 20 ∧ z.2.2.2 ≤ N) (fun z => (tEx (tVd K) (VdOk z.1 z.2.1 z.2.2.2)).en ())
theorem sc_search : FnScope ["matter", "first", "second", "left", "verdict", "low", "word", "high", "looked"] ["matter", "first", "second", "left"] (defScope s_search) := ⟨rfl, rfl, rfl, by decide +kernel, rfl, by decide +kernel, by decide +kernel⟩
theorem ok_search0 (T : Txt K mg base) : Fn P w K mg base "search" 9 ["matter", "first", "second", "left"] (sp_search 0 K) := by
  obtain ⟨fd, F⟩ := T.d_search
  have S := sc_search
  refine ⟨_, fd, fam_ok F S (fun _ => rfl) 5 rfl (fun cdv A0 outer s H E hr => ?_), T.g_search, F.kp, FunD.bindsN F fun _ _ _ _ _ _ us hl => match us, hl with | [_, _, _, _], _ => rfl⟩
  refine ⟨_, (pss_cons (ps_set (i := 4) S.nd rfl (Or.inl rfl) (pe_fn (ok_look (K := K) T) (hr.mono (by decide)) rfl (pa_cons (pv 0) (pa_cons (pv 1) (pa_cons (pv 2) (pa_cons (pv 3) pa_nil))))))
    (pss_cons (ps_if (pt_cmpR oNotN (pv 4) pe_non (nomark _)) (pss_one (ps_ret (pv 4))) pss_nil)
    pss_never)), fun z hz B Nx Rt Bk Ct k => ?_⟩
  obtain ⟨m, p1, p2, left⟩ := z
  (try dsimp only at hz k ⊢)
  obtain ⟨hm, hp, hpl, hd⟩ := hz
  have hp0 : 0 ≤ p1.1 := hp.1
  refine go_seq (go_asgX (ev_call (ι := Mr × Part × Part × Nat) (m, p1, p2, left) (ea_cons (ev_var rfl) (ea_cons (ev_var rfl) (ea_cons (ev_var rfl) (ea_cons (ev_var rfl) ea_nil)))) ⟨hm, hp⟩) fun o ho' => ?_)
  have ho : LkOk m p1 left o := ho'
  refine go_seq (go_if (et_test (ev_notN (ev_var rfl))) (fun hb => ?_) (fun hb => go_next ?_))
  · cases o with
    | none => cases hb
    | some v => exact go_ret (ev_ex ((ev_var rfl).sub opt_some) (show VdOk m p1 left v from ho)) k
  have ho2 : left ≠ 0 ∧ pairs m ≠ [] := by
    cases o with
    | none => exact ho
    | some v => cases hb
  obtain ⟨hl0, hne⟩ := ho2
  exact absurd (Nat.le_zero.mp hd) hl0
theorem ok_searchS (T : Txt K mg base) {N : Nat} (ih : Fn P w K mg base "search" (9 + N) ["matter", "first", "second", "left"] (sp_search N K)) : Fn P w K mg base "search" (9 + (N + 1)) ["matter", "first", "second", "left"] (sp_search (N + 1) K) := by
  obtain ⟨fd, F⟩ := T.d_search
  have S := sc_search
  refine ⟨_, fd, fam_ok F S (fun _ => rfl) 5 rfl (fun cdv A0 outer s H E hr => ?_), T.g_search, F.kp, FunD.bindsN F fun _ _ _ _ _ _ us hl => match us, hl with | [_, _, _, _], _ => rfl⟩
  refine ⟨_, (pss_cons (ps_set (i := 4) S.nd rfl (Or.inl rfl) (pe_fn (ok_look (K := K) T) (hr.mono (Nat.le_trans (by decide) (Nat.le_add_right 9 N))) rfl (pa_cons (pv 0) (pa_cons (pv 1) (pa_cons (pv 2) (pa_cons (pv 3) pa_nil))))))
    (pss_cons (ps_if (pt_cmpR oNotN (pv 4) pe_non (nomark _)) (pss_one (ps_ret (pv 4))) pss_nil)
    (pss_cons (ps_if (pt_val (pe_fn (ok_halves_second (K := K) T) (hr.mono (Nat.le_trans (by decide) (Nat.le_add_right 9 N))) rfl (pa_cons (pv 0) (pa_cons (pv 1) (pa_cons (pv 2) pa_nil))))) pss_never (pss_cons (ps_set (i := 5) S.nd rfl (Or.inl rfl) (pe_fn ih (hr.mono (Nat.le_refl _)) rfl (pa_cons (pv 0) (pa_cons (pe_fn (ok_lower (K := K) T) (hr.mono (Nat.le_trans (by decide) (Nat.le_add_right 9 N))) rfl (pa_cons (pv 1) pa_nil)) (pa_cons (pv 2) (pa_cons (pe_op oSub (pv 3) pe_int) pa_nil))))))
    (pss_one (ps_set (i := 6) S.nd rfl (Or.inl rfl) pe_str))))
    (pss_cons (ps_if (pt_cmpR oNe (xFld (K := K) (pv 5) rfl) pe_str (nomark _)) (pss_one (ps_ret (xMc (K := K) (mk_Verdict (K := K) T) (hr.mono (Nat.le_trans (by decide) (Nat.le_add_right 9 N))) rfl (pa_cons (xFld (K := K) (pv 5) rfl) (pa_cons pe_non (pa_cons (xFld (K := K) (pv 5) rfl) (pa_cons (pe_op oAdd (xFld (K := K) (pv 5) rfl) pe_int) pa_nil))))))) pss_nil)
    (pss_cons (ps_if (pt_cmpR oEq (pv 6) pe_str (nomark _)) pss_never (pss_one (ps_set (i := 7) S.nd rfl (Or.inl rfl) (pe_fn ih (hr.mono (Nat.le_refl _)) rfl (pa_cons (pv 0) (pa_cons (pe_fn (ok_upper (K := K) T) (hr.mono (Nat.le_trans (by decide) (Nat.le_add_right 9 N))) rfl (pa_cons (pv 1) pa_nil)) (pa_cons (pv 2) (pa_cons (pe_op oSub (pv 3) pe_int) pa_nil))))))))
    (pss_cons (ps_set (i := 8) S.nd rfl (Or.inl rfl) (pe_op oAdd (pe_op oAdd pe_int (xFld (K := K) (pv 5) rfl)) (xFld (K := K) (pv 7) rfl)))
    (pss_cons (ps_if (pt_cmpR oNe (xFld (K := K) (pv 7) rfl) pe_str (nomark _)) (pss_one (ps_ret (xMc (K := K) (mk_Verdict (K := K) T) (hr.mono (Nat.le_trans (by decide) (Nat.le_add_right 9 N))) rfl (pa_cons (xFld (K := K) (pv 7) rfl) (pa_cons pe_non (pa_cons (xFld (K := K) (pv 7) rfl) (pa_cons (pv 8) pa_nil))))))) pss_nil)
    (pss_one (ps_ret (xMc (K := K) (mk_Verdict (K := K) T) (hr.mono (Nat.le_trans (by decide) (Nat.le_add_right 9 N))) rfl (pa_cons pe_str (pa_cons (pe_tup (pa_cons (pv 6) (pa_cons (xFld (K := K) (pv 5) rfl) (pa_cons (xFld (K := K) (pv 7) rfl) pa_nil)))) (pa_cons pe_non (pa_cons (pv 8) pa_nil)))))))))))))), fun z hz B Nx Rt Bk Ct k => ?_⟩
  obtain ⟨m, p1, p2, left⟩ := z
  (try dsimp only at hz k ⊢)
  obtain ⟨hm, hp, hpl, hd⟩ := hz
  have hp0 : 0 ≤ p1.1 := hp.1
  refine go_seq (go_asgX (ev_call (ι := Mr × Part × Part × Nat) (m, p1, p2, left) (ea_cons (ev_var rfl) (ea_cons (ev_var rfl) (ea_cons (ev_var rfl) (ea_cons (ev_var rfl) ea_nil)))) ⟨hm, hp⟩) fun o ho' => ?_)
  have ho : LkOk m p1 left o := ho'
  refine go_seq (go_if (et_test (ev_notN (ev_var rfl))) (fun hb => ?_) (fun hb => go_next ?_))
  · cases o with
    | none => cases hb
    | some v => exact go_ret (ev_ex ((ev_var rfl).sub opt_some) (show VdOk m p1 left v from ho)) k
  have ho2 : left ≠ 0 ∧ pairs m ≠ [] := by
    cases o with
    | none => exact ho
    | some v => cases hb
  obtain ⟨hl0, hne⟩ := ho2
  cases left with
  | zero => exact absurd rfl hl0
  | succ n =>
    have hlt : p1.1 < 20 := by omega
    obtain ⟨ho1, ho2⟩ := lower_ok hp hlt
    have e1 := pow_int n
    have e2 := pow_int (n + 1)
    have e3 := pow_le2 (n := n + 1) (by omega)
    refine go_seq (go_ifF (et_B (ev_call (ι := Mr × Part × Part) (m, p1, p2) (ea_cons (ev_var rfl) (ea_cons (ev_var rfl) (ea_cons (ev_var rfl) ea_nil))) trivial)) ?_)
    refine go_seq (go_asgX (ev_call (ι := Mr × Part × Part × Nat) (m, lower p1, p2, n) (ea_cons (ev_var rfl) (ea_cons (ev_call (ι := Part) p1 (ea_cons (ev_var rfl) ea_nil) ⟨hp, hlt⟩) (ea_cons (ev_var rfl) (ea_cons (ev_narrow (ev_is (ev_sub (ev_var rfl) (ev_int64 (by decide))) (show ((n + 1 : Nat) : Int) - 1 = (n : Int) by omega)) (bd64 (by show _ < (n : Int); omega) (by show (n : Int) < _; omega))) ea_nil)))) ⟨hm, ho1, (by show p1.1 + 1 + (n : Int) ≤ 20; omega), (by show n ≤ N; omega)⟩) fun lo hlo' => ?_)
    have hlo : VdOk m (lower p1) n lo := hlo'
    refine go_asg ev_str ?_
    obtain ⟨n1, n2⟩ := hlo.n
    refine go_seq (go_if (et_test (ev_neS (f_Verdict_word T (ev_var rfl)) ev_str)) (fun hb => ?_) (fun hb => go_next ?_))
    · cases lo with
      | clear t nn => exact absurd hb (by show ¬((!decide (("clear" : Str) = "clear")) = true); decide)
      | bad wd nn =>
        obtain ⟨w1, w2, w3, w4⟩ := hlo
        exact go_ret (ev_ex (e_Verdict (.bad wd (nn + 1)) (f_word_bad T (n := nn) (ev_var rfl)) (ev_any ev_non) (f_Verdict_at T (ev_var rfl)) (ev_narrow (x := nn + 1) (ev_add (ev_is (f_Verdict_looked T (o := .bad wd nn) (ev_var rfl)) rfl) (ev_int64 (by decide))) (bd64 (by show _ < nn + 1; omega) (by show nn + 1 < _; omega)))) ⟨w1, by omega, by omega, hne⟩) k
    cases lo with
    | bad wd nn =>
      exfalso
      obtain ⟨w1, w2, w3, w4⟩ := hlo
      have hb' : (!decide (wd = ("clear" : Str))) = false := hb
      rcases w1 with rfl | rfl
      · exact absurd hb' (by decide)
      · exact absurd hb' (by decide)
    | clear t nn =>
      obtain ⟨w1, w2, w3, w4, w5⟩ := hlo
      refine go_seq (go_ifF (et_is (et_test (ev_eqS (ev_var rfl) ev_str)) (by decide)) ?_)
      refine go_asgX (ev_call (ι := Mr × Part × Part × Nat) (m, upper p1, p2, n) (ea_cons (ev_var rfl) (ea_cons (ev_call (ι := Part) p1 (ea_cons (ev_var rfl) ea_nil) ⟨hp, hlt⟩) (ea_cons (ev_var rfl) (ea_cons (ev_narrow (ev_is (ev_sub (ev_var rfl) (ev_int64 (by decide))) (show ((n + 1 : Nat) : Int) - 1 = (n : Int) by omega)) (bd64 (by show _ < (n : Int); omega) (by show (n : Int) < _; omega))) ea_nil)))) ⟨hm, ho2, (by show p1.1 + 1 + (n : Int) ≤ 20; omega), (by show n ≤ N; omega)⟩) fun hi hhi' => ?_
      have hhi : VdOk m (upper p1) n hi := hhi'
      obtain ⟨m1, m2⟩ := hhi.n
      refine go_seq (go_asg (e1 := (tI 64).en (1 + nn + hi.looked)) (ev_narrow (ev_add (ev_add (ev_int64 (by decide)) (ev_is (f_Verdict_looked T (o := .clear t nn) (ev_var rfl)) rfl)) (f_Verdict_looked T (ev_var rfl))) (bd64 (by show _ < 1 + nn + hi.looked; omega) (by show 1 + nn + hi.looked < _; omega))) ?_)
      refine go_seq (go_if (et_test (ev_neS (f_Verdict_word T (ev_var rfl)) ev_str)) (fun hb => ?_) (fun hb => go_next ?_))
      · cases hi with
        | clear t nn => exact absurd hb (by show ¬((!decide (("clear" : Str) = "clear")) = true); decide)
        | bad wd n2 =>
          obtain ⟨q1, q2, q3, q4⟩ := hhi
          exact go_ret (ev_ex (e_Verdict (.bad wd (1 + nn + n2)) (f_word_bad T (n := n2) (ev_var rfl)) (ev_any ev_non) (f_Verdict_at T (ev_var rfl)) (ev_var rfl)) ⟨q1, by omega, by omega, hne⟩) k
      · cases hi with
        | bad wd nn =>
          exfalso
          obtain ⟨w1, w2, w3, w4⟩ := hhi
          have hb' : (!decide (wd = ("clear" : Str))) = false := hb
          rcases w1 with rfl | rfl
          · exact absurd hb' (by decide)
          · exact absurd hb' (by decide)
        | clear t2 n2 =>
          obtain ⟨q1, q2, q3, q4, q5⟩ := hhi
          refine go_ret (ev_ex (e_Verdict (.clear (.node t t2) (1 + nn + n2)) ev_str ((ev_tup (es := fun p => [tStr.en "first", (tTr K).en p.1, (tTr K).en p.2]) (x := (t, t2)) (ea_cons (ev_var rfl) (ea_cons (f_tree_clear T (n := nn) (ev_var rfl)) (ea_cons (f_tree_clear T (n := n2) (ev_var rfl)) ea_nil)))).sub tr_ofNode) (ev_any ev_non) (ev_var rfl)) ⟨?_, rightB_node w2 q2, by omega, by omega, fun e => absurd e hne⟩) k
          simp only [Tree.depth]; omega
theorem ok_search (T : Txt K mg base) : ∀ N : Nat, Fn P w K mg base "search" (9 + N) ["matter", "first", "second", "left"] (sp_search N K)
  | 0 => ok_search0 T
  | N + 1 => ok_searchS T (ok_search T N)
theorem sc_find_verdict : FnScope ["matter", "depth"] ["matter", "depth"] (defScope s_find_verdict) := ⟨rfl, rfl, rfl, by decide +kernel, rfl, by decide +kernel, by decide +kernel⟩
def sp_find_verdict (K : PySem.W.Frag) : Sp := spFam (fun (z : Mr × Nat) => [(tMt K).en z.1, (tI 64).en (z.2 : Int)]) (fun z => MrOk z.1 ∧ z.2 ≤ 5) (fun z => (tEx (tVd K) (VdOk z.1 (0, 0) z.2)).en ())
theorem ok_find_verdict (T : Txt K mg base) : Fn P w K mg base "find_verdict" 15 ["matter", "depth"] (sp_find_verdict K) := by
  obtain ⟨fd, F⟩ := T.d_find_verdict
  have S := sc_find_verdict
  refine ⟨_, fd, fam_ok F S (fun _ => rfl) 0 rfl (fun cdv A0 outer s H E hr => ?_), T.g_find_verdict, F.kp, FunD.bindsN F fun _ _ _ _ _ _ us hl => match us, hl with | [_, _], _ => rfl⟩
  refine ⟨_, (pss_cons (ps_if (pt_not (pt_chain oLe oLe pe_int (pv 1) (pe_gi (T.i_DEEPEST)))) (pss_one ps_never) pss_nil)
    (pss_one (ps_ret (pe_fn (ok_search (K := K) T 5) (hr.mono (by decide)) rfl (pa_cons (pv 0) (pa_cons (pe_ga T.g_WHOLE) (pa_cons (pe_ga T.g_WHOLE) (pa_cons (pv 1) pa_nil)))))))), fun z hz B Nx Rt Bk Ct k => ?_⟩
  obtain ⟨m, dp⟩ := z
  (try dsimp only at hz k ⊢)
  obtain ⟨hm, hd⟩ := hz
  refine go_seq (go_ifF (et_is (et_not (et_test (ev_chain (ev_int64 (by decide)) (ev_var rfl) (ev_int64 (by decide)) (fun _ H v w Q => rq_le H v w Q) (fun _ H v w Q => rq_le H v w Q)))) ?_) (go_next ?_))
  · rw [decide_eq_true (show (0 : Int) ≤ (dp : Int) by omega), decide_eq_true (show (dp : Int) ≤ 20 by omega)]; rfl
  exact go_ret (ev_call (ι := Mr × Part × Part × Nat) (m, (0, 0), (0, 0), dp) (ea_cons (ev_var rfl) (ea_cons (ev_whole T) (ea_cons (ev_whole T) (ea_cons (ev_var rfl) ea_nil)))) ⟨hm, whole_ok, (by show (0 : Int) + (dp : Int) ≤ 20; omega), hd⟩) k
end
section
variable {P : Program} {w : World} {K : PySem.W.Frag} {mg : Str → Option Value} {base : Heap}
/-- two roads that meet -/
theorem go_join {B : Bs} {G : Ctx} {Nx : L2.St → Hp → Prop} {Rt : VK} {Bk Ct : L2.St → Hp → Prop} {t : TT} {ts us vs : TS} {b : Bool} (J : Ctx → Prop) (h : EvT t G b) (h1 : b = true → ∀ Nx' : L2.St → Hp → Prop, (∀ G', J G' → Go B G' Nx') → Go B G (ts ⟨Nx', Rt, Bk, Ct⟩)) (h2 : b = false → ∀ Nx' : L2.St → Hp → Prop, (∀ G', J G' → Go B G' Nx') → Go B G (us ⟨Nx', Rt, Bk, Ct⟩)) (k : ∀ G', J G' → Go B G' (vs ⟨Nx, Rt, Bk, Ct⟩)) : Go B G (tSeq (tIfS t ts us) vs ⟨Nx, Rt, Bk, Ct⟩) :=
  go_seq (go_if h (fun e => h1 e _ k) fun e => h2 e _ k)
theorem ev_mulB {ta tb : TE} {G : Ctx} {n m : Nat} {x y : Int} (ha : Ev ta G ((tI n).en x)) (hb : Ev tb G ((tI m).en y)) (hl : m ≤ 64 ∨ n ≤ 64) : Ev (tOp aMul ta tb) G ((tI (n + m)).en (x * y)) := hl.elim (fun h => ev_mulS ha hb h) fun h => ev_mulS' ha hb h
theorem bd_all : ∀ xs : List Int, ∃ n : Nat, ∀ x ∈ xs, bd n x
  | [] => ⟨0, fun _ h => nomatch h⟩
  | x :: xs => by
    obtain ⟨n, h⟩ := bd_all xs
    refine ⟨max n (x.natAbs + 1), fun y hy => ?_⟩
    rcases List.mem_cons.mp hy with e | e
    · subst e
      refine bd_mono (Nat.le_max_right n _) ?_
      unfold bd
      exact Nat.lt_of_lt_of_le (Nat.lt_succ_self _) (Nat.le_of_lt Nat.lt_two_pow_self)
    · exact bd_mono (Nat.le_max_left n _) (h y e)
theorem oks_exP {F : Hp} {α : Type} {A : Ty α} {P : α → Prop} : ∀ {vs : List V} {us : List Unit}, Oks F vs (us.map fun u => (tEx A P).en u) → ∃ xs : List α, xs.length = us.length ∧ (∀ x ∈ xs, P x) ∧ Oks F vs (xs.map fun x => A.en x)
  | [], [], _ => ⟨[], rfl, (fun _ h => (nomatch h)), .nil⟩
  | v :: vs, u :: us, .cons ⟨x, r, px⟩ t => by
    obtain ⟨xs, hl, hp, h⟩ := oks_exP t
    exact ⟨x :: xs, by rw [List.length_cons, List.length_cons, hl], fun y hy => (List.mem_cons.mp hy).elim (fun e => by rw [e]; exact px) (hp y), .cons r h⟩
theorem ex_lst {α : Type} {A : Ty α} {P : α → Prop} {us : List Unit} (F : Hp) (v : V) (h : ((yLstL K (tEx A P)).en us).ok F v) : ((tEx (yLstL K A) fun xs => xs.length = us.length ∧ ∀ x ∈ xs, P x).en ()).ok F v := by
  obtain ⟨a, vs, e, hs, r⟩ := h
  obtain ⟨xs, hl, hp, h⟩ := oks_exP r
  exact ⟨xs, ⟨a, vs, e, hs, h⟩, hl, hp⟩
def RowsOk (xs : List Int) : Prop := xs.length = 24 ∧ ∀ x ∈ xs, 0 ≤ x
abbrev tRs (K : PySem.W.Frag) (N : Nat) : Ty (List Int) := yLstL K (tI (N + 200))
theorem sc_lw_rows : FnScope ["_law_script", "_law_count", "_law_rows_here", "_law_k", "_law_cell"] ["_law_script", "_law_count"] (defScope s_lw_rows) := ⟨rfl, rfl, rfl, by decide +kernel, rfl, by decide +kernel, by decide +kernel⟩
def sp_lw_rows (K : PySem.W.Frag) : Sp := spFam (fun (z : Nat × List Int) => [(yLstL K (tI z.1)).en z.2, (tI 64).en 24]) (fun z => z.2.length ≤ 63) (fun z => (tEx (tRs K z.1) RowsOk).en ())
theorem ok_lw_rows (T : Txt K mg base) : Fn P w K mg base "_law_rows" 1 ["_law_script", "_law_count"] (sp_lw_rows K) := by
  obtain ⟨fd, F⟩ := T.d_lw_rows
  have S := sc_lw_rows
  refine ⟨_, fd, fam_ok F S (fun _ => rfl) 3 rfl (fun cdv A0 outer s H E hr => ?_), T.g_lw_rows, F.kp, FunD.bindsN F fun _ _ _ _ _ _ us hl => match us, hl with | [_, _], _ => rfl⟩
  refine ⟨_, (pss_cons (ps_set (i := 2) S.nd rfl (Or.inl rfl) (pe_lst pa_nil))
    (pss_cons (ps_for PassesOwn.never rfl (pi_range1 rfl T.z_range (pa_cons (pv 1) pa_nil)) (pg_name (i := 3) S.nd rfl (Or.inl rfl)) (pss_cons (ps_set (i := 4) S.nd rfl (Or.inl rfl) pe_int)
    (pss_cons (ps_if (pt_cmpR oGt (pe_callB (xLen (K := K)) (by rfl) T.z_len (by decide +kernel) (pa_cons (pv 0) pa_nil)) pe_int (nomark _)) (pss_one (ps_set (i := 4) S.nd rfl (Or.inl rfl) (pe_callTy kInt (by rfl) T.z_int (by decide +kernel) (pa_cons (xIx (K := K) (pv 0) (pe_op oMod (pe_callTy kInt (by rfl) T.z_int (by decide +kernel) (pa_cons (pv 3) pa_nil)) (pe_callB (xLen (K := K)) (by rfl) T.z_len (by decide +kernel) (pa_cons (pv 0) pa_nil))) (fun _ _ => rfl)) pa_nil)))) pss_nil)
    (pss_cons (ps_if (pt_cmpR oLt (pv 4) pe_int (nomark _)) (pss_one (ps_set (i := 4) S.nd rfl (Or.inl rfl) (pe_op oSub pe_int (pe_op oMul pe_int (pv 4))))) pss_nil)
    (pss_cons (ps_if (PW.pt (pw_or (pt_cmpR oGe (pv 3) (pe_callB (xLen (K := K)) (by rfl) T.z_len (by decide +kernel) (pa_cons (pv 0) pa_nil)) (nomark _)) (pw_or1 (pt_cmpR oLt (pv 4) pe_int (nomark _))))) (pss_cons (ps_set (i := 4) S.nd rfl (Or.inl rfl) (pe_op oMod (pe_callTy kInt (by rfl) T.z_int (by decide +kernel) (pa_cons (pe_op oAdd (pe_op oMul (pe_op oAdd (pe_op oAdd (pv 4) (pe_op oMul pe_int (pv 3))) pe_int) pe_int) (pe_op oMul (pe_op oMul (pv 3) (pv 3)) pe_int)) pa_nil)) pe_int))
    (pss_one (ps_set (i := 4) S.nd rfl (Or.inl rfl) (pe_op oMod (pe_callTy kInt (by rfl) T.z_int (by decide +kernel) (pa_cons (pe_op oMul (pe_op oAdd (pe_op oAdd (pv 4) (pe_op oMul pe_int (pv 3))) pe_int) pe_int) pa_nil)) pe_int)))) pss_nil)
    (pss_one (ps_expr (pe_bm PySem.F.plainAttrs_list PySem.F.slot_list_append PySem.F.type_list_append mt_append (pv 2) (pa_cons (pv 4) pa_nil)))))))))
    (pss_one (ps_ret (pv 2))))), fun z hz B Nx Rt Bk Ct k => ?_⟩
  obtain ⟨N, sc⟩ := z
  (try dsimp only at hz k ⊢)
  refine go_seq (go_asgO (eo_lst (A := tI (N + 200)) (xs := []) ea_nil) ?_)
  refine go_seq (go_forR1 (N := 24) (fun i G' => ∃ xs : List Int, xs.length = i ∧ (∀ x ∈ xs, 0 ≤ x) ∧ G' = ⟨startG [(yLstL K (tI N)).en sc, (tI 64).en 24] 3, .lst 2 (tI (N + 200)) xs⟩) _ (ea_cons (ev_var rfl) ea_nil) (by decide) (LeC.refl _) ⟨[], rfl, fun _ h => (nomatch h), rfl⟩ (fun i G' ⟨_, _, _, h⟩ => by subst h; show (2 : Nat) ≠ 3; decide) (fun i G' hi ⟨xs, hx, hp, h⟩ => ?_) (fun G' ⟨xs, hx, hp, h⟩ => ?_))
  · subst h
    refine go_seq (go_asg (e1 := (tI (N + 64)).en 0) (ev_le (ev_int64 (by decide)) (by omega)) ?_)
    refine go_join (fun G' => ∃ c : Int, G' = ⟨[some ((yLstL K (tI N)).en sc), some ((tI 64).en 24), none, some ((tI 64).en (i : Int)), some ((tI (N + 64)).en c)], .lst 2 (tI (N + 200)) xs⟩) (et_test (ev_gt (ev_lenLL (ev_var rfl) (by omega)) (ev_int64 (by decide)))) (fun hb Nx' kk => ?_) (fun hb Nx' kk => go_next (kk _ ⟨0, rfl⟩)) ?_
    · have hpos : (0 : Int) < (sc.length : Int) := by have := of_decide_eq_true hb; omega
      have h0 := Int.emod_nonneg (i : Int) (show (sc.length : Int) ≠ 0 by omega)
      have h1 := Int.emod_lt_of_pos (i : Int) hpos
      refine go_asg (ev_le (m := N + 64) (ev_intc (ev_is (ev_atL (i := ((i : Int) % (sc.length : Int)).toNat) (ev_var rfl) (ev_is (ev_mod (ev_intc (ev_var rfl)) (ev_lenLL (ev_var rfl) (by omega)) hpos) (by omega)) (by omega)) rfl)) (by omega)) (kk _ ⟨_, rfl⟩)
    rintro G' ⟨c, h⟩
    subst h
    refine go_join (fun G' => ∃ c : Int, 0 ≤ c ∧ G' = ⟨[some ((yLstL K (tI N)).en sc), some ((tI 64).en 24), none, some ((tI 64).en (i : Int)), some ((tI (N + 200)).en c)], .lst 2 (tI (N + 200)) xs⟩) (et_test (ev_lt (ev_var rfl) (ev_int64 (by decide)))) (fun hb Nx' kk => ?_) (fun hb Nx' kk => go_next (Go.le (kk _ ⟨c, by have := of_decide_eq_false hb; omega, rfl⟩) (LeC.retype (i := 4) rfl (tI_le (by omega))))) ?_
    · refine go_asg (ev_le (m := N + 200) (ev_sub (ev_int64 (by decide)) (ev_mulB (ev_int64 (by decide)) (ev_var rfl) (.inr (by decide)))) (by omega)) (kk _ ⟨1 - 2 * c, by have := of_decide_eq_true hb; omega, rfl⟩)
    rintro G' ⟨c, hc, h⟩
    subst h
    refine go_join (fun G' => ∃ c : Int, 0 ≤ c ∧ G' = ⟨[some ((yLstL K (tI N)).en sc), some ((tI 64).en 24), none, some ((tI 64).en (i : Int)), some ((tI (N + 200)).en c)], .lst 2 (tI (N + 200)) xs⟩) (et_or (et_test (ev_ge (ev_var rfl) (ev_lenLL (ev_var rfl) (by omega)))) (fun _ => et_test (ev_lt (ev_var rfl) (ev_int64 (by decide))))) (fun hb Nx' kk => ?_) (fun hb Nx' kk => go_next (kk _ ⟨c, hc, rfl⟩)) ?_
    · refine go_seq (go_asg (ev_mod (ev_intc (ev_add (ev_mulB (ev_add (ev_add (ev_var rfl) (ev_mulB (ev_int64 (by decide)) (ev_var rfl) (.inr (by decide)))) (ev_int64 (by decide))) (ev_int64 (by decide)) (.inl (by decide))) (ev_mulB (ev_mulB (ev_var rfl) (ev_var rfl) (.inr (by decide))) (ev_int64 (by decide)) (.inl (by decide))))) (ev_int64 (by decide)) (by decide)) ?_)
      exact go_asg (ev_le (m := N + 200) (ev_mod (ev_intc (ev_mulB (ev_add (ev_add (ev_var rfl) (ev_mulB (ev_int64 (by decide)) (ev_var rfl) (.inr (by decide)))) (ev_int64 (by decide))) (ev_int64 (by decide)) (.inl (by decide)))) (ev_int64 (by decide)) (by decide)) (by omega)) (kk _ ⟨_, Int.emod_nonneg _ (by decide), rfl⟩)
    rintro G' ⟨c, hc, h⟩
    subst h
    refine go_append (x := c) (ev_var rfl) (by omega) (go_inv _ ⟨xs ++ [c], by rw [List.length_append, hx]; rfl, fun x hx => ?_, rfl⟩ (by walk_at "wk"))
    rcases List.mem_append.mp hx with h | h
    · exact hp x h
    · rw [List.mem_singleton.mp h]; exact hc
  · subst h
    exact go_freeze (go_ret (ev_ex (ev_var rfl) ⟨hx, hp⟩) k)
theorem jt_mk {t : Bool} {a x y z r b e : Int} (ha : a = 0 ∨ a = 1 ∨ a = 2) (hx : -10000000 ≤ x ∧ x ≤ 10000000) (hy : -10000000 ≤ y ∧ y ≤ 10000000) (hz : -10000000 ≤ z ∧ z ≤ 10000000) (hr : 0 ≤ r ∧ r ≤ 10000000) (hb : 0 ≤ b ∧ b ≤ 100000) (he : 0 ≤ e ∧ e ≤ 100000) : JtOk ⟨t, a, (x, y, z), -r, r, b, e⟩ :=
  ⟨ha, ⟨hx, hy, hz⟩, by show _ ≤ -r; omega, by show -r ≤ r; omega, hr.2, hb, he⟩
theorem bd_mk {x y z u v w r : Int} (hx : -10000000 ≤ x ∧ x ≤ 10000000) (hy : -10000000 ≤ y ∧ y ≤ 10000000) (hz : -10000000 ≤ z ∧ z ≤ 10000000) (hu : -10000000 ≤ u ∧ u ≤ 10000000) (hv : -10000000 ≤ v ∧ v ≤ 10000000) (hw : -10000000 ≤ w ∧ w ≤ 10000000) (hr : 0 ≤ r ∧ r ≤ 1000000) : BdOk ⟨(x, y, z), (u, v, w), r⟩ := ⟨⟨hx, hy, hz⟩, ⟨hu, hv, hw⟩, hr⟩
theorem bd24 {x : Int} (h : -16777216 < x ∧ x < 16777216) : bd 24 x := by unfold bd; omega
theorem md {x n : Int} (h : 0 < n) : 0 ≤ x % n ∧ x % n < n := ⟨Int.emod_nonneg x (by omega), Int.emod_lt_of_pos x h⟩
theorem sc_lw_joint : FnScope ["_law_row", "_law_error", "_law_turns", "_law_axis", "_law_offset", "_law_reach", "_law_loose"] ["_law_row", "_law_error"] (defScope s_lw_joint) := ⟨rfl, rfl, rfl, by decide +kernel, rfl, by decide +kernel, by decide +kernel⟩
def sp_lw_joint (K : PySem.W.Frag) : Sp := spFam (fun (z : Nat × Int × Int) => [(tI z.1).en z.2.1, (tI 64).en z.2.2]) (fun z => 0 ≤ z.2.2 ∧ z.2.2 ≤ 1000) (fun _ => (tEx (tJt K) JtOk).en ())
theorem ok_lw_joint (T : Txt K mg base) : Fn P w K mg base "_law_joint" 4 ["_law_row", "_law_error"] (sp_lw_joint K) := by
  obtain ⟨fd, F⟩ := T.d_lw_joint
  have S := sc_lw_joint
  refine ⟨_, fd, fam_ok F S (fun _ => rfl) 5 rfl (fun cdv A0 outer s H E hr => ?_), T.g_lw_joint, F.kp, FunD.bindsN F fun _ _ _ _ _ _ us hl => match us, hl with | [_, _], _ => rfl⟩
  refine ⟨_, (pss_cons (ps_set (i := 2) S.nd rfl (Or.inl rfl) (pe_cmpR oGt (pe_op oMod (pe_callTy kInt (by rfl) T.z_int (by decide +kernel) (pa_cons (pv 0) pa_nil)) pe_int) pe_int (nomark _)))
    (pss_cons (ps_set (i := 3) S.nd rfl (Or.inl rfl) (pe_op oMod (pe_callTy kInt (by rfl) T.z_int (by decide +kernel) (pa_cons (pe_op oDiv (pv 0) pe_int) pa_nil)) pe_int))
    (pss_cons (ps_set (i := 4) S.nd rfl (Or.inl rfl) (pe_tup (pa_cons (pe_op oSub (pe_op oMod (pe_callTy kInt (by rfl) T.z_int (by decide +kernel) (pa_cons (pe_op oDiv (pv 0) pe_int) pa_nil)) pe_int) pe_int) (pa_cons (pe_op oSub (pe_op oMod (pe_callTy kInt (by rfl) T.z_int (by decide +kernel) (pa_cons (pe_op oDiv (pv 0) pe_int) pa_nil)) pe_int) pe_int) (pa_cons (pe_op oSub (pe_op oMod (pe_callTy kInt (by rfl) T.z_int (by decide +kernel) (pa_cons (pe_op oDiv (pv 0) pe_int) pa_nil)) pe_int) pe_int) pa_nil)))))
    (pss_cons (ps_set (i := 5) S.nd rfl (Or.inl rfl) (pe_ifExp (pt_val (pv 2)) pe_int pe_int))
    (pss_cons (ps_set (i := 6) S.nd rfl (Or.inl rfl) (pv 1))
    (pss_cons (ps_if (pt_not (pt_val (pv 2))) (pss_one (ps_set (i := 6) S.nd rfl (Or.inl rfl) (pe_op oMod (pe_callTy kInt (by rfl) T.z_int (by decide +kernel) (pa_cons (pv 1) pa_nil)) pe_int))) pss_nil)
    (pss_one (ps_ret (xMck (K := K) (mk_Joint (K := K) T) (hr.mono (by decide)) rfl (pa_cons (pv 2) (pa_cons (pv 3) (pa_cons (pv 4) (pa_cons (pe_un oNeg (pv 5)) (pa_cons (pv 5) pa_nil))))) (pk_cons (pe_op oMod (pe_callTy kInt (by rfl) T.z_int (by decide +kernel) (pa_cons (pe_op oDiv (pv 0) pe_int) pa_nil)) pe_int) (pk_cons (pv 6) pk_nil))))))))))), fun z hz B Nx Rt Bk Ct k => ?_⟩
  obtain ⟨N, row, er⟩ := z
  (try dsimp only at hz k ⊢)
  obtain ⟨he1, he2⟩ := hz
  refine go_seq (go_asg (ev_gt (ev_mod (ev_intc (ev_var rfl)) (ev_int64 (by decide)) (by decide)) (ev_int64 (by decide))) ?_)
  generalize decide ((0 : Int) < row % 3) = turns
  have ha := md (x := row / 3) (n := 3) (by decide)
  refine go_seq (go_asg (ev_mod (ev_intc (ev_div (ev_var rfl) (ev_int64 (by decide)) (by decide) (by decide))) (ev_int64 (by decide)) (by decide)) ?_)
  have o1 := md (x := row / 9) (n := 41) (by decide)
  have o2 := md (x := row / 369) (n := 41) (by decide)
  have o3 := md (x := row / 15129) (n := 201) (by decide)
  have bx := md (x := row / 3041) (n := 3) (by decide)
  refine go_seq (go_asg (e1 := (tV K 24).en (row / 9 % 41 - 20, row / 369 % 41 - 20, row / 15129 % 201 - 100)) (ev_tup (ea_cons ?_ (ea_cons ?_ (ea_cons ?_ ea_nil)))) ?_)
  · exact ev_narrow (ev_sub (ev_mod (ev_intc (ev_div (ev_var rfl) (ev_int64 (by decide)) (by decide) (by decide))) (ev_int64 (by decide)) (by decide)) (ev_int64 (by decide))) (bd24 (by show _ < row / 9 % 41 - 20 ∧ row / 9 % 41 - 20 < _; omega))
  · exact ev_narrow (ev_sub (ev_mod (ev_intc (ev_div (ev_var rfl) (ev_int64 (by decide)) (by decide) (by decide))) (ev_int64 (by decide)) (by decide)) (ev_int64 (by decide))) (bd24 (by show _ < row / 369 % 41 - 20 ∧ row / 369 % 41 - 20 < _; omega))
  · exact ev_narrow (ev_sub (ev_mod (ev_intc (ev_div (ev_var rfl) (ev_int64 (by decide)) (by decide) (by decide))) (ev_int64 (by decide)) (by decide)) (ev_int64 (by decide))) (bd24 (by show _ < row / 15129 % 201 - 100 ∧ row / 15129 % 201 - 100 < _; omega))
  generalize hr : (if turns = true then (2000000 : Int) else 300) = reach
  have hr1 : 0 ≤ reach ∧ reach ≤ 2000000 := by rw [← hr]; split <;> decide
  refine go_seq (go_asg (e1 := (tI 24).en reach) (ev_is (ev_ifI (et_B (ev_var rfl)) (fun _ => ev_int (by decide)) (fun _ => ev_int (by decide))) hr) ?_)
  refine go_seq (go_asg (ev_var rfl) ?_)
  refine go_join (fun G' => ∃ e : Int, (0 ≤ e ∧ e ≤ 1000) ∧ G' = ⟨[some ((tI N).en row), some ((tI 64).en er), some (tBl.en turns), some ((tI 64).en (row / 3 % 3)), some ((tV K 24).en (row / 9 % 41 - 20, row / 369 % 41 - 20, row / 15129 % 201 - 100)), some ((tI 24).en reach), some ((tI 64).en e)], .no⟩) (et_not (et_B (ev_var rfl))) (fun hb Nx' kk => ?_) (fun hb Nx' kk => go_next (kk _ ⟨er, ⟨he1, he2⟩, rfl⟩)) ?_
  · have h7 := md (x := er) (n := 7) (by decide)
    exact go_asg (ev_mod (ev_intc (ev_var rfl)) (ev_int64 (by decide)) (by decide)) (kk _ ⟨er % 7, by omega, rfl⟩)
  rintro G' ⟨e, ⟨e1, e2⟩, h⟩
  subst h
  have hj : JtOk ⟨turns, row / 3 % 3, (row / 9 % 41 - 20, row / 369 % 41 - 20, row / 15129 % 201 - 100), -reach, reach, row / 3041 % 3, e⟩ := jt_mk (by omega) (by omega) (by omega) (by omega) (by omega) (by omega) (by omega)
  exact go_ret (ev_ex (e_Joint ⟨turns, row / 3 % 3, (row / 9 % 41 - 20, row / 369 % 41 - 20, row / 15129 % 201 - 100), -reach, reach, row / 3041 % 3, e⟩ (ev_var rfl) (ev_narrow (ev_var rfl) (bd24 (by show _ < row / 3 % 3 ∧ row / 3 % 3 < _; omega))) (ev_var rfl) (ev_neg (ev_var rfl)) (ev_var rfl) (ev_narrow (ev_mod (ev_intc (ev_div (ev_var rfl) (ev_int64 (by decide)) (by decide) (by decide))) (ev_int64 (by decide)) (by decide)) (bd24 (by show _ < row / 3041 % 3 ∧ row / 3041 % 3 < _; omega))) (ev_narrow (ev_var rfl) (bd24 (by show _ < e ∧ e < _; omega))) ⟨hj, fun _ => ⟨by show _ ≤ -reach; omega, by show reach ≤ _; omega⟩⟩) hj) k
theorem sc_lw_capsule : FnScope ["_law_row", "_law_links", "_law_first", "_law_last"] ["_law_row", "_law_links"] (defScope s_lw_capsule) := ⟨rfl, rfl, rfl, by decide +kernel, rfl, by decide +kernel, by decide +kernel⟩
def sp_lw_capsule (K : PySem.W.Frag) : Sp := spFam (fun (z : Nat × Int × Int) => [(tI z.1).en z.2.1, (tI 64).en z.2.2]) (fun z => 0 ≤ z.2.2 ∧ z.2.2 ≤ 6) (fun z => (tEx (tCp K) fun c => (0 ≤ c.link ∧ c.link ≤ z.2.2) ∧ BdOk c.body).en ())
theorem ok_lw_capsule (T : Txt K mg base) : Fn P w K mg base "_law_capsule" 4 ["_law_row", "_law_links"] (sp_lw_capsule K) := by
  obtain ⟨fd, F⟩ := T.d_lw_capsule
  have S := sc_lw_capsule
  refine ⟨_, fd, fam_ok F S (fun _ => rfl) 2 rfl (fun cdv A0 outer s H E hr => ?_), T.g_lw_capsule, F.kp, FunD.bindsN F fun _ _ _ _ _ _ us hl => match us, hl with | [_, _], _ => rfl⟩
  refine ⟨_, (pss_cons (ps_set (i := 2) S.nd rfl (Or.inl rfl) (pe_tup (pa_cons (pe_op oSub (pe_op oMod (pe_callTy kInt (by rfl) T.z_int (by decide +kernel) (pa_cons (pv 0) pa_nil)) pe_int) pe_int) (pa_cons (pe_op oSub (pe_op oMod (pe_callTy kInt (by rfl) T.z_int (by decide +kernel) (pa_cons (pe_op oDiv (pv 0) pe_int) pa_nil)) pe_int) pe_int) (pa_cons (pe_op oSub (pe_op oMod (pe_callTy kInt (by rfl) T.z_int (by decide +kernel) (pa_cons (pe_op oDiv (pv 0) pe_int) pa_nil)) pe_int) pe_int) pa_nil)))))
    (pss_cons (ps_set (i := 3) S.nd rfl (Or.inl rfl) (pe_tup (pa_cons (pe_op oSub (pe_op oMod (pe_callTy kInt (by rfl) T.z_int (by decide +kernel) (pa_cons (pe_op oDiv (pv 0) pe_int) pa_nil)) pe_int) pe_int) (pa_cons (pe_op oSub (pe_op oMod (pe_callTy kInt (by rfl) T.z_int (by decide +kernel) (pa_cons (pe_op oDiv (pv 0) pe_int) pa_nil)) pe_int) pe_int) (pa_cons (pe_op oSub (pe_op oMod (pe_callTy kInt (by rfl) T.z_int (by decide +kernel) (pa_cons (pe_op oDiv (pv 0) pe_int) pa_nil)) pe_int) pe_int) pa_nil)))))
    (pss_one (ps_ret (xMc (K := K) (mk_Capsule (K := K) T) (hr.mono (by decide)) rfl (pa_cons (pe_op oMod (pe_callTy kInt (by rfl) T.z_int (by decide +kernel) (pa_cons (pe_op oDiv (pv 0) pe_int) pa_nil)) (pe_op oAdd (pv 1) pe_int)) (pa_cons (xMc (K := K) (mk_Body (K := K) T) (hr.mono (by decide)) rfl (pa_cons (pv 2) (pa_cons (pv 3) (pa_cons (pe_op oMod (pe_callTy kInt (by rfl) T.z_int (by decide +kernel) (pa_cons (pe_op oDiv (pv 0) pe_int) pa_nil)) pe_int) pa_nil)))) pa_nil))))))), fun z hz B Nx Rt Bk Ct k => ?_⟩
  obtain ⟨N, row, links⟩ := z
  (try dsimp only at hz k ⊢)
  obtain ⟨hl1, hl2⟩ := hz
  have o0 := md (x := row) (n := 61) (by decide)
  have o1 := md (x := row / 61) (n := 61) (by decide)
  have o2 := md (x := row / 3721) (n := 121) (by decide)
  have o3 := md (x := row / 450241) (n := 61) (by decide)
  have o4 := md (x := row / 7) (n := 61) (by decide)
  have o5 := md (x := row / 13) (n := 121) (by decide)
  have hr := md (x := row / 11) (n := 12) (by decide)
  have hk := md (x := row / 97) (n := links + 1) (by omega)
  refine go_seq (go_asg (e1 := (tV K 24).en (row % 61 - 30, row / 61 % 61 - 30, row / 3721 % 121 - 60)) (ev_tup (ea_cons ?_ (ea_cons ?_ (ea_cons ?_ ea_nil)))) ?_)
  · exact ev_narrow (ev_sub (ev_mod (ev_intc (ev_var rfl)) (ev_int64 (by decide)) (by decide)) (ev_int64 (by decide))) (bd24 (by show _ < row % 61 - 30 ∧ row % 61 - 30 < _; omega))
  · exact ev_narrow (ev_sub (ev_mod (ev_intc (ev_div (ev_var rfl) (ev_int64 (by decide)) (by decide) (by decide))) (ev_int64 (by decide)) (by decide)) (ev_int64 (by decide))) (bd24 (by show _ < row / 61 % 61 - 30 ∧ row / 61 % 61 - 30 < _; omega))
  · exact ev_narrow (ev_sub (ev_mod (ev_intc (ev_div (ev_var rfl) (ev_int64 (by decide)) (by decide) (by decide))) (ev_int64 (by decide)) (by decide)) (ev_int64 (by decide))) (bd24 (by show _ < row / 3721 % 121 - 60 ∧ row / 3721 % 121 - 60 < _; omega))
  refine go_seq (go_asg (e1 := (tV K 24).en (row / 450241 % 61 - 30, row / 7 % 61 - 30, row / 13 % 121 - 60)) (ev_tup (ea_cons ?_ (ea_cons ?_ (ea_cons ?_ ea_nil)))) ?_)
  · exact ev_narrow (ev_sub (ev_mod (ev_intc (ev_div (ev_var rfl) (ev_int64 (by decide)) (by decide) (by decide))) (ev_int64 (by decide)) (by decide)) (ev_int64 (by decide))) (bd24 (by show _ < row / 450241 % 61 - 30 ∧ row / 450241 % 61 - 30 < _; omega))
  · exact ev_narrow (ev_sub (ev_mod (ev_intc (ev_div (ev_var rfl) (ev_int64 (by decide)) (by decide) (by decide))) (ev_int64 (by decide)) (by decide)) (ev_int64 (by decide))) (bd24 (by show _ < row / 7 % 61 - 30 ∧ row / 7 % 61 - 30 < _; omega))
  · exact ev_narrow (ev_sub (ev_mod (ev_intc (ev_div (ev_var rfl) (ev_int64 (by decide)) (by decide) (by decide))) (ev_int64 (by decide)) (by decide)) (ev_int64 (by decide))) (bd24 (by show _ < row / 13 % 121 - 60 ∧ row / 13 % 121 - 60 < _; omega))
  have hb : BdOk ⟨(row % 61 - 30, row / 61 % 61 - 30, row / 3721 % 121 - 60), (row / 450241 % 61 - 30, row / 7 % 61 - 30, row / 13 % 121 - 60), row / 11 % 12⟩ := bd_mk (by omega) (by omega) (by omega) (by omega) (by omega) (by omega) (by omega)
  exact go_ret (ev_ex (e_Capsule ⟨row / 97 % (links + 1), ⟨(row % 61 - 30, row / 61 % 61 - 30, row / 3721 % 121 - 60), (row / 450241 % 61 - 30, row / 7 % 61 - 30, row / 13 % 121 - 60), row / 11 % 12⟩⟩ (ev_narrow (ev_mod (ev_intc (ev_div (ev_var rfl) (ev_int64 (by decide)) (by decide) (by decide))) (ev_add (ev_var rfl) (ev_int64 (by decide))) (by omega)) (bd24 (by show _ < row / 97 % (links + 1) ∧ row / 97 % (links + 1) < _; omega))) (e_Body ⟨(row % 61 - 30, row / 61 % 61 - 30, row / 3721 % 121 - 60), (row / 450241 % 61 - 30, row / 7 % 61 - 30, row / 13 % 121 - 60), row / 11 % 12⟩ (ev_var rfl) (ev_var rfl) (ev_narrow (ev_mod (ev_intc (ev_div (ev_var rfl) (ev_int64 (by decide)) (by decide) (by decide))) (ev_int64 (by decide)) (by decide)) (bd24 (by show _ < row / 11 % 12 ∧ row / 11 % 12 < _; omega))) hb)) ⟨⟨by show _ ≤ row / 97 % (links + 1); omega, by show row / 97 % (links + 1) ≤ _; omega⟩, hb⟩) k
end
section
variable {P : Program} {w : World} {K : PySem.W.Frag} {mg : Str → Option Value} {base : Heap}
def lwVal (j : Jt) (row : Int) (k : Nat) : Int := j.least + (row / ((k : Int) + 1) + row / 1000003 * ((k : Int) + 3)) % (j.most - j.least + 1)
def lwVals (js : List Jt) (row : Int) : List Int := (List.range js.length).map fun k => lwVal (js.getD k default) row k
theorem lwVal_in {j : Jt} (h : JtOk j) (row : Int) (k : Nat) : j.least ≤ lwVal j row k ∧ lwVal j row k ≤ j.most := by
  have := h.range
  obtain ⟨h1, h2⟩ := md (x := row / ((k : Int) + 1) + row / 1000003 * ((k : Int) + 3)) (n := j.most - j.least + 1) (by omega)
  unfold lwVal
  omega
theorem range_getD {f : Nat → Int} {n k : Nat} (h : k < n) : ((List.range n).map f).getD k default = f k := by
  rw [List.getD_eq_getElem?_getD, List.getElem?_map, List.getElem?_range h]; rfl
theorem lwVals_fits {js : List Jt} (h : ∀ j ∈ js, JtOk j) (row : Int) : Fits js (lwVals js row) := by
  refine ⟨map_range_len _ _, fun k hk => ?_⟩
  unfold lwVals
  rw [range_getD hk]
  exact lwVal_in (h _ (getD_mem hk)) row k
theorem fits_set {js : List Jt} {ls : List Int} {k : Nat} {x : Int} (h : Fits js ls) (hk : k < js.length) (hx : (js.getD k default).least ≤ x ∧ x ≤ (js.getD k default).most) : Fits js (ls.set k x) := by
  refine ⟨by rw [List.length_set]; exact h.1, fun i hi => ?_⟩
  have hl := h.1
  by_cases e : k = i
  · subst e
    have e1 : (ls.set k x).getD k default = x := by rw [List.getD_eq_getElem?_getD, List.getElem?_set_self (by omega)]; rfl
    rw [e1]
    exact hx
  · have e1 : (ls.set k x).getD i default = ls.getD i default := by rw [List.getD_eq_getElem?_getD, List.getElem?_set_ne e, ← List.getD_eq_getElem?_getD]
    rw [e1]
    exact h.2 i hi
theorem sc_lw_values : FnScope ["_law_joints", "_law_row", "_law_values_here", "_law_k", "_law_size"] ["_law_joints", "_law_row"] (defScope s_lw_values) := ⟨rfl, rfl, rfl, by decide +kernel, rfl, by decide +kernel, by decide +kernel⟩
def sp_lw_values (K : PySem.W.Frag) : Sp := spOwn (fun (z : Nat × List Jt × Int) => [(yTupL K (tJt K)).en z.2.1, (tI z.1).en z.2.2]) (fun z => z.2.1.length ≤ 6 ∧ ∀ j ∈ z.2.1, JtOk j) (tI 24) (fun z => lwVals z.2.1 z.2.2)
theorem ok_lw_values (T : Txt K mg base) : Fn P w K mg base "_law_values" 1 ["_law_joints", "_law_row"] (sp_lw_values K) := by
  obtain ⟨fd, F⟩ := T.d_lw_values
  have S := sc_lw_values
  refine ⟨_, fd, own_ok F S (fun _ => rfl) 3 rfl (fun cdv A0 outer s H E hr => ?_), T.g_lw_values, F.kp, FunD.bindsN F fun _ _ _ _ _ _ us hl => match us, hl with | [_, _], _ => rfl⟩
  refine ⟨_, (pss_cons (ps_set (i := 2) S.nd rfl (Or.inl rfl) (pe_lst pa_nil))
    (pss_cons (ps_for PassesOwn.never rfl (pi_range1 rfl T.z_range (pa_cons (pe_callB (xLen (K := K)) (by rfl) T.z_len (by decide +kernel) (pa_cons (pv 0) pa_nil)) pa_nil)) (pg_name (i := 3) S.nd rfl (Or.inl rfl)) (pss_cons (ps_set (i := 4) S.nd rfl (Or.inl rfl) (pe_op oAdd (pe_op oSub (xFld (K := K) (xIx (K := K) (pv 0) (pv 3) (fun _ _ => rfl)) rfl) (xFld (K := K) (xIx (K := K) (pv 0) (pv 3) (fun _ _ => rfl)) rfl)) pe_int))
    (pss_one (ps_expr (pe_bm PySem.F.plainAttrs_list PySem.F.slot_list_append PySem.F.type_list_append mt_append (pv 2) (pa_cons (pe_op oAdd (xFld (K := K) (xIx (K := K) (pv 0) (pv 3) (fun _ _ => rfl)) rfl) (pe_op oMod (pe_callTy kInt (by rfl) T.z_int (by decide +kernel) (pa_cons (pe_op oAdd (pe_op oDiv (pv 1) (pe_op oAdd (pv 3) pe_int)) (pe_op oMul (pe_op oDiv (pv 1) pe_int) (pe_op oAdd (pv 3) pe_int))) pa_nil)) (pv 4))) pa_nil))))))
    (pss_one (ps_ret (pv 2))))), fun z hz B Nx Rt Bk Ct k => ?_⟩
  obtain ⟨N, js, row⟩ := z
  (try dsimp only at hz k ⊢)
  obtain ⟨h6, hj⟩ := hz
  refine go_seq (go_asgO (eo_lst (A := tI 24) (xs := []) ea_nil) ?_)
  refine go_seq (go_forR1 (N := js.length) (fun i G' => G' = ⟨startG [(yTupL K (tJt K)).en js, (tI N).en row] 3, .lst 2 (tI 24) ((List.range i).map fun k => lwVal (js.getD k default) row k)⟩) _ (ea_cons (ev_lenTL (ev_var rfl) (by omega)) ea_nil) (by omega) (LeC.refl _) rfl (fun i G' h => by subst h; show (2 : Nat) ≠ 3; decide) (fun i G' hi h => ?_) (fun G' h => ?_))
  · subst h
    have hji := hj _ (getD_mem hi)
    have hr := hji.range
    have hl := hji.least
    have hm := hji.most
    obtain ⟨v1, v2⟩ := lwVal_in hji row i
    refine go_seq (go_asg (ev_add (ev_sub (f_Joint_most T (ev_atT (ev_var rfl) (ev_var rfl) hi)) (f_Joint_least T (ev_atT (ev_var rfl) (ev_var rfl) hi))) (ev_int64 (by decide))) ?_)
    refine go_append (x := lwVal (js.getD i default) row i) (ev_narrow (ev_add (f_Joint_least T (ev_atT (ev_var rfl) (ev_var rfl) hi)) (ev_mod (ev_intc (ev_add (ev_div (ev_var rfl) (ev_add (ev_var rfl) (ev_int64 (by decide))) (by omega) (by decide)) (ev_mulB (ev_div (ev_var rfl) (ev_int64 (by decide)) (by decide) (by decide)) (ev_narrow (m := 64) (ev_add (ev_var rfl) (ev_int64 (by decide))) (bd64 (by omega) (by omega))) (.inl (by decide))))) (ev_var rfl) (by omega))) (bd24 (by omega))) (by rw [map_range_len]; omega) (go_inv _ rfl ?_)
    rw [range_map_succ]
    walk_at "wk"
  · subst h
    exact go_retO k
theorem ev_row {G : Ctx} {ta tb : TE} {N n : Nat} {rows : List Int} {y : Int} (i : Nat) (h : Ev ta G ((tRs K N).en rows)) (hi : Ev tb G ((tI n).en y)) (e : y = (i : Int)) (hr : RowsOk rows) (hl : i < 24) : Ev (tOp (rIx K) ta tb) G ((tI (N + 200)).en (rows.getD i default)) := ev_atL h (ev_is hi e) (by rw [hr.1]; exact hl)
theorem row_nn {rows : List Int} (hr : RowsOk rows) {i : Nat} (h : i < 24) : 0 ≤ rows.getD i default := hr.2 _ (getD_mem (by rw [hr.1]; exact h))
theorem sc_lw_arm : FnScope ["_law_rows_here", "_law_at", "_law_error", "_law_many", "_law_joints", "_law_k", "_law_capsules", "_law_beside"] ["_law_rows_here", "_law_at", "_law_error"] (defScope s_lw_arm) := ⟨rfl, rfl, rfl, by decide +kernel, rfl, by decide +kernel, by decide +kernel⟩
def sp_lw_arm (K : PySem.W.Frag) : Sp := spFam (fun (z : Nat × List Int × Int) => [(tRs K z.1).en z.2.1, (tI 64).en 0, (tI (z.1 + 200)).en z.2.2]) (fun z => RowsOk z.2.1 ∧ 0 ≤ z.2.2) (fun z => (tEx (tAr K) fun a => ArOk a ∧ BeOk a).en ())
theorem ok_lw_arm (T : Txt K mg base) : Fn P w K mg base "_law_arm" 5 ["_law_rows_here", "_law_at", "_law_error"] (sp_lw_arm K) := by
  obtain ⟨fd, F⟩ := T.d_lw_arm
  have S := sc_lw_arm
  refine ⟨_, fd, fam_ok F S (fun _ => rfl) 5 rfl (fun cdv A0 outer s H E hr => ?_), T.g_lw_arm, F.kp, FunD.bindsN F fun _ _ _ _ _ _ us hl => match us, hl with | [_, _, _], _ => rfl⟩
  refine ⟨_, (pss_cons (ps_set (i := 3) S.nd rfl (Or.inr rfl) (pe_op oAdd pe_int (pe_op oMod (pe_callTy kInt (by rfl) T.z_int (by decide +kernel) (pa_cons (xIx (K := K) (pv 0) (pv 1) (fun _ _ => rfl)) pa_nil)) pe_int)))
    (pss_cons (ps_setLc (i := 4) (own := [("_law_k", 5)]) (tt := tYes) rfl S.nd rfl rfl (sw_true rfl rfl rfl (by decide +kernel)) (pi_range1 rfl T.z_range (pa_cons (pv 3) pa_nil)) (blkOk_by (N := ["_law_rows_here", "_law_at", "_law_error", "_law_many", "_law_joints", "_law_k", "_law_capsules", "_law_beside"]) (sc := defScope s_lw_arm) (by decide +kernel)) (fun _ _ _ _ _ => (pg_name (i := 5) S.nd rfl (Or.inl rfl))) (fun _ _ _ _ _ => pts_nil) (fun _ _ _ _ _ => (pe_fn (ok_lw_joint (K := K) T) (hr.mono (by decide)) rfl (pa_cons (xIx (K := K) (pv 0) (pe_op oAdd (pe_op oAdd (pv 1) pe_int) (pv 5)) (fun _ _ => rfl)) (pa_cons (pe_op oMod (pe_callTy kInt (by rfl) T.z_int (by decide +kernel) (pa_cons (pv 2) pa_nil)) (pe_op oAdd pe_int (pe_op oMul pe_int (pv 5)))) pa_nil)))))
    (pss_cons (ps_setLc (i := 6) (own := [("_law_k", 5)]) (tt := tYes) rfl S.nd rfl rfl (sw_true rfl rfl rfl (by decide +kernel)) (pi_range1 rfl T.z_range (pa_cons (pe_op oAdd pe_int (pe_op oMod (pe_callTy kInt (by rfl) T.z_int (by decide +kernel) (pa_cons (pe_op oDiv (xIx (K := K) (pv 0) (pv 1) (fun _ _ => rfl)) pe_int) pa_nil)) pe_int)) pa_nil)) (blkOk_by (N := ["_law_rows_here", "_law_at", "_law_error", "_law_many", "_law_joints", "_law_k", "_law_capsules", "_law_beside"]) (sc := defScope s_lw_arm) (by decide +kernel)) (fun _ _ _ _ _ => (pg_name (i := 5) S.nd rfl (Or.inl rfl))) (fun _ _ _ _ _ => pts_nil) (fun _ _ _ _ _ => (pe_fn (ok_lw_capsule (K := K) T) (hr.mono (by decide)) rfl (pa_cons (xIx (K := K) (pv 0) (pe_op oAdd (pe_op oAdd (pv 1) pe_int) (pv 5)) (fun _ _ => rfl)) (pa_cons (pv 3) pa_nil)))))
    (pss_cons (ps_set (i := 7) S.nd rfl (Or.inl rfl) (pe_lst pa_nil))
    (pss_cons (ps_if (PW.pt (pw_and (pt_cmpR oGt (pe_callB (xLen (K := K)) (by rfl) T.z_len (by decide +kernel) (pa_cons (pv 6) pa_nil)) pe_int (nomark _)) (pw_and1 (pt_cmpR oEq (pe_op oMod (pe_op oDiv (xIx (K := K) (pv 0) (pv 1) (fun _ _ => rfl)) pe_int) pe_int) pe_int (nomark _))))) (pss_one (ps_set (i := 7) S.nd rfl (Or.inl rfl) (pe_lst (pa_cons (pe_tup (pa_cons pe_int (pa_cons pe_int pa_nil))) pa_nil)))) pss_nil)
    (pss_one (ps_ret (xMck (K := K) (mk_Arm (K := K) T) (hr.mono (by decide)) rfl (pa_cons (pv 4) (pa_cons (pv 6) pa_nil)) (pk_cons (pv 7) pk_nil))))))))), fun z hz B Nx Rt Bk Ct k => ?_⟩
  obtain ⟨N, rows, er⟩ := z
  (try dsimp only at hz k ⊢)
  obtain ⟨hr, he⟩ := hz
  have m1 := md (x := rows.getD 0 default) (n := 3) (by decide)
  have m2 := md (x := rows.getD 0 default / 3) (n := 3) (by decide)
  obtain ⟨mn, hmn⟩ : ∃ n : Nat, 1 + rows.getD 0 default % 3 = (n : Int) := ⟨(1 + rows.getD 0 default % 3).toNat, by omega⟩
  obtain ⟨cn, hcn⟩ : ∃ n : Nat, 1 + rows.getD 0 default / 3 % 3 = (n : Int) := ⟨(1 + rows.getD 0 default / 3 % 3).toNat, by omega⟩
  refine go_seq (go_asg (e1 := (tI 64).en (mn : Int)) (ev_narrow (ev_is (ev_add (ev_int64 (by decide)) (ev_mod (ev_intc (ev_row 0 (ev_var rfl) (ev_var rfl) rfl hr (by decide))) (ev_int64 (by decide)) (by decide))) hmn) (bd64 (by omega) (by omega))) ?_)
  refine go_seq (go_asgX ((EvO.ev (K := K) (A := tEx (tJt K) JtOk) (eo_lcR1 (N := mn) (fun _ => ()) (ea_cons (ev_var rfl) ea_nil) (by omega) (by decide) (fun i hi => ?_))).sub ex_lst) fun js hjs => ?_)
  · have hmd := md (x := er) (n := 1 + 200 * (i : Int)) (by omega)
    exact ev_call (ι := Nat × Int × Int) (N + 200, rows.getD (1 + i) default, er % (1 + 200 * (i : Int))) (ea_cons (ev_row (1 + i) (ev_var rfl) (ev_add (ev_add (ev_var rfl) (ev_int64 (by decide))) (ev_var rfl)) (by omega) hr (by omega)) (ea_cons (ev_narrow (ev_mod (ev_intc (ev_var rfl)) (ev_add (ev_int64 (by decide)) (ev_mulB (ev_int64 (by decide)) (ev_var rfl) (.inl (by decide)))) (by omega)) (bd64 (by show _ < er % (1 + 200 * (i : Int)); omega) (by show er % (1 + 200 * (i : Int)) < _; omega))) ea_nil)) ⟨hmd.1, (by show er % (1 + 200 * (i : Int)) ≤ 1000; omega)⟩
  rw [map_range_len] at hjs
  refine go_seq (go_asgX ((EvO.ev (K := K) (A := tEx (tCp K) fun c => (0 ≤ c.link ∧ c.link ≤ (mn : Int)) ∧ BdOk c.body) (eo_lcR1 (N := cn) (fun _ => ()) (ea_cons (ev_is (ev_add (ev_int64 (by decide)) (ev_mod (ev_intc (ev_div (ev_row 0 (ev_var rfl) (ev_var rfl) rfl hr (by decide)) (ev_int64 (by decide)) (by decide) (by decide))) (ev_int64 (by decide)) (by decide))) hcn) ea_nil) (by omega) (by decide) (fun i hi => ?_))).sub ex_lst) fun cs hcs => ?_)
  · exact ev_call (ι := Nat × Int × Int) (N + 200, rows.getD (4 + i) default, (mn : Int)) (ea_cons (ev_row (4 + i) (ev_var rfl) (ev_add (ev_add (ev_var rfl) (ev_int64 (by decide))) (ev_var rfl)) (by omega) hr (by omega)) (ea_cons (ev_var rfl) ea_nil)) ⟨Int.natCast_nonneg _, (by show (mn : Int) ≤ 6; omega)⟩
  rw [map_range_len] at hcs
  obtain ⟨hj1, hj2⟩ := hjs
  obtain ⟨hc1, hc2⟩ := hcs
  refine go_seq (go_asg (EvO.ev (K := K) (eo_lst (A := tPr K) (xs := []) ea_nil)) ?_)
  refine go_join (fun G' => ∃ be : List (Int × Int), be.length ≤ 1 ∧ (∀ q ∈ be, 0 ≤ q.1 ∧ q.1 < q.2 ∧ q.2 < (cs.length : Int)) ∧ G' = ⟨[some ((tRs K N).en rows), some ((tI 64).en 0), some ((tI (N + 200)).en er), some ((tI 64).en (mn : Int)), some ((yLstL K (tJt K)).en js), none, some ((yLstL K (tCp K)).en cs), some ((yLstL K (tPr K)).en be)], .no⟩) (et_and (et_test (ev_gt (ev_lenLL (ev_var rfl) (by omega)) (ev_int64 (by decide)))) (fun _ => et_test (ev_eqI (ev_mod (ev_div (ev_row 0 (ev_var rfl) (ev_var rfl) rfl hr (by decide)) (ev_int64 (by decide)) (by decide) (by decide)) (ev_int64 (by decide)) (by decide)) (ev_int64 (by decide))))) (fun hb Nx' kk => ?_) (fun hb Nx' kk => go_next (kk _ ⟨[], Nat.zero_le _, fun q hq => (nomatch hq), rfl⟩)) ?_
  · have h2 : (2 : Int) < (cs.length : Int) := of_decide_eq_true (Bool.and_eq_true_iff.mp hb).1
    refine go_asg (EvO.ev (K := K) (eo_lst (A := tPr K) (xs := [(0, 2)]) (ea_cons (ev_tup (ea_cons (ev_int64 (by decide)) (ea_cons (ev_int64 (by decide)) ea_nil))) ea_nil))) (kk _ ⟨[(0, 2)], Nat.le_refl _, fun q hq => ?_, rfl⟩)
    rw [List.mem_singleton.mp hq]
    exact ⟨by decide, by decide, h2⟩
  rintro G' ⟨be, hb1, hb2, h⟩
  subst h
  have hok : ArOk ⟨js, cs, be⟩ := ⟨by show 1 ≤ js.length; omega, by show js.length ≤ 6; omega, by show cs.length ≤ 8; omega, fun c hc => ⟨(hc2 c hc).1.1, by have := (hc2 c hc).1.2; show c.link ≤ (js.length : Int); omega⟩, hj2, fun c hc => (hc2 c hc).2, by show be.length ≤ 100; omega⟩
  exact go_ret (ev_ex (e_Arm ⟨js, cs, be⟩ (ev_var rfl) (ev_var rfl) (ev_var rfl) hok hb2) ⟨hok, hb2⟩) k
theorem sc_lw_mover : FnScope ["_law_rows_here", "_law_at", "_law_error", "_law_arm_here", "_law_first", "_law_last", "_law_k", "_law_held"] ["_law_rows_here", "_law_at", "_law_error"] (defScope s_lw_mover) := ⟨rfl, rfl, rfl, by decide +kernel, rfl, by decide +kernel, by decide +kernel⟩
def sp_lw_mover (K : PySem.W.Frag) : Sp := spFam (fun (z : Nat × List Int × Int) => [(tRs K z.1).en z.2.1, (tI 64).en 0, (tI (z.1 + 200)).en z.2.2]) (fun z => RowsOk z.2.1 ∧ 0 ≤ z.2.2) (fun z => (tEx (tMr K) MrOk).en ())
theorem ok_lw_mover (T : Txt K mg base) : Fn P w K mg base "_law_mover" 6 ["_law_rows_here", "_law_at", "_law_error"] (sp_lw_mover K) := by
  obtain ⟨fd, F⟩ := T.d_lw_mover
  have S := sc_lw_mover
  refine ⟨_, fd, fam_ok F S (fun _ => rfl) 5 rfl (fun cdv A0 outer s H E hr => ?_), T.g_lw_mover, F.kp, FunD.bindsN F fun _ _ _ _ _ _ us hl => match us, hl with | [_, _, _], _ => rfl⟩
  refine ⟨_, (pss_cons (ps_set (i := 3) S.nd rfl (Or.inl rfl) (pe_fn (ok_lw_arm (K := K) T) (hr.mono (by decide)) rfl (pa_cons (pv 0) (pa_cons (pv 1) (pa_cons (pv 2) pa_nil)))))
    (pss_cons (ps_set (i := 4) S.nd rfl (Or.inl rfl) (pe_fn (ok_lw_values (K := K) T) (hr.mono (by decide)) rfl (pa_cons (xFld (K := K) (pv 3) rfl) (pa_cons (xIx (K := K) (pv 0) (pe_op oAdd (pv 1) pe_int) (fun _ _ => rfl)) pa_nil))))
    (pss_cons (ps_set (i := 5) S.nd rfl (Or.inl rfl) (pe_fn (ok_lw_values (K := K) T) (hr.mono (by decide)) rfl (pa_cons (xFld (K := K) (pv 3) rfl) (pa_cons (xIx (K := K) (pv 0) (pe_op oAdd (pv 1) pe_int) (fun _ _ => rfl)) pa_nil))))
    (pss_cons (ps_if (pt_cmpR oEq (pe_op oMod (pe_op oDiv (xIx (K := K) (pv 0) (pv 1) (fun _ _ => rfl)) pe_int) pe_int) pe_int (nomark _)) (pss_one (ps_set (i := 5) S.nd rfl (Or.inl rfl) (pe_callTy (xList (K := K)) (by rfl) T.z_list (by decide +kernel) (pa_cons (pv 4) pa_nil)))) pss_nil)
    (pss_cons (ps_for PassesOwn.never rfl (pi_range1 rfl T.z_range (pa_cons (pe_callB (xLen (K := K)) (by rfl) T.z_len (by decide +kernel) (pa_cons (pv 4) pa_nil)) pa_nil)) (pg_name (i := 6) S.nd rfl (Or.inl rfl)) (pss_one (ps_if (pt_cmpR oGt (pe_op oMod (pe_op oDiv (xIx (K := K) (pv 0) (pv 1) (fun _ _ => rfl)) pe_int) pe_int) pe_int (nomark _)) (pss_one (ps_asg (pe_op oAdd (xIx (K := K) (pv 4) (pv 6) (fun _ _ => rfl)) (pe_op oDiv (pe_op oSub (xIx (K := K) (pv 5) (pv 6) (fun _ _ => rfl)) (xIx (K := K) (pv 4) (pv 6) (fun _ _ => rfl))) pe_int)) (pg_sub (pv 5) (pv 6) set_list))) pss_nil)))
    (pss_cons (ps_set (i := 7) S.nd rfl (Or.inl rfl) (pe_lst pa_nil))
    (pss_cons (ps_if (pt_cmpR oEq (pe_op oMod (pe_op oDiv (xIx (K := K) (pv 0) (pv 1) (fun _ _ => rfl)) pe_int) pe_int) pe_int (nomark _)) (pss_one (ps_set (i := 7) S.nd rfl (Or.inl rfl) (pe_lst (pa_cons (xMc (K := K) (mk_Body (K := K) T) (hr.mono (by decide)) rfl (pa_cons (pe_tup (pa_cons pe_int (pa_cons pe_int (pa_cons pe_int pa_nil)))) (pa_cons (pe_tup (pa_cons (pe_op oMod (pe_callTy kInt (by rfl) T.z_int (by decide +kernel) (pa_cons (xIx (K := K) (pv 0) (pe_op oAdd (pv 1) pe_int) (fun _ _ => rfl)) pa_nil)) pe_int) (pa_cons pe_int (pa_cons pe_int pa_nil)))) (pa_cons (pe_op oMod (pe_callTy kInt (by rfl) T.z_int (by decide +kernel) (pa_cons (xIx (K := K) (pv 0) (pe_op oAdd (pv 1) pe_int) (fun _ _ => rfl)) pa_nil)) pe_int) pa_nil)))) pa_nil)))) pss_nil)
    (pss_one (ps_ret (xMc (K := K) (mk_Mover (K := K) T) (hr.mono (by decide)) rfl (pa_cons (pv 3) (pa_cons (xMc (K := K) (mk_Move (K := K) T) (hr.mono (by decide)) rfl (pa_cons (pv 3) (pa_cons (pv 4) (pa_cons (pv 5) pa_nil)))) (pa_cons (pe_callTy (xTup (K := K)) (by rfl) T.z_tuple (by decide +kernel) (pa_cons (pv 7) pa_nil)) pa_nil))))))))))))), fun z hz B Nx Rt Bk Ct k => ?_⟩
  obtain ⟨N, rows, er⟩ := z
  (try dsimp only at hz k ⊢)
  obtain ⟨hr, he⟩ := hz
  refine go_seq (go_asgX (ev_call (ι := Nat × List Int × Int) (N, rows, er) (ea_cons (ev_var rfl) (ea_cons (ev_var rfl) (ea_cons (ev_var rfl) ea_nil))) ⟨hr, he⟩) fun a hab => ?_)
  obtain ⟨ha, hbe⟩ := hab
  have h6 := ha.j6
  refine go_seq (go_asg (EvO.ev (K := K) (eo_call (ι := Nat × List Jt × Int) (N + 200, a.joints, rows.getD 7 default) (ea_cons (f_Arm_joints T (ev_var rfl)) (ea_cons (ev_row 7 (ev_var rfl) (ev_add (ev_var rfl) (ev_int64 (by decide))) rfl hr (by decide)) ea_nil)) ⟨h6, ha.js⟩)) ?_)
  refine go_seq (go_asgO (eo_call (ι := Nat × List Jt × Int) (N + 200, a.joints, rows.getD 8 default) (ea_cons (f_Arm_joints T (ev_var rfl)) (ea_cons (ev_row 8 (ev_var rfl) (ev_add (ev_var rfl) (ev_int64 (by decide))) rfl hr (by decide)) ea_nil)) ⟨h6, ha.js⟩) ?_)
  have hf := lwVals_fits ha.js (rows.getD 7 default)
  have hl0 := lwVals_fits ha.js (rows.getD 8 default)
  dsimp only
  generalize lwVals a.joints (rows.getD 7 default) = fs at hf
  generalize lwVals a.joints (rows.getD 8 default) = ls0 at hl0
  have hfl := hf.1
  refine go_join (fun G' => ∃ ls : List Int, Fits a.joints ls ∧ G' = ⟨[some ((tRs K N).en rows), some ((tI 64).en 0), some ((tI (N + 200)).en er), some ((tAr K).en a), some ((yLstL K (tI 24)).en fs), none, none, none], .lst 5 (tI 24) ls⟩) (et_test (ev_eqI (ev_mod (ev_div (ev_row 0 (ev_var rfl) (ev_var rfl) rfl hr (by decide)) (ev_int64 (by decide)) (by decide) (by decide)) (ev_int64 (by decide)) (by decide)) (ev_int64 (by decide)))) (fun hb Nx' kk => ?_) (fun hb Nx' kk => go_next (kk _ ⟨ls0, hl0, rfl⟩)) ?_
  · exact Go.le (go_asgO (eo_list (ev_var rfl)) (kk _ ⟨fs, hf, rfl⟩)) LeC.noMu
  rintro G' ⟨ls1, hls1, h⟩
  subst h
  refine go_seq (go_forR1 (N := fs.length) (fun i G' => ∃ ls : List Int, Fits a.joints ls ∧ G' = ⟨[some ((tRs K N).en rows), some ((tI 64).en 0), some ((tI (N + 200)).en er), some ((tAr K).en a), some ((yLstL K (tI 24)).en fs), none, none, none], .lst 5 (tI 24) ls⟩) _ (ea_cons (ev_lenLL (ev_var rfl) (by omega)) ea_nil) (by omega) (LeC.refl _) ⟨ls1, hls1, rfl⟩ (fun i G' ⟨_, _, h⟩ => by subst h; show (5 : Nat) ≠ 6; decide) (fun i G' hi ⟨ls, hls, h⟩ => ?_) (fun G' ⟨ls, hls, h⟩ => ?_))
  · subst h
    have hij : i < a.joints.length := by omega
    have hil : i < ls.length := by rw [hls.1]; exact hij
    have b1 := hf.2 i hij
    have b2 := hls.2 i hij
    have hji := ha.js _ (getD_mem hij)
    have q1 := hji.least
    have q2 := hji.most
    have hx : (a.joints.getD i default).least ≤ fs.getD i default + (ls.getD i default - fs.getD i default) / 16 ∧ fs.getD i default + (ls.getD i default - fs.getD i default) / 16 ≤ (a.joints.getD i default).most := by omega
    refine go_if (et_test (ev_gt (ev_mod (ev_div (ev_row 0 (ev_var rfl) (ev_var rfl) rfl hr (by decide)) (ev_int64 (by decide)) (by decide) (by decide)) (ev_int64 (by decide)) (by decide)) (ev_int64 (by decide)))) (fun hb => ?_) (fun hb => go_next (go_inv _ ⟨ls, hls, rfl⟩ (by walk_at "wk")))
    refine go_setItem (x := fs.getD i default + (ls.getD i default - fs.getD i default) / 16) (ev_narrow (ev_add (ev_atL (ev_var rfl) (ev_var rfl) hi) (ev_div (ev_sub (ev_is (ev_mutIx (ev_var rfl) (Int.natCast_nonneg i) (by omega)) rfl) (ev_atL (ev_var rfl) (ev_var rfl) hi)) (ev_int64 (by decide)) (by decide) (by decide))) (bd24 (by omega))) (ev_var rfl) (Int.natCast_nonneg i) (by omega) (go_inv _ ⟨_, fits_set hls hij hx, rfl⟩ (by walk_at "wk"))
  subst h
  refine go_freeze (K := K) (go_seq (go_asg (EvO.ev (K := K) (eo_lst (A := tBd K) (xs := []) ea_nil)) ?_))
  refine go_join (fun G' => ∃ hs : List Bd, hs.length ≤ 1 ∧ (∀ b ∈ hs, BdOk b) ∧ G' = ⟨[some ((tRs K N).en rows), some ((tI 64).en 0), some ((tI (N + 200)).en er), some ((tAr K).en a), some ((yLstL K (tI 24)).en fs), some ((yLstL K (tI 24)).en ls), none, some ((yLstL K (tBd K)).en hs)], .no⟩) (et_test (ev_eqI (ev_mod (ev_div (ev_row 0 (ev_var rfl) (ev_var rfl) rfl hr (by decide)) (ev_int64 (by decide)) (by decide) (by decide)) (ev_int64 (by decide)) (by decide)) (ev_int64 (by decide)))) (fun hb Nx' kk => ?_) (fun hb Nx' kk => go_next (kk _ ⟨[], Nat.zero_le _, fun q hq => (nomatch hq), rfl⟩)) ?_
  · have w1 := md (x := rows.getD 8 default) (n := 40) (by decide)
    have w2 := md (x := rows.getD 7 default) (n := 9) (by decide)
    have hb : BdOk ⟨(0, 0, 20), (rows.getD 8 default % 40, 0, 30), rows.getD 7 default % 9⟩ := bd_mk (by decide) (by decide) (by decide) (by omega) (by decide) (by decide) (by omega)
    refine go_asg (EvO.ev (K := K) (eo_lst (A := tBd K) (xs := [⟨(0, 0, 20), (rows.getD 8 default % 40, 0, 30), rows.getD 7 default % 9⟩]) (ea_cons (e_Body _ (ev_tup (ea_cons (ev_int (by decide)) (ea_cons (ev_int (by decide)) (ea_cons (ev_int (by decide)) ea_nil)))) (ev_tup (ea_cons (ev_narrow (ev_mod (ev_intc (ev_row 8 (ev_var rfl) (ev_add (ev_var rfl) (ev_int64 (by decide))) rfl hr (by decide))) (ev_int64 (by decide)) (by decide)) (bd24 (by show _ < rows.getD 8 default % 40 ∧ rows.getD 8 default % 40 < _; omega))) (ea_cons (ev_int (by decide)) (ea_cons (ev_int (by decide)) ea_nil)))) (ev_narrow (ev_mod (ev_intc (ev_row 7 (ev_var rfl) (ev_add (ev_var rfl) (ev_int64 (by decide))) rfl hr (by decide))) (ev_int64 (by decide)) (by decide)) (bd24 (by show _ < rows.getD 7 default % 9 ∧ rows.getD 7 default % 9 < _; omega))) hb) ea_nil))) (kk _ ⟨_, Nat.le_refl _, fun q hq => by rw [List.mem_singleton.mp hq]; exact hb, rfl⟩)
  rintro G' ⟨hs, hs1, hs2, h⟩
  subst h
  have hok : MrOk ⟨a, ⟨fs, ls⟩, hs⟩ := ⟨ha, hf, hls, by show hs.length ≤ 4; omega, hs2⟩
  exact go_ret (ev_ex (e_Mover ⟨a, ⟨fs, ls⟩, hs⟩ (ev_var rfl) (e_Move a ⟨fs, ls⟩ (ev_var rfl) (ev_var rfl) (ev_var rfl) ha hf hls) (ev_tupL (ev_var rfl)) hok) hok) k
end
section
variable {P : Program} {w : World} {K : PySem.W.Frag} {mg : Str → Option Value} {base : Heap}
def lq (q : P4) : List Int := [q.1, q.2.1, q.2.2.1, q.2.2.2]
abbrev tL (K : PySem.W.Frag) (n : Nat) : Ty (List Int) := yLstL K (tI n)
def stepL (j : Jt) (v : Int × Int) (o p : P4) : P4 := added (if j.turns = true then turned p j.axis (v.1, v.2 * 1000000) else shifted p j.axis (v.1, v.2)) o
def lawTrue (js : List Jt) (vals : List (Int × Int)) (offs : List P4) : Nat → P4 → P4
  | 0, p => p
  | k + 1, p => lawTrue js vals offs k (stepL (js.getD k default) (vals.getD k default) (offs.getD k default) p)
def mlo (j : Jt) (row : Int) (k : Nat) : Int := row / ((k : Int) + 2) % (2 * j.err + 1) - j.err
def meantAt (js : List Jt) (f l : List Int) (p : Int × Int) (row : Int) (k : Nat) : Int × Int := ((f.getD k default + mlo (js.getD k default) row k) * p.2 + (l.getD k default - f.getD k default) * p.1, p.2)
def meant (js : List Jt) (f l : List Int) (p : Int × Int) (row : Int) : List (Int × Int) := (List.range js.length).map (meantAt js f l p row)
def osh (j : Jt) (row : Int) (k t : Nat) : Int := row / (7 * (k : Int) + (t : Int) + 1) % (2 * j.box + 1) - j.box
def offAt (j : Jt) (row : Int) (k : Nat) : P4 := (j.off.1 + osh j row k 0, j.off.2.1 + osh j row k 1, j.off.2.2 + osh j row k 2, 1)
def offsets (js : List Jt) (row : Int) : List P4 := (List.range js.length).map fun k => offAt (js.getD k default) row k
def p4 (v : V3) : P4 := (v.1, v.2.1, v.2.2, 1)
def trueAt (m : Mr) (p : Int × Int) (row : Int) (link : Nat) (v : V3) : P4 := lawTrue m.arm.joints (meant m.arm.joints m.move.first m.move.last p row) (offsets m.arm.joints (row / 7)) link (p4 v)
def trueLine (m : Mr) (p : Int × Int) (row : Int) (i : Nat) : P4 × P4 := (trueAt m p row ((bodies m).getD i default).1.toNat ((bodies m).getD i default).2.first, trueAt m p row ((bodies m).getD i default).1.toNat ((bodies m).getD i default).2.last)
def mixP (l : P4 × P4) (o u : Int) : P4 := (l.1.1 * l.2.2.2.2 * (u - o) + l.2.1 * l.1.2.2.2 * o, l.1.2.1 * l.2.2.2.2 * (u - o) + l.2.2.1 * l.1.2.2.2 * o, l.1.2.2.1 * l.2.2.2.2 * (u - o) + l.2.2.2.1 * l.1.2.2.2 * o, l.1.2.2.2 * l.2.2.2.2 * u)
def aw3 (a b aw bw : Int) : Int := a * bw - b * aw
def farB (a b : P4) (r : Int) : Bool := decide ((r * a.2.2.2 * b.2.2.2) * (r * a.2.2.2 * b.2.2.2) < (a.1 * b.2.2.2 - b.1 * a.2.2.2) * (a.1 * b.2.2.2 - b.1 * a.2.2.2) + (a.2.1 * b.2.2.2 - b.2.1 * a.2.2.2) * (a.2.1 * b.2.2.2 - b.2.1 * a.2.2.2) + (a.2.2.1 * b.2.2.2 - b.2.2.1 * a.2.2.2) * (a.2.2.1 * b.2.2.2 - b.2.2.1 * a.2.2.2))
theorem sc_lw_turned : FnScope ["_law_place", "_law_axis", "_law_value", "_law_over", "_law_under", "_law_one", "_law_two", "_law_straight", "_law_across", "_law_whole", "_law_out"] ["_law_place", "_law_axis", "_law_value"] (defScope s_lw_turned) := ⟨rfl, rfl, rfl, by decide +kernel, rfl, by decide +kernel, by decide +kernel⟩
def sp_lw_turned (K : PySem.W.Frag) : Sp := spFam (fun (z : Nat × P4 × Int × (Int × Int)) => [(tL K z.1).en (lq z.2.1), (tI 24).en z.2.2.1, (yT2 K (tI 64) (tI 64)).en z.2.2.2]) (fun z => z.1 ≤ 100000 ∧ (z.2.2.1 = 0 ∨ z.2.2.1 = 1 ∨ z.2.2.1 = 2)) (fun z => (tL K (z.1 + 602)).en (lq (turned z.2.1 z.2.2.1 (z.2.2.2.1, z.2.2.2.2 * 1000000))))
theorem ok_lw_turned (T : Txt K mg base) : Fn P w K mg base "_law_turned" 1 ["_law_place", "_law_axis", "_law_value"] (sp_lw_turned K) := by
  obtain ⟨fd, F⟩ := T.d_lw_turned
  have S := sc_lw_turned
  refine ⟨_, fd, fam_ok F S (fun _ => rfl) 8 rfl (fun cdv A0 outer s H E hr => ?_), T.g_lw_turned, F.kp, FunD.bindsN F fun _ _ _ _ _ _ us hl => match us, hl with | [_, _, _], _ => rfl⟩
  refine ⟨_, (pss_cons (ps_set (i := 3) S.nd rfl (Or.inl rfl) (xIx (K := K) (pv 2) pe_int (fun _ _ => rfl)))
    (pss_cons (ps_set (i := 4) S.nd rfl (Or.inl rfl) (pe_op oMul (xIx (K := K) (pv 2) pe_int (fun _ _ => rfl)) pe_int))
    (pss_cons (ps_set (i := 5) S.nd rfl (Or.inl rfl) (pe_op oMod (pe_op oAdd (pv 1) pe_int) pe_int))
    (pss_cons (ps_set (i := 6) S.nd rfl (Or.inl rfl) (pe_op oMod (pe_op oAdd (pv 1) pe_int) pe_int))
    (pss_cons (ps_set (i := 7) S.nd rfl (Or.inl rfl) (pe_op oSub (pe_op oMul (pv 4) (pv 4)) (pe_op oMul (pv 3) (pv 3))))
    (pss_cons (ps_set (i := 8) S.nd rfl (Or.inl rfl) (pe_op oMul (pe_op oMul pe_int (pv 3)) (pv 4)))
    (pss_cons (ps_set (i := 9) S.nd rfl (Or.inl rfl) (pe_op oAdd (pe_op oMul (pv 4) (pv 4)) (pe_op oMul (pv 3) (pv 3))))
    (pss_cons (ps_set (i := 10) S.nd rfl (Or.inl rfl) (pe_lst (pa_cons (pe_op oMul (xIx (K := K) (pv 0) pe_int (fun _ _ => rfl)) (pv 9)) (pa_cons (pe_op oMul (xIx (K := K) (pv 0) pe_int (fun _ _ => rfl)) (pv 9)) (pa_cons (pe_op oMul (xIx (K := K) (pv 0) pe_int (fun _ _ => rfl)) (pv 9)) (pa_cons (pe_op oMul (xIx (K := K) (pv 0) pe_int (fun _ _ => rfl)) (pv 9)) pa_nil))))))
    (pss_cons (ps_asg (pe_op oSub (pe_op oMul (xIx (K := K) (pv 0) (pv 5) (fun _ _ => rfl)) (pv 7)) (pe_op oMul (xIx (K := K) (pv 0) (pv 6) (fun _ _ => rfl)) (pv 8))) (pg_sub (pv 10) (pv 5) set_list))
    (pss_cons (ps_asg (pe_op oAdd (pe_op oMul (xIx (K := K) (pv 0) (pv 5) (fun _ _ => rfl)) (pv 8)) (pe_op oMul (xIx (K := K) (pv 0) (pv 6) (fun _ _ => rfl)) (pv 7))) (pg_sub (pv 10) (pv 6) set_list))
    (pss_one (ps_ret (pv 10))))))))))))), fun z hz B Nx Rt Bk Ct k => ?_⟩
  obtain ⟨n, q, a, v⟩ := z
  (try dsimp only at hz k ⊢)
  obtain ⟨hn, ha⟩ := hz
  refine go_seq (go_asg (ev_ixTc (ev_var rfl) rfl) ?_)
  refine go_seq (go_asg (ev_mul (ev_ixTc (ev_var rfl) rfl) (ev_int64 (by decide)) (by decide)) ?_)
  rcases ha with rfl | rfl | rfl
  · refine go_seq (go_asg (ev_is (ev_mod (ev_add (ev_var rfl) (ev_int64 (by decide))) (ev_int64 (by decide)) (by decide)) (show ((0 : Int) + 1) % 3 = 1 from rfl)) ?_)
    refine go_seq (go_asg (ev_is (ev_mod (ev_add (ev_var rfl) (ev_int64 (by decide))) (ev_int64 (by decide)) (by decide)) (show ((0 : Int) + 2) % 3 = 2 from rfl)) ?_)
    refine go_seq (go_asg (ev_sub (ev_mul (ev_var rfl) (ev_var rfl) (by decide)) (ev_mul (ev_var rfl) (ev_var rfl) (by decide))) ?_)
    refine go_seq (go_asg (ev_mul (ev_mul (ev_int64 (by decide)) (ev_var rfl) (by decide)) (ev_var rfl) (by decide)) ?_)
    refine go_seq (go_asg (ev_add (ev_mul (ev_var rfl) (ev_var rfl) (by decide)) (ev_mul (ev_var rfl) (ev_var rfl) (by decide))) ?_)
    refine go_seq (go_asgO (eo_lst (A := tI (n + 602)) (xs := [q.1 * (v.2 * 1000000 * (v.2 * 1000000) + v.1 * v.1), q.2.1 * (v.2 * 1000000 * (v.2 * 1000000) + v.1 * v.1), q.2.2.1 * (v.2 * 1000000 * (v.2 * 1000000) + v.1 * v.1), q.2.2.2 * (v.2 * 1000000 * (v.2 * 1000000) + v.1 * v.1)]) (ea_cons (ev_le (ev_mul (ev_ixLc (ev_var rfl) rfl) (ev_var rfl) (by omega)) (by omega)) (ea_cons (ev_le (ev_mul (ev_ixLc (ev_var rfl) rfl) (ev_var rfl) (by omega)) (by omega)) (ea_cons (ev_le (ev_mul (ev_ixLc (ev_var rfl) rfl) (ev_var rfl) (by omega)) (by omega)) (ea_cons (ev_le (ev_mul (ev_ixLc (ev_var rfl) rfl) (ev_var rfl) (by omega)) (by omega)) ea_nil))))) ?_)
    refine go_seq (go_setItem (x := q.2.1 * (v.2 * 1000000 * (v.2 * 1000000) - v.1 * v.1) - q.2.2.1 * (2 * v.1 * (v.2 * 1000000))) (ev_le (ev_sub (ev_mul (ev_ixL (ev_var rfl) (ev_var rfl) (by decide) rfl) (ev_var rfl) (by omega)) (ev_mul (ev_ixL (ev_var rfl) (ev_var rfl) (by decide) rfl) (ev_var rfl) (by omega))) (by omega)) (ev_var rfl) (by decide) (by show (1 : Int) < 4; decide) ?_)
    refine go_seq (go_setItem (x := q.2.1 * (2 * v.1 * (v.2 * 1000000)) + q.2.2.1 * (v.2 * 1000000 * (v.2 * 1000000) - v.1 * v.1)) (ev_le (ev_add (ev_mul (ev_ixL (ev_var rfl) (ev_var rfl) (by decide) rfl) (ev_var rfl) (by omega)) (ev_mul (ev_ixL (ev_var rfl) (ev_var rfl) (by decide) rfl) (ev_var rfl) (by omega))) (by omega)) (ev_var rfl) (by decide) (by show (2 : Int) < 4; decide) ?_)
    exact go_freeze (go_ret (ev_is (ev_var rfl) rfl) k)
  · refine go_seq (go_asg (ev_is (ev_mod (ev_add (ev_var rfl) (ev_int64 (by decide))) (ev_int64 (by decide)) (by decide)) (show ((1 : Int) + 1) % 3 = 2 from rfl)) ?_)
    refine go_seq (go_asg (ev_is (ev_mod (ev_add (ev_var rfl) (ev_int64 (by decide))) (ev_int64 (by decide)) (by decide)) (show ((1 : Int) + 2) % 3 = 0 from rfl)) ?_)
    refine go_seq (go_asg (ev_sub (ev_mul (ev_var rfl) (ev_var rfl) (by decide)) (ev_mul (ev_var rfl) (ev_var rfl) (by decide))) ?_)
    refine go_seq (go_asg (ev_mul (ev_mul (ev_int64 (by decide)) (ev_var rfl) (by decide)) (ev_var rfl) (by decide)) ?_)
    refine go_seq (go_asg (ev_add (ev_mul (ev_var rfl) (ev_var rfl) (by decide)) (ev_mul (ev_var rfl) (ev_var rfl) (by decide))) ?_)
    refine go_seq (go_asgO (eo_lst (A := tI (n + 602)) (xs := [q.1 * (v.2 * 1000000 * (v.2 * 1000000) + v.1 * v.1), q.2.1 * (v.2 * 1000000 * (v.2 * 1000000) + v.1 * v.1), q.2.2.1 * (v.2 * 1000000 * (v.2 * 1000000) + v.1 * v.1), q.2.2.2 * (v.2 * 1000000 * (v.2 * 1000000) + v.1 * v.1)]) (ea_cons (ev_le (ev_mul (ev_ixLc (ev_var rfl) rfl) (ev_var rfl) (by omega)) (by omega)) (ea_cons (ev_le (ev_mul (ev_ixLc (ev_var rfl) rfl) (ev_var rfl) (by omega)) (by omega)) (ea_cons (ev_le (ev_mul (ev_ixLc (ev_var rfl) rfl) (ev_var rfl) (by omega)) (by omega)) (ea_cons (ev_le (ev_mul (ev_ixLc (ev_var rfl) rfl) (ev_var rfl) (by omega)) (by omega)) ea_nil))))) ?_)
    refine go_seq (go_setItem (x := q.2.2.1 * (v.2 * 1000000 * (v.2 * 1000000) - v.1 * v.1) - q.1 * (2 * v.1 * (v.2 * 1000000))) (ev_le (ev_sub (ev_mul (ev_ixL (ev_var rfl) (ev_var rfl) (by decide) rfl) (ev_var rfl) (by omega)) (ev_mul (ev_ixL (ev_var rfl) (ev_var rfl) (by decide) rfl) (ev_var rfl) (by omega))) (by omega)) (ev_var rfl) (by decide) (by show (2 : Int) < 4; decide) ?_)
    refine go_seq (go_setItem (x := q.2.2.1 * (2 * v.1 * (v.2 * 1000000)) + q.1 * (v.2 * 1000000 * (v.2 * 1000000) - v.1 * v.1)) (ev_le (ev_add (ev_mul (ev_ixL (ev_var rfl) (ev_var rfl) (by decide) rfl) (ev_var rfl) (by omega)) (ev_mul (ev_ixL (ev_var rfl) (ev_var rfl) (by decide) rfl) (ev_var rfl) (by omega))) (by omega)) (ev_var rfl) (by decide) (by show (0 : Int) < 4; decide) ?_)
    exact go_freeze (go_ret (ev_is (ev_var rfl) rfl) k)
  · refine go_seq (go_asg (ev_is (ev_mod (ev_add (ev_var rfl) (ev_int64 (by decide))) (ev_int64 (by decide)) (by decide)) (show ((2 : Int) + 1) % 3 = 0 from rfl)) ?_)
    refine go_seq (go_asg (ev_is (ev_mod (ev_add (ev_var rfl) (ev_int64 (by decide))) (ev_int64 (by decide)) (by decide)) (show ((2 : Int) + 2) % 3 = 1 from rfl)) ?_)
    refine go_seq (go_asg (ev_sub (ev_mul (ev_var rfl) (ev_var rfl) (by decide)) (ev_mul (ev_var rfl) (ev_var rfl) (by decide))) ?_)
    refine go_seq (go_asg (ev_mul (ev_mul (ev_int64 (by decide)) (ev_var rfl) (by decide)) (ev_var rfl) (by decide)) ?_)
    refine go_seq (go_asg (ev_add (ev_mul (ev_var rfl) (ev_var rfl) (by decide)) (ev_mul (ev_var rfl) (ev_var rfl) (by decide))) ?_)
    refine go_seq (go_asgO (eo_lst (A := tI (n + 602)) (xs := [q.1 * (v.2 * 1000000 * (v.2 * 1000000) + v.1 * v.1), q.2.1 * (v.2 * 1000000 * (v.2 * 1000000) + v.1 * v.1), q.2.2.1 * (v.2 * 1000000 * (v.2 * 1000000) + v.1 * v.1), q.2.2.2 * (v.2 * 1000000 * (v.2 * 1000000) + v.1 * v.1)]) (ea_cons (ev_le (ev_mul (ev_ixLc (ev_var rfl) rfl) (ev_var rfl) (by omega)) (by omega)) (ea_cons (ev_le (ev_mul (ev_ixLc (ev_var rfl) rfl) (ev_var rfl) (by omega)) (by omega)) (ea_cons (ev_le (ev_mul (ev_ixLc (ev_var rfl) rfl) (ev_var rfl) (by omega)) (by omega)) (ea_cons (ev_le (ev_mul (ev_ixLc (ev_var rfl) rfl) (ev_var rfl) (by omega)) (by omega)) ea_nil))))) ?_)
    refine go_seq (go_setItem (x := q.1 * (v.2 * 1000000 * (v.2 * 1000000) - v.1 * v.1) - q.2.1 * (2 * v.1 * (v.2 * 1000000))) (ev_le (ev_sub (ev_mul (ev_ixL (ev_var rfl) (ev_var rfl) (by decide) rfl) (ev_var rfl) (by omega)) (ev_mul (ev_ixL (ev_var rfl) (ev_var rfl) (by decide) rfl) (ev_var rfl) (by omega))) (by omega)) (ev_var rfl) (by decide) (by show (0 : Int) < 4; decide) ?_)
    refine go_seq (go_setItem (x := q.1 * (2 * v.1 * (v.2 * 1000000)) + q.2.1 * (v.2 * 1000000 * (v.2 * 1000000) - v.1 * v.1)) (ev_le (ev_add (ev_mul (ev_ixL (ev_var rfl) (ev_var rfl) (by decide) rfl) (ev_var rfl) (by omega)) (ev_mul (ev_ixL (ev_var rfl) (ev_var rfl) (by decide) rfl) (ev_var rfl) (by omega))) (by omega)) (ev_var rfl) (by decide) (by show (1 : Int) < 4; decide) ?_)
    exact go_freeze (go_ret (ev_is (ev_var rfl) rfl) k)
theorem tL_bd {n : Nat} {q : P4} (F : Hp) (v : V) (h : ((tL K n).en (lq q)).ok F v) : bd n q.1 ∧ bd n q.2.1 ∧ bd n q.2.2.1 ∧ bd n q.2.2.2 := by
  obtain ⟨a, vs, _, _, r⟩ := h
  cases r with
  | cons r1 r => cases r with
    | cons r2 r => cases r with
      | cons r3 r => cases r with
        | cons r4 r => exact ⟨r1.2, r2.2, r3.2, r4.2⟩
theorem t2_bd {n m : Nat} {q : Int × Int} (F : Hp) (v : V) (h : ((yT2 K (tI n) (tI m)).en q).ok F v) : bd n q.1 ∧ bd m q.2 := by
  obtain ⟨a, vs, _, _, r⟩ := h
  cases r with
  | cons r1 r => cases r with
    | cons r2 r => exact ⟨r1.2, r2.2⟩
theorem sc_lw_true : FnScope ["_law_joints", "_law_values_here", "_law_offsets_here", "_law_link", "_law_point", "_law_place", "_law_back", "_law_k", "_law_joint_here", "_law_value", "_law_part", "_law_shift", "_law_j"] ["_law_joints", "_law_values_here", "_law_offsets_here", "_law_link", "_law_point"] (defScope s_lw_true) := ⟨rfl, rfl, rfl, by decide +kernel, rfl, by decide +kernel, by decide +kernel⟩
def sp_lw_true (K : PySem.W.Frag) : Sp := spFam (fun (z : List Jt × List (Int × Int) × List P4 × Nat × V3) => [(yTupL K (tJt K)).en z.1, (yLstL K (yT2 K (tI 64) (tI 64))).en z.2.1, (yLstL K (tP K 64)).en z.2.2.1, (tI 64).en (z.2.2.2.1 : Int), (tV K 24).en z.2.2.2.2]) (fun z => Chain z.1 z.2.1 z.2.2.1 ∧ z.2.2.2.1 ≤ z.1.length) (fun z => (tL K 5000).en (lq (lawTrue z.1 z.2.1 z.2.2.1 z.2.2.2.1 (p4 z.2.2.2.2))))
theorem ok_lw_true (T : Txt K mg base) : Fn P w K mg base "_law_true" 2 ["_law_joints", "_law_values_here", "_law_offsets_here", "_law_link", "_law_point"] (sp_lw_true K) := by
  obtain ⟨fd, F⟩ := T.d_lw_true
  have S := sc_lw_true
  refine ⟨_, fd, fam_ok F S (fun _ => rfl) 8 rfl (fun cdv A0 outer s H E hr => ?_), T.g_lw_true, F.kp, FunD.bindsN F fun _ _ _ _ _ _ us hl => match us, hl with | [_, _, _, _, _], _ => rfl⟩
  refine ⟨_, (pss_cons (ps_set (i := 5) S.nd rfl (Or.inr rfl) (pe_lst (pa_cons (xIx (K := K) (pv 4) pe_int (fun _ _ => rfl)) (pa_cons (xIx (K := K) (pv 4) pe_int (fun _ _ => rfl)) (pa_cons (xIx (K := K) (pv 4) pe_int (fun _ _ => rfl)) (pa_cons pe_int pa_nil))))))
    (pss_cons (ps_for PassesOwn.never rfl (pi_range1 rfl T.z_range (pa_cons (pv 3) pa_nil)) (pg_name (i := 6) S.nd rfl (Or.inl rfl)) (pss_cons (ps_set (i := 7) S.nd rfl (Or.inl rfl) (pe_op oSub (pe_op oSub (pv 3) pe_int) (pv 6)))
    (pss_cons (ps_set (i := 8) S.nd rfl (Or.inl rfl) (xIx (K := K) (pv 0) (pv 7) (fun _ _ => rfl)))
    (pss_cons (ps_set (i := 9) S.nd rfl (Or.inr rfl) (xIx (K := K) (pv 1) (pv 7) (fun _ _ => rfl)))
    (pss_cons (ps_if (pt_val (xFld (K := K) (pv 8) rfl)) (pss_one (ps_set (i := 5) S.nd rfl (Or.inr rfl) (pe_fn (ok_lw_turned (K := K) T) (hr.mono (by decide)) rfl (pa_cons (pv 5) (pa_cons (xFld (K := K) (pv 8) rfl) (pa_cons (pv 9) pa_nil)))))) (pss_cons (ps_set (i := 5) S.nd rfl (Or.inr rfl) (pe_lc (own := [("_law_part", 10)]) (tt := tYes) rfl S.nd (xPil (K := K) (pv 5)) (blkOk_by (N := ["_law_joints", "_law_values_here", "_law_offsets_here", "_law_link", "_law_point", "_law_place", "_law_back", "_law_k", "_law_joint_here", "_law_value", "_law_part", "_law_shift", "_law_j"]) (sc := defScope s_lw_true) (by decide +kernel)) (fun _ _ _ _ _ => (pg_name (i := 10) S.nd rfl (Or.inl rfl))) (fun _ _ _ _ _ => pts_nil) (fun _ _ _ _ _ => (pe_op oMul (pv 10) (xIx (K := K) (pv 9) pe_int (fun _ _ => rfl))))))
    (pss_one (ps_asg (pe_op oAdd (xIx (K := K) (pv 5) (xFld (K := K) (pv 8) rfl) (fun _ _ => rfl)) (pe_op oDiv (pe_op oMul (xIx (K := K) (pv 9) pe_int (fun _ _ => rfl)) (xIx (K := K) (pv 5) pe_int (fun _ _ => rfl))) (xIx (K := K) (pv 9) pe_int (fun _ _ => rfl)))) (pg_sub (pv 5) (xFld (K := K) (pv 8) rfl) set_list)))))
    (pss_cons (ps_set (i := 11) S.nd rfl (Or.inr rfl) (xIx (K := K) (pv 2) (pv 7) (fun _ _ => rfl)))
    (pss_one (ps_set (i := 5) S.nd rfl (Or.inr rfl) (pe_op oCat (pe_lc (own := [("_law_j", 12)]) (tt := tYes) rfl S.nd (pi_range1 rfl T.z_range (pa_cons pe_int pa_nil)) (blkOk_by (N := ["_law_joints", "_law_values_here", "_law_offsets_here", "_law_link", "_law_point", "_law_place", "_law_back", "_law_k", "_law_joint_here", "_law_value", "_law_part", "_law_shift", "_law_j"]) (sc := defScope s_lw_true) (by decide +kernel)) (fun _ _ _ _ _ => (pg_name (i := 12) S.nd rfl (Or.inl rfl))) (fun _ _ _ _ _ => pts_nil) (fun _ _ _ _ _ => (pe_op oAdd (pe_op oMul (xIx (K := K) (pv 5) (pv 12) (fun _ _ => rfl)) (xIx (K := K) (pv 11) pe_int (fun _ _ => rfl))) (pe_op oMul (xIx (K := K) (pv 11) (pv 12) (fun _ _ => rfl)) (xIx (K := K) (pv 5) pe_int (fun _ _ => rfl)))))) (pe_lst (pa_cons (pe_op oMul (xIx (K := K) (pv 5) pe_int (fun _ _ => rfl)) (xIx (K := K) (pv 11) pe_int (fun _ _ => rfl))) pa_nil)))))))))))
    (pss_one (ps_ret (pv 5))))), fun z hz B Nx Rt Bk Ct k => ?_⟩
  obtain ⟨js, vals, offs, link, pt⟩ := z
  (try dsimp only at hz k ⊢)
  obtain ⟨hc, hl⟩ := hz
  have h6 := hc.j6
  refine go_seq (go_asg (e1 := (tL K 64).en (lq (p4 pt))) (ev_is (EvO.ev (K := K) (eo_lst (A := tI 64) (xs := [pt.1, pt.2.1, pt.2.2, 1]) (ea_cons (ev_le (ev_ixTc (ev_var rfl) rfl) (by decide)) (ea_cons (ev_le (ev_ixTc (ev_var rfl) rfl) (by decide)) (ea_cons (ev_le (ev_ixTc (ev_var rfl) rfl) (by decide)) (ea_cons (ev_int64 (by decide)) ea_nil)))))) rfl) ?_)
  refine go_seq (go_forR1 (N := link) (fun i G' => ∃ q : P4, lawTrue js vals offs (link - i) q = lawTrue js vals offs link (p4 pt) ∧ G' = ⟨startG [(yTupL K (tJt K)).en js, (yLstL K (yT2 K (tI 64) (tI 64))).en vals, (yLstL K (tP K 64)).en offs, (tI 64).en (link : Int), (tV K 24).en pt, (tL K (64 + 800 * i)).en (lq q)] 7, .no⟩) _ (ea_cons (ev_var rfl) ea_nil) (by omega) (LeC.refl _) ⟨_, rfl, rfl⟩ (fun i G' ⟨_, _, h⟩ => by subst h; exact trivial) (fun i G' hi ⟨q, hq, h⟩ => ?_) (fun G' ⟨q, hq, h⟩ => ?_))
  · subst h
    have hk : link - 1 - i < js.length := by omega
    have hkv : link - 1 - i < vals.length := by rw [hc.l1]; exact hk
    have hko : link - 1 - i < offs.length := by rw [hc.l2]; exact hk
    have hj := hc.js _ (getD_mem hk)
    have hv := hc.vs _ (getD_mem hkv)
    generalize hjj : js.getD (link - 1 - i) default = j at hj
    generalize hvv : vals.getD (link - 1 - i) default = v at hv
    generalize hoo : offs.getD (link - 1 - i) default = o
    have hstep : ∀ q2 : P4, q2 = stepL j v o q → lawTrue js vals offs (link - (i + 1)) q2 = lawTrue js vals offs link (p4 pt) := fun q2 e => by
      rw [← hq, show link - i = (link - 1 - i) + 1 by omega, e]
      show _ = lawTrue js vals offs (link - 1 - i) (stepL (js.getD (link - 1 - i) default) (vals.getD (link - 1 - i) default) (offs.getD (link - 1 - i) default) q)
      rw [hjj, hvv, hoo, show link - (i + 1) = link - 1 - i by omega]
    refine go_seq (go_asg (e1 := (tI 64).en ((link - 1 - i : Nat) : Int)) (ev_narrow (ev_is (ev_sub (ev_sub (ev_var rfl) (ev_int64 (by decide))) (ev_var rfl)) (by omega)) (bd64 (by omega) (by omega))) ?_)
    refine go_seq (go_asg (ev_is (ev_atT (ev_var rfl) (ev_var rfl) hk) hjj) ?_)
    refine go_seq (go_asg (ev_is (ev_atL (ev_var rfl) (ev_var rfl) hkv) hvv) ?_)
    refine go_join (fun G' => ∃ q1 : P4, q1 = (if j.turns = true then turned q j.axis (v.1, v.2 * 1000000) else shifted q j.axis (v.1, v.2)) ∧ G' = ⟨[some ((yTupL K (tJt K)).en js), some ((yLstL K (yT2 K (tI 64) (tI 64))).en vals), some ((yLstL K (tP K 64)).en offs), some ((tI 64).en (link : Int)), some ((tV K 24).en pt), some ((tL K (64 + 800 * i + 602)).en (lq q1)), some ((tI 64).en (i : Int)), some ((tI 64).en ((link - 1 - i : Nat) : Int)), some ((tJt K).en j), some ((yT2 K (tI 64) (tI 64)).en v), none, none, none], .no⟩) (et_B (f_Joint_turns T (ev_var rfl))) (fun hb Nx' kk => ?_) (fun hb Nx' kk => ?_) ?_
    · exact go_asg (ev_call (ι := Nat × P4 × Int × (Int × Int)) (64 + 800 * i, q, j.axis, v) (ea_cons (ev_var rfl) (ea_cons (f_Joint_axis T (ev_var rfl)) (ea_cons (ev_var rfl) ea_nil))) ⟨(show 64 + 800 * i ≤ 100000 by omega), hj.axis⟩) (kk _ ⟨_, (by rw [if_pos hb]), rfl⟩)
    · refine go_fact (i := 5) rfl tL_bd fun hq4 => ?_
      refine go_fact (i := 9) rfl t2_bd fun hv2 => ?_
      refine go_seq (go_asgO (eo_lcL (A := tI (64 + 800 * i + 602)) (fun x => x * v.2) (ev_var rfl) (by show (4 : Nat) ≤ _; decide) (by decide) (fun x hx => ev_le (ev_mul (ev_var rfl) (ev_ixTc (ev_var rfl) rfl) (by omega)) (by omega))) ?_)
      rw [if_neg (by rw [hb]; decide)] at kk
      rcases hj.axis with hax | hax | hax
      · have ex : q.1 * v.2 + v.1 * (q.2.2.2 * v.2) / v.2 = q.1 * v.2 + v.1 * q.2.2.2 := by rw [← Int.mul_assoc, Int.mul_ediv_cancel _ (show v.2 ≠ 0 by omega)]
        refine go_setItem (x := q.1 * v.2 + v.1 * q.2.2.2) (ev_narrow (ev_is (ev_add (ev_mutIx (ev_is (f_Joint_axis T (ev_var rfl)) hax) (by decide) (by show (0 : Int) < 4; decide)) (ev_div (ev_mul (ev_ixTc (ev_var rfl) rfl) (ev_mutIx (y := 3) (ev_int64 (by decide)) (by decide) (by show (3 : Int) < 4; decide)) (by omega)) (ev_ixTc (ev_var rfl) rfl) hv (by decide))) ex) (bd_mono (by omega) (bd_add (bd_mul hq4.1 hv2.2) (bd_mul hv2.1 hq4.2.2.2)))) (ev_is (f_Joint_axis T (ev_var rfl)) hax) (by decide) (by show (0 : Int) < 4; decide) (go_freeze (kk _ ⟨shifted q 0 (v.1, v.2), (by rw [hax]), rfl⟩))
      · have ex : q.2.1 * v.2 + v.1 * (q.2.2.2 * v.2) / v.2 = q.2.1 * v.2 + v.1 * q.2.2.2 := by rw [← Int.mul_assoc, Int.mul_ediv_cancel _ (show v.2 ≠ 0 by omega)]
        refine go_setItem (x := q.2.1 * v.2 + v.1 * q.2.2.2) (ev_narrow (ev_is (ev_add (ev_mutIx (ev_is (f_Joint_axis T (ev_var rfl)) hax) (by decide) (by show (1 : Int) < 4; decide)) (ev_div (ev_mul (ev_ixTc (ev_var rfl) rfl) (ev_mutIx (y := 3) (ev_int64 (by decide)) (by decide) (by show (3 : Int) < 4; decide)) (by omega)) (ev_ixTc (ev_var rfl) rfl) hv (by decide))) ex) (bd_mono (by omega) (bd_add (bd_mul hq4.2.1 hv2.2) (bd_mul hv2.1 hq4.2.2.2)))) (ev_is (f_Joint_axis T (ev_var rfl)) hax) (by decide) (by show (1 : Int) < 4; decide) (go_freeze (kk _ ⟨shifted q 1 (v.1, v.2), (by rw [hax]), rfl⟩))
      · have ex : q.2.2.1 * v.2 + v.1 * (q.2.2.2 * v.2) / v.2 = q.2.2.1 * v.2 + v.1 * q.2.2.2 := by rw [← Int.mul_assoc, Int.mul_ediv_cancel _ (show v.2 ≠ 0 by omega)]
        refine go_setItem (x := q.2.2.1 * v.2 + v.1 * q.2.2.2) (ev_narrow (ev_is (ev_add (ev_mutIx (ev_is (f_Joint_axis T (ev_var rfl)) hax) (by decide) (by show (2 : Int) < 4; decide)) (ev_div (ev_mul (ev_ixTc (ev_var rfl) rfl) (ev_mutIx (y := 3) (ev_int64 (by decide)) (by decide) (by show (3 : Int) < 4; decide)) (by omega)) (ev_ixTc (ev_var rfl) rfl) hv (by decide))) ex) (bd_mono (by omega) (bd_add (bd_mul hq4.2.2.1 hv2.2) (bd_mul hv2.1 hq4.2.2.2)))) (ev_is (f_Joint_axis T (ev_var rfl)) hax) (by decide) (by show (2 : Int) < 4; decide) (go_freeze (kk _ ⟨shifted q 2 (v.1, v.2), (by rw [hax]), rfl⟩))
    rintro G' ⟨q1, hq1, h⟩
    subst h
    have h2 : stepL j v o q = added q1 o := by rw [hq1]; rfl
    refine go_seq (go_asg (ev_is (ev_atL (ev_var rfl) (ev_var rfl) hko) hoo) ?_)
    refine go_asg (e1 := (tL K (64 + 800 * (i + 1))).en (lq (added q1 o))) (ev_is (EvO.ev (K := K) (eo_cat (A := tI (64 + 800 * (i + 1))) (eo_lcR1 (N := 3) (fun t => at4 q1 t * o.2.2.2 + at4 o t * q1.2.2.2) (ea_cons (ev_int64 (by decide)) ea_nil) (by decide) (by decide) (fun t ht => ?_)) (eo_lst (xs := [q1.2.2.2 * o.2.2.2]) (ea_cons (ev_le (ev_mul (ev_ixLc (ev_var rfl) rfl) (ev_sub' (ev_ixTc (ev_var rfl) rfl)) (by omega)) (by omega)) ea_nil)) (by rw [map_range_len]; show 3 + 1 ≤ 10000; decide))) rfl) (go_inv _ ⟨_, hstep _ h2.symm, rfl⟩ (by walk_at "wk"))
    have ht3 : t = 0 ∨ t = 1 ∨ t = 2 := by omega
    rcases ht3 with rfl | rfl | rfl
    all_goals
      exact ev_le (ev_add (ev_mul (ev_ixL (ev_var rfl) (ev_var rfl) (by decide) rfl) (ev_sub' (ev_ixTc (ev_var rfl) rfl)) (by omega)) (ev_mul (ev_ixT (ev_var rfl) (ev_var rfl) (by decide) rfl) (ev_ixLc (ev_var rfl) rfl) (by omega))) (by omega)
  · subst h
    rw [Nat.sub_self] at hq
    have hq' : q = lawTrue js vals offs link (p4 pt) := hq
    subst hq'
    exact go_ret ((ev_var rfl).sub (tIs_le (by omega))) k
end
section
variable {P : Program} {w : World} {K : PySem.W.Frag} {mg : Str → Option Value} {base : Heap}
theorem eo_catM {G0 : List (Option Ent)} {i : Nat} {α : Type} {A : Ty α} {xs ys : List α} {tb : TE} (hb : EvO tb ⟨G0, .lst i A xs⟩ A ys) (hl : xs.length + ys.length ≤ 10000) : EvO (tOp aCat (tVar i) tb) ⟨G0, .lst i A xs⟩ A (xs ++ ys) := fun B σ F H a Q q => by
  obtain ⟨p, vs, e, h0, hF, hH, r⟩ := a.mu
  refine ⟨_, e, hb B σ F H a _ fun p2 ws F2 H2 g2 hp2 hp2' e2 r2 => ?_⟩
  have l1 := r.length
  have l2 := r2.length
  exact ⟨p, p2, vs, ws, rfl, rfl, g2.h p _ hH, e2, Nat.le_trans (by omega) (show (10000 : Nat) ≤ sizeLine by decide), fun l hl => q l _ F2 _ (g2.trans (Gr.own g2.s hl)) (none_back g2.h hl) (none_back g2.s hl) upd_same (papp (Paired.mapP r fun _ x z => A.mono g2.f z) r2)⟩
/-- a parameter of the way, as the law takes it -/
def ParOk (p : Int × Int) : Prop := 0 ≤ p.1 ∧ p.1 ≤ p.2 ∧ 1 ≤ p.2 ∧ p.2 ≤ 30
theorem bdk {n : Nat} {x : Int} (h : -(2 ^ n : Int) < x ∧ x < 2 ^ n) : bd n x := bd_of h.1 h.2
theorem mlo_in {j : Jt} (h : JtOk j) (row : Int) (k : Nat) : -j.err ≤ mlo j row k ∧ mlo j row k ≤ j.err := by
  have he := h.err
  obtain ⟨h1, h2⟩ := md (x := row / ((k : Int) + 2)) (n := 2 * j.err + 1) (by omega)
  unfold mlo
  omega
theorem osh_in {j : Jt} (h : JtOk j) (row : Int) (k t : Nat) : -j.box ≤ osh j row k t ∧ osh j row k t ≤ j.box := by
  have he := h.box
  obtain ⟨h1, h2⟩ := md (x := row / (7 * (k : Int) + (t : Int) + 1)) (n := 2 * j.box + 1) (by omega)
  unfold osh
  omega
theorem sc_lw_meant : FnScope ["_law_joints", "_law_first", "_law_last", "_law_part", "_law_row", "_law_values_here", "_law_k", "_law_loose", "_law_over"] ["_law_joints", "_law_first", "_law_last", "_law_part", "_law_row"] (defScope s_lw_meant) := ⟨rfl, rfl, rfl, by decide +kernel, rfl, by decide +kernel, by decide +kernel⟩
def sp_lw_meant (K : PySem.W.Frag) : Sp := spFam (fun (z : Nat × List Jt × Mv × (Int × Int) × Int) => [(yTupL K (tJt K)).en z.2.1, (yTupL K (tI 24)).en z.2.2.1.first, (yTupL K (tI 24)).en z.2.2.1.last, (yT2 K (tI 64) (tI 64)).en z.2.2.2.1, (tI z.1).en z.2.2.2.2]) (fun z => z.2.1.length ≤ 6 ∧ (∀ j ∈ z.2.1, JtOk j) ∧ z.2.2.1.first.length = z.2.1.length ∧ z.2.2.1.last.length = z.2.1.length ∧ ParOk z.2.2.2.1) (fun z => (yLstL K (yT2 K (tI 64) (tI 64))).en (meant z.2.1 z.2.2.1.first z.2.2.1.last z.2.2.2.1 z.2.2.2.2))
theorem ok_lw_meant (T : Txt K mg base) : Fn P w K mg base "_law_meant" 1 ["_law_joints", "_law_first", "_law_last", "_law_part", "_law_row"] (sp_lw_meant K) := by
  obtain ⟨fd, F⟩ := T.d_lw_meant
  have S := sc_lw_meant
  refine ⟨_, fd, fam_ok F S (fun _ => rfl) 4 rfl (fun cdv A0 outer s H E hr => ?_), T.g_lw_meant, F.kp, FunD.bindsN F fun _ _ _ _ _ _ us hl => match us, hl with | [_, _, _, _, _], _ => rfl⟩
  refine ⟨_, (pss_cons (ps_set (i := 5) S.nd rfl (Or.inl rfl) (pe_lst pa_nil))
    (pss_cons (ps_for PassesOwn.never rfl (pi_range1 rfl T.z_range (pa_cons (pe_callB (xLen (K := K)) (by rfl) T.z_len (by decide +kernel) (pa_cons (pv 0) pa_nil)) pa_nil)) (pg_name (i := 6) S.nd rfl (Or.inl rfl)) (pss_cons (ps_set (i := 7) S.nd rfl (Or.inl rfl) (pe_op oSub (pe_op oMod (pe_callTy kInt (by rfl) T.z_int (by decide +kernel) (pa_cons (pe_op oDiv (pv 4) (pe_op oAdd (pv 6) pe_int)) pa_nil)) (pe_op oAdd (pe_op oMul pe_int (xFld (K := K) (xIx (K := K) (pv 0) (pv 6) (fun _ _ => rfl)) rfl)) pe_int)) (xFld (K := K) (xIx (K := K) (pv 0) (pv 6) (fun _ _ => rfl)) rfl)))
    (pss_cons (ps_set (i := 8) S.nd rfl (Or.inl rfl) (pe_op oAdd (pe_op oMul (pe_op oAdd (xIx (K := K) (pv 1) (pv 6) (fun _ _ => rfl)) (pv 7)) (xIx (K := K) (pv 3) pe_int (fun _ _ => rfl))) (pe_op oMul (pe_op oSub (xIx (K := K) (pv 2) (pv 6) (fun _ _ => rfl)) (xIx (K := K) (pv 1) (pv 6) (fun _ _ => rfl))) (xIx (K := K) (pv 3) pe_int (fun _ _ => rfl)))))
    (pss_one (ps_expr (pe_bm PySem.F.plainAttrs_list PySem.F.slot_list_append PySem.F.type_list_append mt_append (pv 5) (pa_cons (pe_tup (pa_cons (pv 8) (pa_cons (xIx (K := K) (pv 3) pe_int (fun _ _ => rfl)) pa_nil))) pa_nil)))))))
    (pss_one (ps_ret (pv 5))))), fun z hz B Nx Rt Bk Ct k => ?_⟩
  obtain ⟨N, js, ⟨f, l⟩, p, row⟩ := z
  (try dsimp only at hz k ⊢)
  obtain ⟨h6, hj, hf, hl, p1, p2, p3, p4⟩ := hz
  refine go_seq (go_asgO (eo_lst (A := yT2 K (tI 64) (tI 64)) (xs := []) ea_nil) ?_)
  refine go_seq (go_forR1 (N := js.length) (fun i G' => G' = ⟨startG [(yTupL K (tJt K)).en js, (yTupL K (tI 24)).en f, (yTupL K (tI 24)).en l, (yT2 K (tI 64) (tI 64)).en p, (tI N).en row] 4, .lst 5 (yT2 K (tI 64) (tI 64)) ((List.range i).map (meantAt js f l p row))⟩) _ (ea_cons (ev_lenTL (ev_var rfl) (by omega)) ea_nil) (by omega) (LeC.refl _) rfl (fun i G' h => by subst h; show (5 : Nat) ≠ 6; decide) (fun i G' hi h => ?_) (fun G' h => ?_))
  · subst h
    have hji := hj _ (getD_mem hi)
    have he := hji.err
    obtain ⟨m1, m2⟩ := mlo_in hji row i
    refine go_seq (go_asg (e1 := (tI 24).en (mlo (js.getD i default) row i)) (ev_narrow (ev_sub (ev_mod (ev_intc (ev_div (ev_var rfl) (ev_add (ev_var rfl) (ev_int64 (by decide))) (by omega) (by decide))) (ev_add (ev_mul (ev_int64 (by decide)) (f_Joint_error T (ev_atT (ev_var rfl) (ev_var rfl) hi)) (by decide)) (ev_int64 (by decide))) (by omega)) (f_Joint_error T (ev_atT (ev_var rfl) (ev_var rfl) hi))) (bd24 (by omega))) ?_)
    have b1 : bd 8 p.1 := bdk (by omega)
    have b2 : bd 8 p.2 := bdk (by omega)
    refine go_seq (go_asg (e1 := (tI 64).en ((f.getD i default + mlo (js.getD i default) row i) * p.2 + (l.getD i default - f.getD i default) * p.1)) (ev_le (ev_add (ev_mul (ev_add (ev_atT (ev_var rfl) (ev_var rfl) (by omega)) (ev_var rfl)) (ev_narrow (ev_ixTc (ev_var rfl) rfl) b2) (by decide)) (ev_mul (ev_sub (ev_atT (ev_var rfl) (ev_var rfl) (by omega)) (ev_atT (ev_var rfl) (ev_var rfl) (by omega))) (ev_narrow (ev_ixTc (ev_var rfl) rfl) b1) (by decide))) (by decide)) ?_)
    refine go_append (x := meantAt js f l p row i) (ev_tup (ea_cons (ev_var rfl) (ea_cons (ev_ixTc (ev_var rfl) rfl) ea_nil))) (by rw [map_range_len]; omega) (go_inv _ rfl ?_)
    rw [range_map_succ]
    walk_at "wk"
  · subst h
    exact go_freeze (go_ret (ev_var rfl) k)
def at3 (p : V3) (i : Nat) : Int := [p.1, p.2.1, p.2.2].getD i default
theorem sc_lw_offsets : FnScope ["_law_joints", "_law_row", "_law_offsets_here", "_law_k", "_law_wide", "_law_shift", "_law_j"] ["_law_joints", "_law_row"] (defScope s_lw_offsets) := ⟨rfl, rfl, rfl, by decide +kernel, rfl, by decide +kernel, by decide +kernel⟩
def sp_lw_offsets (K : PySem.W.Frag) : Sp := spFam (fun (z : Nat × List Jt × Int) => [(yTupL K (tJt K)).en z.2.1, (tI z.1).en z.2.2]) (fun z => z.2.1.length ≤ 6 ∧ ∀ j ∈ z.2.1, JtOk j) (fun z => (yLstL K (tP K 64)).en (offsets z.2.1 z.2.2))
theorem ok_lw_offsets (T : Txt K mg base) : Fn P w K mg base "_law_offsets" 1 ["_law_joints", "_law_row"] (sp_lw_offsets K) := by
  obtain ⟨fd, F⟩ := T.d_lw_offsets
  have S := sc_lw_offsets
  refine ⟨_, fd, fam_ok F S (fun _ => rfl) 5 rfl (fun cdv A0 outer s H E hr => ?_), T.g_lw_offsets, F.kp, FunD.bindsN F fun _ _ _ _ _ _ us hl => match us, hl with | [_, _], _ => rfl⟩
  refine ⟨_, (pss_cons (ps_set (i := 2) S.nd rfl (Or.inl rfl) (pe_lst pa_nil))
    (pss_cons (ps_for PassesOwn.never rfl (pi_range1 rfl T.z_range (pa_cons (pe_callB (xLen (K := K)) (by rfl) T.z_len (by decide +kernel) (pa_cons (pv 0) pa_nil)) pa_nil)) (pg_name (i := 3) S.nd rfl (Or.inr rfl)) (pss_cons (ps_set (i := 4) S.nd rfl (Or.inr rfl) (pe_op oAdd (pe_op oMul pe_int (xFld (K := K) (xIx (K := K) (pv 0) (pv 3) (fun _ _ => rfl)) rfl)) pe_int))
    (pss_cons (ps_set (i := 5) S.nd rfl (Or.inr rfl) (pe_lc (own := [("_law_j", 6)]) (tt := tYes) rfl S.nd (pi_range1 rfl T.z_range (pa_cons pe_int pa_nil)) (blkOk_by (N := ["_law_joints", "_law_row", "_law_offsets_here", "_law_k", "_law_wide", "_law_shift", "_law_j"]) (sc := defScope s_lw_offsets) (by decide +kernel)) (fun _ _ _ _ _ => (pg_name (i := 6) S.nd rfl (Or.inl rfl))) (fun _ _ _ _ _ => pts_nil) (fun _ _ _ _ _ => (pe_op oSub (pe_op oMod (pe_callTy kInt (by rfl) T.z_int (by decide +kernel) (pa_cons (pe_op oDiv (pv 1) (pe_op oAdd (pe_op oAdd (pe_op oMul pe_int (pv 3)) (pv 6)) pe_int)) pa_nil)) (pv 4)) (xFld (K := K) (xIx (K := K) (pv 0) (pv 3) (fun _ _ => rfl)) rfl)))))
    (pss_one (ps_expr (pe_bm PySem.F.plainAttrs_list PySem.F.slot_list_append PySem.F.type_list_append mt_append (pv 2) (pa_cons (pe_callTy (xTup (K := K)) (by rfl) T.z_tuple (by decide +kernel) (pa_cons (pe_op oCat (pe_lc (own := [("_law_j", 6)]) (tt := tYes) rfl S.nd (pi_range1 rfl T.z_range (pa_cons pe_int pa_nil)) (blkOk_by (N := ["_law_joints", "_law_row", "_law_offsets_here", "_law_k", "_law_wide", "_law_shift", "_law_j"]) (sc := defScope s_lw_offsets) (by decide +kernel)) (fun _ _ _ _ _ => (pg_name (i := 6) S.nd rfl (Or.inl rfl))) (fun _ _ _ _ _ => pts_nil) (fun _ _ _ _ _ => (pe_op oAdd (xIx (K := K) (xFld (K := K) (xIx (K := K) (pv 0) (pv 3) (fun _ _ => rfl)) rfl) (pv 6) (fun _ _ => rfl)) (xIx (K := K) (pv 5) (pv 6) (fun _ _ => rfl))))) (pe_lst (pa_cons pe_int pa_nil))) pa_nil)) pa_nil)))))))
    (pss_one (ps_ret (pv 2))))), fun z hz B Nx Rt Bk Ct k => ?_⟩
  obtain ⟨N, js, row⟩ := z
  (try dsimp only at hz k ⊢)
  obtain ⟨h6, hj⟩ := hz
  refine go_seq (go_asgO (eo_lst (A := tP K 64) (xs := []) ea_nil) ?_)
  refine go_seq (go_forR1 (N := js.length) (fun i G' => G' = ⟨startG [(yTupL K (tJt K)).en js, (tI N).en row] 5, .lst 2 (tP K 64) ((List.range i).map fun k => offAt (js.getD k default) row k)⟩) _ (ea_cons (ev_lenTL (ev_var rfl) (by omega)) ea_nil) (by omega) (LeC.refl _) rfl (fun i G' h => by subst h; show (2 : Nat) ≠ 3; decide) (fun i G' hi h => ?_) (fun G' h => ?_))
  · subst h
    have hji := hj _ (getD_mem hi)
    have he := hji.box
    refine go_seq (go_asg (e1 := (tI 64).en (2 * (js.getD i default).box + 1)) (ev_narrow (ev_add (ev_mul (ev_int64 (by decide)) (f_Joint_box T (ev_atT (ev_var rfl) (ev_var rfl) hi)) (by decide)) (ev_int64 (by decide))) (bd64 (by omega) (by omega))) ?_)
    refine go_seq (go_asg (e1 := (tL K 24).en ((List.range 3).map (osh (js.getD i default) row i))) (EvO.ev (eo_lcR1 (N := 3) (osh (js.getD i default) row i) (ea_cons (ev_int64 (by decide)) ea_nil) (by decide) (by decide) (fun t ht => ?_))) ?_)
    · obtain ⟨q1, q2⟩ := osh_in hji row i t
      exact ev_narrow (ev_sub (ev_mod (ev_intc (ev_div (ev_var rfl) (ev_add (ev_add (ev_mulB (ev_int64 (by decide)) (ev_var rfl) (.inl (by decide))) (ev_var rfl)) (ev_int64 (by decide))) (by omega) (by decide))) (ev_var rfl) (by omega)) (f_Joint_box T (ev_atT (ev_var rfl) (ev_var rfl) hi))) (bd24 (by omega))
    refine go_append (x := offAt (js.getD i default) row i) ((ev_tupL (EvO.ev (K := K) (eo_cat (A := tI 64) (eo_lcR1 (N := 3) (fun t => at3 (js.getD i default).off t + osh (js.getD i default) row i t) (ea_cons (ev_int64 (by decide)) ea_nil) (by decide) (by decide) (fun t ht => ?_)) (eo_lst (xs := [1]) (ea_cons (ev_int64 (by decide)) ea_nil)) (by rw [map_range_len]; show 3 + 1 ≤ 10000; decide)))).sub (tP_ofL (q := offAt (js.getD i default) row i) rfl (by show (0 : Int) < 1; decide))) (by rw [map_range_len]; omega) (go_inv _ rfl ?_)
    · have ht3 : t = 0 ∨ t = 1 ∨ t = 2 := by omega
      rcases ht3 with rfl | rfl | rfl
      all_goals
        exact ev_le (ev_add (ev_ixT (f_Joint_offset T (ev_atT (ev_var rfl) (ev_var rfl) hi)) (ev_var rfl) (by decide) rfl) (ev_ixL (ev_var rfl) (ev_var rfl) (by decide) rfl)) (by decide)
    rw [range_map_succ (fun k => offAt (js.getD k default) row k) i]
    walk_at "wk"
  · subst h
    exact go_freeze (go_ret (ev_var rfl) k)
abbrev tPL (K : PySem.W.Frag) : Ty (P4 × P4) := yTup K fun p => [(tL K 5000).en (lq p.1), (tL K 5000).en (lq p.2)]
theorem meant_chain {m : Mr} (h : MrOk m) {p : Int × Int} (hp : ParOk p) (row : Int) : Chain m.arm.joints (meant m.arm.joints m.move.first m.move.last p row) (offsets m.arm.joints (row / 7)) := by
  refine ⟨map_range_len _ _, map_range_len _ _, h.arm.j6, h.arm.js, fun v hv => ?_, fun o ho => ?_⟩
  · obtain ⟨k, _, e⟩ := List.mem_map.mp hv
    rw [← e]
    show 0 < p.2
    have := hp.2.2.1
    omega
  · obtain ⟨k, _, e⟩ := List.mem_map.mp ho
    rw [← e]
    show (0 : Int) < 1
    decide
theorem sc_lw_true_line : FnScope ["_law_mover_here", "_law_part", "_law_row", "_law_at", "_law_joints", "_law_values_here", "_law_offsets_here", "_law_link", "_law_body", "_law_one", "_law_two"] ["_law_mover_here", "_law_part", "_law_row", "_law_at"] (defScope s_lw_true_line) := ⟨rfl, rfl, rfl, by decide +kernel, rfl, by decide +kernel, by decide +kernel⟩
def sp_lw_true_line (K : PySem.W.Frag) : Sp := spFam (fun (z : Nat × Mr × (Int × Int) × Int × Nat) => [(tMr K).en z.2.1, (yT2 K (tI 64) (tI 64)).en z.2.2.1, (tI z.1).en z.2.2.2.1, (tI 64).en (z.2.2.2.2 : Int)]) (fun z => MrOk z.2.1 ∧ ParOk z.2.2.1 ∧ z.2.2.2.2 < (bodies z.2.1).length) (fun z => (tPL K).en (trueLine z.2.1 z.2.2.1 z.2.2.2.1 z.2.2.2.2))
theorem ok_lw_true_line (T : Txt K mg base) : Fn P w K mg base "_law_true_line" 3 ["_law_mover_here", "_law_part", "_law_row", "_law_at"] (sp_lw_true_line K) := by
  obtain ⟨fd, F⟩ := T.d_lw_true_line
  have S := sc_lw_true_line
  refine ⟨_, fd, fam_ok F S (fun _ => rfl) 7 rfl (fun cdv A0 outer s H E hr => ?_), T.g_lw_true_line, F.kp, FunD.bindsN F fun _ _ _ _ _ _ us hl => match us, hl with | [_, _, _, _], _ => rfl⟩
  refine ⟨_, (pss_cons (ps_set (i := 4) S.nd rfl (Or.inl rfl) (xFld (K := K) (xFld (K := K) (pv 0) rfl) rfl))
    (pss_cons (ps_set (i := 5) S.nd rfl (Or.inl rfl) (pe_fn (ok_lw_meant (K := K) T) (hr.mono (by decide)) rfl (pa_cons (pv 4) (pa_cons (xFld (K := K) (xFld (K := K) (pv 0) rfl) rfl) (pa_cons (xFld (K := K) (xFld (K := K) (pv 0) rfl) rfl) (pa_cons (pv 1) (pa_cons (pv 2) pa_nil)))))))
    (pss_cons (ps_set (i := 6) S.nd rfl (Or.inl rfl) (pe_fn (ok_lw_offsets (K := K) T) (hr.mono (by decide)) rfl (pa_cons (pv 4) (pa_cons (pe_op oDiv (pv 2) pe_int) pa_nil))))
    (pss_cons (ps_asg (xIx (K := K) (xMt0 (K := K) T.c_Mover (ok_Mover_bodies (K := K) T) (hr.mono (by decide)) (pv 0)) (pv 3) (fun _ _ => rfl)) (xGtup (K := K) (n := 2) rfl (pgs_cons (pg_name (i := 7) S.nd rfl (Or.inl rfl)) (pgs_cons (pg_name (i := 8) S.nd rfl (Or.inl rfl)) pgs_nil))))
    (pss_cons (ps_set (i := 9) S.nd rfl (Or.inl rfl) (pe_fn (ok_lw_true (K := K) T) (hr.mono (by decide)) rfl (pa_cons (pv 4) (pa_cons (pv 5) (pa_cons (pv 6) (pa_cons (pv 7) (pa_cons (xFld (K := K) (pv 8) rfl) pa_nil)))))))
    (pss_cons (ps_set (i := 10) S.nd rfl (Or.inl rfl) (pe_fn (ok_lw_true (K := K) T) (hr.mono (by decide)) rfl (pa_cons (pv 4) (pa_cons (pv 5) (pa_cons (pv 6) (pa_cons (pv 7) (pa_cons (xFld (K := K) (pv 8) rfl) pa_nil)))))))
    (pss_one (ps_ret (pe_tup (pa_cons (pv 9) (pa_cons (pv 10) pa_nil))))))))))), fun z hz B Nx Rt Bk Ct k => ?_⟩
  obtain ⟨N, m, p, row, i⟩ := z
  (try dsimp only at hz k ⊢)
  obtain ⟨hm, hp, hi⟩ := hz
  have h6 := hm.arm.j6
  refine go_seq (go_asg (f_Arm_joints T (f_Mover_arm T (ev_var rfl))) ?_)
  refine go_seq (go_asg (ev_call (ι := Nat × List Jt × Mv × (Int × Int) × Int) (N, m.arm.joints, m.move, p, row) (ea_cons (ev_var rfl) (ea_cons (f_Move_first T (f_Mover_move T (ev_var rfl))) (ea_cons (f_Move_last T (f_Mover_move T (ev_var rfl))) (ea_cons (ev_var rfl) (ea_cons (ev_var rfl) ea_nil))))) ⟨h6, hm.arm.js, hm.first.1, hm.last.1, hp⟩) ?_)
  refine go_seq (go_asg (ev_call (ι := Nat × List Jt × Int) (N, m.arm.joints, row / 7) (ea_cons (ev_var rfl) (ea_cons (ev_div (ev_var rfl) (ev_int64 (by decide)) (by decide) (by decide)) ea_nil)) ⟨h6, hm.arm.js⟩) ?_)
  obtain ⟨b1, b2, b3⟩ := bodies_ok hm _ (getD_mem hi)
  refine go_seq (go_tup2 (ev_atL (e_bodies T (ev_var rfl) hm) (ev_var rfl) hi) ?_)
  have hch := meant_chain hm hp row
  refine go_seq (go_asg (ev_call (ι := List Jt × List (Int × Int) × List P4 × Nat × V3) (m.arm.joints, meant m.arm.joints m.move.first m.move.last p row, offsets m.arm.joints (row / 7), ((bodies m).getD i default).1.toNat, ((bodies m).getD i default).2.first) (ea_cons (ev_var rfl) (ea_cons (ev_var rfl) (ea_cons (ev_var rfl) (ea_cons (ev_is (ev_var rfl) (nat_cast b1)) (ea_cons (f_Body_first T (ev_var rfl)) ea_nil))))) ⟨hch, (by show ((bodies m).getD i default).1.toNat ≤ m.arm.joints.length; omega)⟩) ?_)
  refine go_seq (go_asg (ev_call (ι := List Jt × List (Int × Int) × List P4 × Nat × V3) (m.arm.joints, meant m.arm.joints m.move.first m.move.last p row, offsets m.arm.joints (row / 7), ((bodies m).getD i default).1.toNat, ((bodies m).getD i default).2.last) (ea_cons (ev_var rfl) (ea_cons (ev_var rfl) (ea_cons (ev_var rfl) (ea_cons (ev_is (ev_var rfl) (nat_cast b1)) (ea_cons (f_Body_last T (ev_var rfl)) ea_nil))))) ⟨hch, (by show ((bodies m).getD i default).1.toNat ≤ m.arm.joints.length; omega)⟩) ?_)
  exact go_ret (ev_tup (ea_cons (ev_var rfl) (ea_cons (ev_var rfl) ea_nil))) k
theorem sc_lw_mix : FnScope ["_law_line", "_law_over", "_law_under", "_law_one", "_law_two", "_law_place", "_law_k"] ["_law_line", "_law_over", "_law_under"] (defScope s_lw_mix) := ⟨rfl, rfl, rfl, by decide +kernel, rfl, by decide +kernel, by decide +kernel⟩
def sp_lw_mix (K : PySem.W.Frag) : Sp := spFam (fun (z : (P4 × P4) × Int × Int) => [(tPL K).en z.1, (tI 64).en z.2.1, (tI 64).en z.2.2]) (fun _ => True) (fun z => (tL K 12000).en (lq (mixP z.1 z.2.1 z.2.2)))
theorem ok_lw_mix (T : Txt K mg base) : Fn P w K mg base "_law_mix" 1 ["_law_line", "_law_over", "_law_under"] (sp_lw_mix K) := by
  obtain ⟨fd, F⟩ := T.d_lw_mix
  have S := sc_lw_mix
  refine ⟨_, fd, fam_ok F S (fun _ => rfl) 4 rfl (fun cdv A0 outer s H E hr => ?_), T.g_lw_mix, F.kp, FunD.bindsN F fun _ _ _ _ _ _ us hl => match us, hl with | [_, _, _], _ => rfl⟩
  refine ⟨_, (pss_cons (ps_set (i := 3) S.nd rfl (Or.inr rfl) (xIx (K := K) (pv 0) pe_int (fun _ _ => rfl)))
    (pss_cons (ps_set (i := 4) S.nd rfl (Or.inr rfl) (xIx (K := K) (pv 0) pe_int (fun _ _ => rfl)))
    (pss_cons (ps_setLc (i := 5) (own := [("_law_k", 6)]) (tt := tYes) rfl S.nd rfl rfl (sw_true rfl rfl rfl (by decide +kernel)) (pi_range1 rfl T.z_range (pa_cons pe_int pa_nil)) (blkOk_by (N := ["_law_line", "_law_over", "_law_under", "_law_one", "_law_two", "_law_place", "_law_k"]) (sc := defScope s_lw_mix) (by decide +kernel)) (fun _ _ _ _ _ => (pg_name (i := 6) S.nd rfl (Or.inl rfl))) (fun _ _ _ _ _ => pts_nil) (fun _ _ _ _ _ => (pe_op oAdd (pe_op oMul (pe_op oMul (xIx (K := K) (pv 3) (pv 6) (fun _ _ => rfl)) (xIx (K := K) (pv 4) pe_int (fun _ _ => rfl))) (pe_op oSub (pv 2) (pv 1))) (pe_op oMul (pe_op oMul (xIx (K := K) (pv 4) (pv 6) (fun _ _ => rfl)) (xIx (K := K) (pv 3) pe_int (fun _ _ => rfl))) (pv 1)))))
    (pss_one (ps_ret (pe_op oCat (pv 5) (pe_lst (pa_cons (pe_op oMul (pe_op oMul (xIx (K := K) (pv 3) pe_int (fun _ _ => rfl)) (xIx (K := K) (pv 4) pe_int (fun _ _ => rfl))) (pv 2)) pa_nil)))))))), fun z hz B Nx Rt Bk Ct k => ?_⟩
  obtain ⟨l, o, u⟩ := z
  (try dsimp only at hz k ⊢)
  refine go_seq (go_asg (ev_ixTc (ev_var rfl) rfl) ?_)
  refine go_seq (go_asg (ev_ixTc (ev_var rfl) rfl) ?_)
  refine go_seq (go_asgO (eo_lcR1 (A := tI 12000) (N := 3) (fun t => at4 l.1 t * l.2.2.2.2 * (u - o) + at4 l.2 t * l.1.2.2.2 * o) (ea_cons (ev_int64 (by decide)) ea_nil) (by decide) (by decide) (fun t ht => ?_)) ?_)
  · have ht3 : t = 0 ∨ t = 1 ∨ t = 2 := by omega
    rcases ht3 with rfl | rfl | rfl
    all_goals
      exact ev_le (ev_add (ev_mul (ev_mul (ev_ixL (ev_var rfl) (ev_var rfl) (by decide) rfl) (ev_ixLc (ev_var rfl) rfl) (by decide)) (ev_sub (ev_var rfl) (ev_var rfl)) (by decide)) (ev_mul (ev_mul (ev_ixL (ev_var rfl) (ev_var rfl) (by decide) rfl) (ev_ixLc (ev_var rfl) rfl) (by decide)) (ev_var rfl) (by decide))) (by decide)
  exact go_ret (ev_is (EvO.ev (K := K) (eo_catM (eo_lst (xs := [l.1.2.2.2 * l.2.2.2.2 * u]) (ea_cons (ev_le (ev_mul (ev_mul (ev_ixLc (ev_var rfl) rfl) (ev_ixLc (ev_var rfl) rfl) (by decide)) (ev_var rfl) (by decide)) (by decide)) ea_nil)) (by rw [map_range_len]; show 3 + 1 ≤ 10000; decide))) rfl) k
theorem sc_lw_far : FnScope ["_law_one", "_law_two", "_law_reach", "_law_away", "_law_k"] ["_law_one", "_law_two", "_law_reach"] (defScope s_lw_far) := ⟨rfl, rfl, rfl, by decide +kernel, rfl, by decide +kernel, by decide +kernel⟩
def sp_lw_far (K : PySem.W.Frag) : Sp := spFam (fun (z : P4 × P4 × Int) => [(tL K 12000).en (lq z.1), (tL K 12000).en (lq z.2.1), (tI 64).en z.2.2]) (fun _ => True) (fun z => tBl.en (farB z.1 z.2.1 z.2.2))
theorem ok_lw_far (T : Txt K mg base) : Fn P w K mg base "_law_far" 1 ["_law_one", "_law_two", "_law_reach"] (sp_lw_far K) := by
  obtain ⟨fd, F⟩ := T.d_lw_far
  have S := sc_lw_far
  refine ⟨_, fd, fam_ok F S (fun _ => rfl) 2 rfl (fun cdv A0 outer s H E hr => ?_), T.g_lw_far, F.kp, FunD.bindsN F fun _ _ _ _ _ _ us hl => match us, hl with | [_, _, _], _ => rfl⟩
  refine ⟨_, (pss_cons (ps_setLc (i := 3) (own := [("_law_k", 4)]) (tt := tYes) rfl S.nd rfl rfl (sw_true rfl rfl rfl (by decide +kernel)) (pi_range1 rfl T.z_range (pa_cons pe_int pa_nil)) (blkOk_by (N := ["_law_one", "_law_two", "_law_reach", "_law_away", "_law_k"]) (sc := defScope s_lw_far) (by decide +kernel)) (fun _ _ _ _ _ => (pg_name (i := 4) S.nd rfl (Or.inl rfl))) (fun _ _ _ _ _ => pts_nil) (fun _ _ _ _ _ => (pe_op oSub (pe_op oMul (xIx (K := K) (pv 0) (pv 4) (fun _ _ => rfl)) (xIx (K := K) (pv 1) pe_int (fun _ _ => rfl))) (pe_op oMul (xIx (K := K) (pv 1) (pv 4) (fun _ _ => rfl)) (xIx (K := K) (pv 0) pe_int (fun _ _ => rfl))))))
    (pss_one (ps_ret (pe_cmpR oGt (pe_op oAdd (pe_op oAdd (pe_op oPow (xIx (K := K) (pv 3) pe_int (fun _ _ => rfl)) pe_int) (pe_op oPow (xIx (K := K) (pv 3) pe_int (fun _ _ => rfl)) pe_int)) (pe_op oPow (xIx (K := K) (pv 3) pe_int (fun _ _ => rfl)) pe_int)) (pe_op oPow (pe_op oMul (pe_op oMul (pv 2) (xIx (K := K) (pv 0) pe_int (fun _ _ => rfl))) (xIx (K := K) (pv 1) pe_int (fun _ _ => rfl))) pe_int) (nomark _))))), fun z hz B Nx Rt Bk Ct k => ?_⟩
  obtain ⟨a, b, r⟩ := z
  (try dsimp only at hz k ⊢)
  refine go_seq (go_asg (e1 := (tL K 24001).en ((List.range 3).map fun t => at4 a t * b.2.2.2 - at4 b t * a.2.2.2)) (EvO.ev (eo_lcR1 (N := 3) (fun t => at4 a t * b.2.2.2 - at4 b t * a.2.2.2) (ea_cons (ev_int64 (by decide)) ea_nil) (by decide) (by decide) (fun t ht => ?_))) ?_)
  · have ht3 : t = 0 ∨ t = 1 ∨ t = 2 := by omega
    rcases ht3 with rfl | rfl | rfl
    all_goals
      exact ev_le (ev_sub (ev_mul (ev_ixL (ev_var rfl) (ev_var rfl) (by decide) rfl) (ev_ixLc (ev_var rfl) rfl) (by decide)) (ev_mul (ev_ixL (ev_var rfl) (ev_var rfl) (by decide) rfl) (ev_ixLc (ev_var rfl) rfl) (by decide))) (by decide)
  exact go_ret (ev_is (ev_gt (ev_add (ev_add (ev_sq (ev_ixLc (ev_var rfl) rfl) (by decide)) (ev_sq (ev_ixLc (ev_var rfl) rfl) (by decide))) (ev_sq (ev_ixLc (ev_var rfl) rfl) (by decide))) (ev_sq (ev_mul (ev_mul (ev_var rfl) (ev_ixLc (ev_var rfl) rfl) (by decide)) (ev_ixLc (ev_var rfl) rfl) (by decide)) (by decide))) rfl) k
end
end Aw
namespace Aw
open PySem
/-! ### the mathematics: places as fractions -/
structure Q3 where
  x : Rat
  y : Rat
  z : Rat
def qadd (p q : Q3) : Q3 := ⟨p.x + q.x, p.y + q.y, p.z + q.z⟩
def qsub (p q : Q3) : Q3 := ⟨p.x - q.x, p.y - q.y, p.z - q.z⟩
def qdot (p q : Q3) : Rat := p.x * q.x + p.y * q.y + p.z * q.z
/-- at most b long -/
def Nm (p : Q3) (b : Rat) : Prop := 0 ≤ b ∧ qdot p p ≤ b * b
theorem sqnn (a : Rat) : 0 ≤ a * a := by
  rcases Rat.le_total (a := 0) (b := a) with h | h
  · exact Rat.mul_nonneg h h
  · have h2 : 0 ≤ -a := by grind
    have := Rat.mul_nonneg h2 h2
    grind
theorem le_of_sq {a b : Rat} (hb : 0 ≤ b) (h : a * a ≤ b * b) : a ≤ b := by
  rcases Rat.le_total (a := a) (b := b) with h1 | h1
  · exact h1
  · by_cases e : a = b
    · grind
    have h2 : 0 < a - b := by grind
    have h3 : 0 < a + b := by grind
    have h4 := Rat.mul_pos h2 h3
    grind
theorem mulmono {a b c d : Rat} (h1 : 0 ≤ a) (h2 : a ≤ b) (h3 : 0 ≤ c) (h4 : c ≤ d) : a * c ≤ b * d := by
  have e1 := Rat.mul_le_mul_of_nonneg_right h2 h3
  have hb : 0 ≤ b := by grind
  have e2 := Rat.mul_le_mul_of_nonneg_left h4 hb
  grind
theorem qdot_nn (p : Q3) : 0 ≤ qdot p p := by
  have h1 := sqnn p.x
  have h2 := sqnn p.y
  have h3 := sqnn p.z
  unfold qdot
  grind
theorem lagr (p q : Q3) : qdot p q * qdot p q ≤ qdot p p * qdot q q := by
  have h1 := sqnn (p.x * q.y - p.y * q.x)
  have h2 := sqnn (p.y * q.z - p.z * q.y)
  have h3 := sqnn (p.z * q.x - p.x * q.z)
  unfold qdot
  grind
theorem cs {p q : Q3} {a b : Rat} (h1 : Nm p a) (h2 : Nm q b) : qdot p q ≤ a * b := by
  refine le_of_sq (Rat.mul_nonneg h1.1 h2.1) ?_
  have e1 := lagr p q
  have e2 := mulmono (qdot_nn p) h1.2 (qdot_nn q) h2.2
  grind
theorem Nm.add {p q : Q3} {a b : Rat} (h1 : Nm p a) (h2 : Nm q b) : Nm (qadd p q) (a + b) := by
  refine ⟨by have := h1.1; have := h2.1; grind, ?_⟩
  have e := cs h1 h2
  have e1 := h1.2
  have e2 := h2.2
  unfold qdot qadd at *
  grind
theorem Nm.mono {p : Q3} {a b : Rat} (h : Nm p a) (hab : a ≤ b) : Nm p b := by
  have h0 := h.1
  refine ⟨by grind, ?_⟩
  have := mulmono h0 hab h0 hab
  have := h.2
  grind
theorem qext {p q : Q3} (h1 : p.x = q.x) (h2 : p.y = q.y) (h3 : p.z = q.z) : p = q := by
  cases p; cases q; simp only at h1 h2 h3; subst h1 h2 h3; rfl
/-- turning about an axis; c and s: cosine and sine -/
def rot (axis : Int) (c s : Rat) (p : Q3) : Q3 :=
  if axis = 0 then ⟨p.x, p.y * c - p.z * s, p.y * s + p.z * c⟩
  else if axis = 1 then ⟨p.z * s + p.x * c, p.y, p.z * c - p.x * s⟩
  else ⟨p.x * c - p.y * s, p.x * s + p.y * c, p.z⟩
def slide (axis : Int) (t : Rat) (p : Q3) : Q3 :=
  if axis = 0 then ⟨p.x + t, p.y, p.z⟩ else if axis = 1 then ⟨p.x, p.y + t, p.z⟩ else ⟨p.x, p.y, p.z + t⟩
/-- c and s stand for the half angle's tangent t -/
structure Cs (t c s : Rat) : Prop where
  c : c * (1 + t * t) = 1 - t * t
  s : s * (1 + t * t) = 2 * t
theorem one_sq (t : Rat) : 1 ≤ 1 + t * t := by have := sqnn t; grind
theorem Cs.ex (t : Rat) : ∃ c s, Cs t c s := by
  have h : (1 + t * t) ≠ 0 := by have := one_sq t; grind
  exact ⟨(1 - t * t) / (1 + t * t), 2 * t / (1 + t * t), ⟨Rat.div_mul_cancel h, Rat.div_mul_cancel h⟩⟩
theorem mul_cancelR {a b c : Rat} (h : c ≠ 0) (e : a * c = b * c) : a = b := by
  have h1 := Rat.mul_inv_cancel c h
  have : a * c * c⁻¹ = b * c * c⁻¹ := by rw [e]
  grind
theorem Cs.one {t c s : Rat} (h : Cs t c s) : c * c + s * s = 1 := by
  have h1 := one_sq t
  refine mul_cancelR (c := (1 + t * t) * (1 + t * t)) (by have := mulmono (by grind : (0 : Rat) ≤ 1) h1 (by grind) h1; grind) ?_
  have e1 := h.c
  have e2 := h.s
  grind
theorem Cs.near {t c s t' c' s' : Rat} (h : Cs t c s) (h' : Cs t' c' s') : (c - c') * (c - c') + (s - s') * (s - s') ≤ 4 * ((t - t') * (t - t')) := by
  have h1 := one_sq t
  have h2 := one_sq t'
  generalize hA : 1 + t * t = A at h1
  generalize hB : 1 + t' * t' = B at h2
  have ec := h.c
  have es := h.s
  have ec' := h'.c
  have es' := h'.s
  rw [hA] at ec es
  rw [hB] at ec' es'
  have hAB : 1 ≤ A * B := by have := mulmono (by grind : (0 : Rat) ≤ 1) h1 (by grind) h2; grind
  have key : ((c - c') * (c - c') + (s - s') * (s - s')) * (A * B) = 4 * ((t - t') * (t - t')) := by
    refine mul_cancelR (c := A * B) (by grind) ?_
    have k1 : (c - c') * (A * B) = 2 * (t' - t) * (t + t') := by
      have : (c - c') * (A * B) = (c * A) * B - (c' * B) * A := by grind
      rw [this, ec, ec', ← hA, ← hB]; grind
    have k2 : (s - s') * (A * B) = 2 * (t - t') * (1 - t * t') := by
      have : (s - s') * (A * B) = (s * A) * B - (s' * B) * A := by grind
      rw [this, es, es', ← hA, ← hB]; grind
    have : ((c - c') * (c - c') + (s - s') * (s - s')) * (A * B) * (A * B) = ((c - c') * (A * B)) * ((c - c') * (A * B)) + ((s - s') * (A * B)) * ((s - s') * (A * B)) := by grind
    rw [this, k1, k2, ← hA, ← hB]; grind
  have hX : 0 ≤ (c - c') * (c - c') + (s - s') * (s - s') := by have := sqnn (c - c'); have := sqnn (s - s'); grind
  have := mulmono hX (by grind : (c - c') * (c - c') + (s - s') * (s - s') ≤ (c - c') * (c - c') + (s - s') * (s - s')) (by grind : (0 : Rat) ≤ 1) hAB
  grind
theorem rot_dot (axis : Int) {c s : Rat} (h : c * c + s * s = 1) (p : Q3) : qdot (rot axis c s p) (rot axis c s p) = qdot p p := by
  unfold rot qdot
  split
  · simp only []
    grind
  · split
    · simp only []
      grind
    · simp only []
      grind
theorem rot_sub (axis : Int) (c s c' s' : Rat) (p p' : Q3) : qsub (rot axis c s p) (rot axis c' s' p') = qadd (rot axis c s (qsub p p')) (qsub (rot axis c s p') (rot axis c' s' p')) := by
  unfold rot qsub qadd
  split
  · refine qext ?_ ?_ ?_ <;> simp only [] <;> grind
  · split
    · refine qext ?_ ?_ ?_ <;> simp only [] <;> grind
    · refine qext ?_ ?_ ?_ <;> simp only [] <;> grind
theorem rot_diff (axis : Int) (c s c' s' : Rat) (p : Q3) : qdot (qsub (rot axis c s p) (rot axis c' s' p)) (qsub (rot axis c s p) (rot axis c' s' p)) ≤ ((c - c') * (c - c') + (s - s') * (s - s')) * qdot p p := by
  have h1 := sqnn p.x
  have h2 := sqnn p.y
  have h3 := sqnn p.z
  have hX : 0 ≤ (c - c') * (c - c') + (s - s') * (s - s') := by have := sqnn (c - c'); have := sqnn (s - s'); grind
  have k1 := Rat.mul_nonneg hX h1
  have k2 := Rat.mul_nonneg hX h2
  have k3 := Rat.mul_nonneg hX h3
  unfold rot qsub qdot
  split
  · simp only []
    grind
  · split
    · simp only []
      grind
    · simp only []
      grind
theorem sq_le {a l : Rat} (h1 : -l ≤ a) (h2 : a ≤ l) : a * a ≤ l * l := by
  have k1 : 0 ≤ l - a := by grind
  have k2 : 0 ≤ l + a := by grind
  have := Rat.mul_nonneg k1 k2
  grind
theorem rot_near {axis : Int} {t c s t' c' s' : Rat} (h : Cs t c s) (h' : Cs t' c' s') {p p' : Q3} {D R l : Rat} (hD : Nm (qsub p p') D) (hR : Nm p' R) (h1 : -l ≤ t - t') (h2 : t - t' ≤ l) : Nm (qsub (rot axis c s p) (rot axis c' s' p')) (D + 2 * R * l) := by
  rw [rot_sub]
  have hl : 0 ≤ l := by grind
  refine Nm.add ⟨hD.1, by rw [rot_dot axis h.one]; exact hD.2⟩ ⟨?_, ?_⟩
  · have := Rat.mul_nonneg hR.1 hl; grind
  · have e1 := rot_diff axis c s c' s' p'
    have e2 := h.near h'
    have e3 := sq_le h1 h2
    have hX : 0 ≤ (c - c') * (c - c') + (s - s') * (s - s') := by have := sqnn (c - c'); have := sqnn (s - s'); grind
    have e4 : (c - c') * (c - c') + (s - s') * (s - s') ≤ 4 * (l * l) := by grind
    have e5 := mulmono hX e4 (qdot_nn p') hR.2
    grind
theorem rot_len {axis : Int} {t c s : Rat} (h : Cs t c s) {p : Q3} {R : Rat} (hR : Nm p R) : Nm (rot axis c s p) R := ⟨hR.1, by rw [rot_dot axis h.one]; exact hR.2⟩
theorem slide_near (axis : Int) {t t' : Rat} {p p' : Q3} {D l : Rat} (hD : Nm (qsub p p') D) (h1 : -l ≤ t - t') (h2 : t - t' ≤ l) : Nm (qsub (slide axis t p) (slide axis t' p')) (D + l) := by
  have hl : 0 ≤ l := by grind
  have e3 := sq_le h1 h2
  unfold slide
  split
  · refine (show qsub ⟨p.x + t, p.y, p.z⟩ ⟨p'.x + t', p'.y, p'.z⟩ = qadd (qsub p p') ⟨t - t', 0, 0⟩ by unfold qsub qadd; refine qext ?_ ?_ ?_ <;> simp only [] <;> grind) ▸ Nm.add hD ⟨hl, ?_⟩
    unfold qdot; simp only []; grind
  · split
    · refine (show qsub ⟨p.x, p.y + t, p.z⟩ ⟨p'.x, p'.y + t', p'.z⟩ = qadd (qsub p p') ⟨0, t - t', 0⟩ by unfold qsub qadd; refine qext ?_ ?_ ?_ <;> simp only [] <;> grind) ▸ Nm.add hD ⟨hl, ?_⟩
      unfold qdot; simp only []; grind
    · refine (show qsub ⟨p.x, p.y, p.z + t⟩ ⟨p'.x, p'.y, p'.z + t'⟩ = qadd (qsub p p') ⟨0, 0, t - t'⟩ by unfold qsub qadd; refine qext ?_ ?_ ?_ <;> simp only [] <;> grind) ▸ Nm.add hD ⟨hl, ?_⟩
      unfold qdot; simp only []; grind
theorem slide_len (axis : Int) {t : Rat} {p : Q3} {R M : Rat} (hR : Nm p R) (h1 : -M ≤ t) (h2 : t ≤ M) : Nm (slide axis t p) (R + M) := by
  have hl : 0 ≤ M := by grind
  have e3 := sq_le h1 h2
  unfold slide
  split
  · refine (show (⟨p.x + t, p.y, p.z⟩ : Q3) = qadd p ⟨t, 0, 0⟩ by unfold qadd; refine qext ?_ ?_ ?_ <;> simp only [] <;> grind) ▸ Nm.add hR ⟨hl, ?_⟩
    unfold qdot; simp only []; grind
  · split
    · refine (show (⟨p.x, p.y + t, p.z⟩ : Q3) = qadd p ⟨0, t, 0⟩ by unfold qadd; refine qext ?_ ?_ ?_ <;> simp only [] <;> grind) ▸ Nm.add hR ⟨hl, ?_⟩
      unfold qdot; simp only []; grind
    · refine (show (⟨p.x, p.y, p.z + t⟩ : Q3) = qadd p ⟨0, 0, t⟩ by unfold qadd; refine qext ?_ ?_ ?_ <;> simp only [] <;> grind) ▸ Nm.add hR ⟨hl, ?_⟩
      unfold qdot; simp only []; grind
end Aw
namespace Aw
open PySem
/-- a place stands at P -/
structure Is (q : P4) (P : Q3) : Prop where
  w : 0 < q.2.2.2
  x : (q.1 : Rat) = P.x * (q.2.2.2 : Rat)
  y : (q.2.1 : Rat) = P.y * (q.2.2.2 : Rat)
  z : (q.2.2.1 : Rat) = P.z * (q.2.2.2 : Rat)
theorem cpos {a : Int} (h : 0 < a) : (0 : Rat) < (a : Rat) := Rat.intCast_pos.mpr h
theorem cne {a : Int} (h : 0 < a) : (a : Rat) ≠ 0 := by have := cpos h; grind
theorem cle {a b : Int} (h : a ≤ b) : (a : Rat) ≤ (b : Rat) := Rat.intCast_le_intCast.mpr h
theorem Is.added {p o : P4} {P O : Q3} (h : Is p P) (g : Is o O) : Is (added p o) (qadd P O) := by
  have := h.x; have := h.y; have := h.z
  have := g.x; have := g.y; have := g.z
  refine ⟨Int.mul_pos h.w g.w, ?_, ?_, ?_⟩
  all_goals
    simp only [Aw.added, qadd, Rat.intCast_add, Rat.intCast_mul]
    grind
theorem Is.reduced {p : P4} {P : Q3} (h : Is p P) : Is (reduced p) P := by
  have hg := common_pos h.w
  obtain ⟨⟨a, ha⟩, ⟨b, hb⟩, ⟨c, hc⟩, ⟨d, hd⟩⟩ := common_dvd p
  have hw := reduced_pos h.w
  have hx := h.x
  have hy := h.y
  have hz := h.z
  have hne := cne hg
  have k : ∀ {x y : Int}, x = common p * y → x / common p = y := fun e => by rw [e, Int.mul_ediv_cancel_left _ (by omega)]
  have hr : Aw.reduced p = (a, b, c, d) := by unfold Aw.reduced; rw [k ha, k hb, k hc, k hd]
  rw [hr] at hw ⊢
  generalize common p = g at ha hb hc hd hne
  rw [ha, hd] at hx
  rw [hb, hd] at hy
  rw [hc, hd] at hz
  simp only [Rat.intCast_mul] at hx hy hz
  refine ⟨hw, mul_cancelR hne ?_, mul_cancelR hne ?_, mul_cancelR hne ?_⟩
  all_goals
    simp only []
    grind
theorem Is.shifted {p : P4} {P : Q3} (axis : Int) {v : Int × Int} {t : Rat} (h : Is p P) (hv : 0 < v.2) (ht : (v.1 : Rat) = t * (v.2 : Rat)) : Is (shifted p axis v) (slide axis t P) := by
  have := h.x; have := h.y; have := h.z
  have hw := Int.mul_pos h.w hv
  unfold Aw.shifted slide
  split
  · refine ⟨hw, ?_, ?_, ?_⟩ <;> simp only [Rat.intCast_add, Rat.intCast_mul] <;> grind
  · split
    · refine ⟨hw, ?_, ?_, ?_⟩ <;> simp only [Rat.intCast_add, Rat.intCast_mul] <;> grind
    · refine ⟨hw, ?_, ?_, ?_⟩ <;> simp only [Rat.intCast_add, Rat.intCast_mul] <;> grind
theorem Is.turned {p : P4} {P : Q3} (axis : Int) {v : Int × Int} {t c s : Rat} (h : Is p P) (hv : 0 < v.2) (ht : (v.1 : Rat) = t * (v.2 : Rat)) (hc : Cs t c s) : Is (turned p axis v) (rot axis c s P) := by
  have hx := h.x; have hy := h.y; have hz := h.z
  have hw := Int.mul_pos h.w (sq_pos (y := v.1) hv)
  have e1 : (v.2 : Rat) * v.2 - v.1 * v.1 = c * ((v.2 : Rat) * v.2 + v.1 * v.1) := by
    have := hc.c
    rw [ht]
    have e : (v.2 : Rat) * v.2 - t * v.2 * (t * v.2) = (1 - t * t) * (v.2 * v.2) := by grind
    have e' : (v.2 : Rat) * v.2 + t * v.2 * (t * v.2) = (1 + t * t) * (v.2 * v.2) := by grind
    rw [e, e', ← this]; grind
  have e2 : 2 * (v.1 : Rat) * v.2 = s * ((v.2 : Rat) * v.2 + v.1 * v.1) := by
    have := hc.s
    rw [ht]
    have e : 2 * (t * (v.2 : Rat)) * v.2 = (2 * t) * (v.2 * v.2) := by grind
    have e' : (v.2 : Rat) * v.2 + t * v.2 * (t * v.2) = (1 + t * t) * (v.2 * v.2) := by grind
    rw [e, e', ← this]; grind
  have two : ((2 : Int) : Rat) = 2 := rfl
  unfold Aw.turned rot
  simp only []
  generalize hS : (v.2 : Rat) * v.2 - v.1 * v.1 = S at e1
  generalize hA : 2 * (v.1 : Rat) * v.2 = A at e2
  generalize hH : (v.2 : Rat) * v.2 + v.1 * v.1 = H at e1 e2
  split
  · refine ⟨hw, ?_, ?_, ?_⟩ <;> simp only [Rat.intCast_add, Rat.intCast_sub, Rat.intCast_mul, two, hS, hA, hH, hx, hy, hz, e1, e2] <;> grind
  · split
    · refine ⟨hw, ?_, ?_, ?_⟩ <;> simp only [Rat.intCast_add, Rat.intCast_sub, Rat.intCast_mul, two, hS, hA, hH, hx, hy, hz, e1, e2] <;> grind
    · refine ⟨hw, ?_, ?_, ?_⟩ <;> simp only [Rat.intCast_add, Rat.intCast_sub, Rat.intCast_mul, two, hS, hA, hH, hx, hy, hz, e1, e2] <;> grind
def vq (v : V3) : Q3 := ⟨v.1, v.2.1, v.2.2⟩
theorem Is.p4 (v : V3) : Is (p4 v) (vq v) := by
  refine ⟨by show (0 : Int) < 1; decide, ?_, ?_, ?_⟩ <;> simp only [Aw.p4, vq] <;> grind
theorem Is.offP (j : Jt) : Is (offP j) (vq j.off) := Is.p4 j.off
/-! roots and lengths -/
theorem rootUp_spec {x : Int} (h : 0 ≤ x) : 0 ≤ rootUp x ∧ x ≤ rootUp x * rootUp x := by
  have h2 := PySem.Float64.isqrt_spec x.toNat
  unfold rootUp
  have e : isq x = ((PySem.Float64.isqrt x.toNat : Nat) : Int) := rfl
  rw [e]
  generalize PySem.Float64.isqrt x.toNat = r at h2
  split
  · rename_i h3
    exact ⟨Int.natCast_nonneg _, by omega⟩
  · refine ⟨by omega, ?_⟩
    have h4 : x.toNat < (r + 1) * (r + 1) := by have := h2.2; first | exact this | (simpa [Nat.pow_two] using this)
    have h5 : ((x.toNat : Nat) : Int) < (((r + 1) * (r + 1) : Nat) : Int) := by omega
    rw [Int.natCast_mul] at h5
    simp only [Int.natCast_add, Int.natCast_one] at h5
    omega
theorem lengthUp_nm (v : V3) : Nm (vq v) (lengthUp v : Int) := by
  obtain ⟨h1, h2⟩ := rootUp_spec (dot_self v)
  refine ⟨by have := cle h1; exact this, ?_⟩
  have h3 := cle h2
  unfold dot at h3
  unfold qdot vq lengthUp
  simp only [Rat.intCast_add, Rat.intCast_mul] at h3 ⊢
  exact h3
theorem divUp_spec {a b : Int} (h : 0 < b) : a ≤ divUp a b * b := by
  unfold divUp
  have := Int.ediv_mul_le (-a) (show b ≠ 0 by omega)
  rw [Int.neg_mul]
  omega
end Aw
namespace Aw
open PySem
theorem rat_div {a b : Int} (h : 0 < b) : ∃ t : Rat, (a : Rat) = t * (b : Rat) := ⟨(a : Rat) / b, (Rat.div_mul_cancel (cne h)).symm⟩
theorem le_cancel {a b c : Rat} (hc : 0 < c) (h : a * c ≤ b * c) : a ≤ b := Rat.le_of_mul_le_mul_right h hc
theorem qsub_add (a b c d : Q3) : qsub (qadd a b) (qadd c d) = qadd (qsub a c) (qsub b d) := by
  unfold qsub qadd
  refine qext ?_ ?_ ?_ <;> simp only [] <;> grind
theorem qsub_trans (a b c : Q3) : qsub a c = qadd (qsub a b) (qsub b c) := by
  unfold qsub qadd
  refine qext ?_ ?_ ?_ <;> simp only [] <;> grind
theorem cube_nm {p : Q3} {b : Rat} (hb : 0 ≤ b) (hx : -b ≤ p.x ∧ p.x ≤ b) (hy : -b ≤ p.y ∧ p.y ≤ b) (hz : -b ≤ p.z ∧ p.z ≤ b) : Nm p (2 * b) := by
  have h1 := sq_le hx.1 hx.2
  have h2 := sq_le hy.1 hy.2
  have h3 := sq_le hz.1 hz.2
  have h4 := sqnn b
  refine ⟨by grind, ?_⟩
  unfold qdot
  grind
/-- true and told places behind one joint -/
theorem step_inv {j : Jt} {v : Int × Int} {mid half : Int} {o : P4} {s : Int × Int} {q q' : P4} {P P' : Q3} (hj : JtOk j) (h1 : Is q P) (h2 : Is q' P') (hR : Nm P' (s.2 : Int)) (hD : Nm (qsub P P') ((s.1 : Rat) - 2))
    (hv : 0 < v.2) (hmid : j.least ≤ mid ∧ mid ≤ j.most) (hd1 : -((half + j.err) * v.2) ≤ v.1 - mid * v.2) (hd2 : v.1 - mid * v.2 ≤ (half + j.err) * v.2)
    {O : Q3} (ho : Is o O) (hoff : Nm (qsub O (vq j.off)) (2 * (j.box : Rat))) :
    ∃ Q Q', Is (stepL j v o q) Q ∧ Is (stepP j (mid, 1) (offP j) q') Q' ∧ Nm Q' ((unkStep j half s).2 : Int) ∧ Nm (qsub Q Q') (((unkStep j half s).1 : Rat) - 2) := by
  have hb := hj.box
  have hb0 : (0 : Rat) ≤ (j.box : Rat) := by have := cle hb.1; exact this
  have hlu := lengthUp_nm j.off
  have c1 := cle hd1
  have c2 := cle hd2
  simp only [Rat.intCast_add, Rat.intCast_sub, Rat.intCast_mul, Rat.intCast_neg] at c1 c2
  obtain ⟨t, ht⟩ := rat_div (a := v.1) hv
  have hvp := cpos hv
  have d1 : -((half : Rat) + j.err) ≤ t - (mid : Rat) := by
    refine le_cancel hvp ?_
    rw [ht] at c1
    grind
  have d2 : t - (mid : Rat) ≤ (half : Rat) + j.err := by
    refine le_cancel hvp ?_
    rw [ht] at c2
    grind
  by_cases ht' : j.turns = true
  · have e6 : ∃ t6 : Rat, t = t6 * 1000000 := ⟨t / 1000000, (Rat.div_mul_cancel (by grind)).symm⟩
    have m6 : ∃ m6 : Rat, (mid : Rat) = m6 * 1000000 := ⟨(mid : Rat) / 1000000, (Rat.div_mul_cancel (by grind)).symm⟩
    have l6 : ∃ l6 : Rat, (half : Rat) + j.err = l6 * 1000000 := ⟨((half : Rat) + j.err) / 1000000, (Rat.div_mul_cancel (by grind)).symm⟩
    obtain ⟨t6, e6⟩ := e6
    obtain ⟨m6, m6e⟩ := m6
    obtain ⟨l6, l6e⟩ := l6
    obtain ⟨c, s', hc⟩ := Cs.ex t6
    obtain ⟨c2', s2', hc'⟩ := Cs.ex m6
    have million : ((1000000 : Int) : Rat) = 1000000 := rfl
    have i1 := h1.turned j.axis (v := (v.1, v.2 * 1000000)) (t := t6) (Int.mul_pos hv (by decide)) (by simp only [Rat.intCast_mul, million]; rw [ht, e6]; grind) hc
    have i2 := h2.turned j.axis (v := (mid, 1 * 1000000)) (t := m6) (by show (0 : Int) < 1 * 1000000; decide) (by show (mid : Rat) = m6 * (((1 * 1000000 : Int)) : Rat); rw [m6e]; rfl) hc'
    have n1 := rot_near (axis := j.axis) hc hc' hD hR (l := l6) (by grind) (by grind)
    have n2 := rot_len (axis := j.axis) hc' hR
    refine ⟨qadd (rot j.axis c s' P) O, qadd (rot j.axis c2' s2' P') (vq j.off), ?_, ?_, ?_, ?_⟩
    · unfold stepL; rw [if_pos ht']; exact i1.added ho
    · unfold stepP; rw [if_pos ht']; exact (i2.added (Is.offP j)).reduced
    · unfold unkStep
      rw [if_pos ht']
      refine (n2.add hlu).mono ?_
      simp only [Rat.intCast_add, Rat.intCast_mul]
      have : ((2 : Int) : Rat) = 2 := rfl
      grind
    · rw [qsub_add]
      refine (n1.add hoff).mono ?_
      unfold unkStep
      rw [if_pos ht']
      have hdu := cle (divUp_spec (a := 2 * s.2 * (half + j.err)) (b := 1000000) (by decide))
      simp only [Rat.intCast_add, Rat.intCast_mul, million] at hdu ⊢
      have two : ((2 : Int) : Rat) = 2 := rfl
      rw [two] at hdu ⊢
      have : 2 * (s.2 : Rat) * l6 ≤ (divUp (2 * s.2 * (half + j.err)) 1000000 : Int) := by
        refine le_cancel (c := 1000000) (by grind) ?_
        rw [l6e] at hdu
        grind
      grind
  · have i1 := h1.shifted j.axis (v := (v.1, v.2)) (t := t) hv ht
    have i2 := h2.shifted j.axis (v := (mid, 1)) (t := (mid : Rat)) (by show (0 : Int) < 1; decide) (by show (mid : Rat) = mid * ((1 : Int) : Rat); have : ((1 : Int) : Rat) = 1 := rfl; grind)
    have n1 := slide_near j.axis hD d1 d2
    have hmx : -(max (iabs j.least) (iabs j.most)) ≤ mid ∧ mid ≤ max (iabs j.least) (iabs j.most) := by unfold iabs; omega
    have x1 := cle hmx.1
    have x2 := cle hmx.2
    rw [Rat.intCast_neg] at x1
    have n2 := slide_len j.axis hR x1 x2
    have he0 := cle hj.err.1
    refine ⟨qadd (slide j.axis t P) O, qadd (slide j.axis (mid : Rat) P') (vq j.off), ?_, ?_, ?_, ?_⟩
    · unfold stepL; rw [if_neg ht']; exact i1.added ho
    · unfold stepP; rw [if_neg ht']; exact (i2.added (Is.offP j)).reduced
    · unfold unkStep
      rw [if_neg ht']
      refine (n2.add hlu).mono ?_
      simp only [Rat.intCast_add, Rat.intCast_mul]
      have two : ((2 : Int) : Rat) = 2 := rfl
      have zero : ((0 : Int) : Rat) = 0 := rfl
      grind
    · rw [qsub_add]
      refine (n1.add hoff).mono ?_
      unfold unkStep
      rw [if_neg ht']
      simp only [Rat.intCast_add, Rat.intCast_mul]
      have two : ((2 : Int) : Rat) = 2 := rfl
      grind
/-- what is known of each joint's value and offset -/
structure Near (js : List Jt) (vals : List (Int × Int)) (offs : List P4) (mids hs : List Int) (k : Nat) : Prop where
  hj : JtOk (js.getD k default)
  hv : 0 < (vals.getD k default).2
  hm : (js.getD k default).least ≤ mids.getD k default ∧ mids.getD k default ≤ (js.getD k default).most
  h1 : -((hs.getD k default + (js.getD k default).err) * (vals.getD k default).2) ≤ (vals.getD k default).1 - mids.getD k default * (vals.getD k default).2
  h2 : (vals.getD k default).1 - mids.getD k default * (vals.getD k default).2 ≤ (hs.getD k default + (js.getD k default).err) * (vals.getD k default).2
  ho : ∃ O, Is (offs.getD k default) O ∧ Nm (qsub O (vq (js.getD k default).off)) (2 * ((js.getD k default).box : Rat))
theorem map_get {α β : Type} [Inhabited α] [Inhabited β] (f : α → β) {xs : List α} {k : Nat} (h : k < xs.length) : (xs.map f).getD k default = f (xs.getD k default) := by
  rw [List.getD_eq_getElem?_getD, List.getElem?_map, List.getElem?_eq_getElem h, List.getD_eq_getElem?_getD, List.getElem?_eq_getElem h]; rfl
theorem chain_inv {js : List Jt} {vals : List (Int × Int)} {offs : List P4} {mids hs : List Int} (hml : mids.length = js.length) : ∀ (k : Nat) (hk : k ≤ js.length) (hn : ∀ i, i < k → Near js vals offs mids hs i) (q q' : P4) (s : Int × Int) (P P' : Q3), Is q P → Is q' P' → Nm P' (s.2 : Int) → Nm (qsub P P') ((s.1 : Rat) - 2) →
    ∃ Q Q', Is (lawTrue js vals offs k q) Q ∧ Is (trueP js (mids.map fun v => (v, 1)) (js.map offP) k q') Q' ∧ Nm Q' ((unk js hs k s).2 : Int) ∧ Nm (qsub Q Q') (((unk js hs k s).1 : Rat) - 2)
  | 0, _, _, q, q', s, P, P', h1, h2, h3, h4 => ⟨P, P', h1, h2, h3, h4⟩
  | k + 1, hk, hn, q, q', s, P, P', h1, h2, h3, h4 => by
    have n := hn k (Nat.lt_succ_self k)
    obtain ⟨O, ho, hoff⟩ := n.ho
    obtain ⟨Q, Q', i1, i2, i3, i4⟩ := step_inv n.hj h1 h2 h3 h4 n.hv n.hm n.h1 n.h2 ho hoff
    unfold lawTrue trueP unk
    rw [map_get (fun v => ((v : Int), (1 : Int))) (xs := mids) (by omega), map_get offP (xs := js) (by omega)]
    exact chain_inv hml k (by omega) (fun i hi => hn i (by omega)) _ _ _ Q Q' i1 i2 i3 i4
theorem floor_near {q : P4} {Q : Q3} (h : Is q Q) : Nm (qsub Q (vq (q.1 / q.2.2.2, q.2.1 / q.2.2.2, q.2.2.1 / q.2.2.2))) 2 := by
  have hw := h.w
  have hp := cpos hw
  have k : ∀ (x : Int) (X : Rat), (x : Rat) = X * (q.2.2.2 : Rat) → -1 ≤ X - ((x / q.2.2.2 : Int) : Rat) ∧ X - ((x / q.2.2.2 : Int) : Rat) ≤ 1 := fun x X e => by
    have a1 := cle (Int.ediv_mul_le x (show q.2.2.2 ≠ 0 by omega))
    have a2 := cle (Int.le_of_lt (Int.lt_ediv_add_one_mul_self x hw))
    simp only [Rat.intCast_mul, Rat.intCast_add] at a1 a2
    have one : ((1 : Int) : Rat) = 1 := rfl
    rw [e] at a1 a2
    rw [one] at a2
    have b1 : ((x / q.2.2.2 : Int) : Rat) ≤ X := le_cancel hp a1
    have b2 : X ≤ ((x / q.2.2.2 : Int) : Rat) + 1 := le_cancel hp a2
    grind
  have := cube_nm (p := qsub Q (vq (q.1 / q.2.2.2, q.2.1 / q.2.2.2, q.2.2.1 / q.2.2.2))) (b := 1) (by grind) (k _ _ h.x) (k _ _ h.y) (k _ _ h.z)
  exact this.mono (by grind)
/-- the true place of a body's end is near the told one -/
theorem place_near {js : List Jt} {vals : List (Int × Int)} {offs : List P4} {mids hs : List Int} (hml : mids.length = js.length) {k : Nat} (hk : k ≤ js.length) (hn : ∀ i, i < k → Near js vals offs mids hs i) {b : Bd} {v : V3} (hv : lengthUp v ≤ max (lengthUp b.first) (lengthUp b.last)) :
    ∃ Q, Is (lawTrue js vals offs k (p4 v)) Q ∧ Nm (qsub Q (vq (spot js mids k v))) (unknown js hs k b : Int) := by
  have hz : qsub (vq v) (vq v) = ⟨0, 0, 0⟩ := by unfold qsub; refine qext ?_ ?_ ?_ <;> simp only [] <;> grind
  obtain ⟨Q, Q', i1, i2, i3, i4⟩ := chain_inv (hs := hs) hml k hk hn (p4 v) (p4 v) (2, max (lengthUp b.first) (lengthUp b.last)) (vq v) (vq v) (Is.p4 v) (Is.p4 v) ((lengthUp_nm v).mono (cle hv)) (by
    rw [hz]
    have two : ((2 : Int) : Rat) = 2 := rfl
    refine ⟨by show (0 : Rat) ≤ ((2 : Int) : Rat) - 2; grind, ?_⟩
    show qdot ⟨0, 0, 0⟩ ⟨0, 0, 0⟩ ≤ (((2 : Int) : Rat) - 2) * (((2 : Int) : Rat) - 2)
    unfold qdot
    simp only []
    grind)
  refine ⟨Q, i1, ?_⟩
  rw [qsub_trans Q Q']
  refine (i4.add (floor_near i2)).mono ?_
  unfold unknown
  grind
end Aw
namespace Aw
open PySem
/-- the part holds the parameter a / u -/
def Has (p : Part) (a u : Int) : Prop := p.2 * u ≤ a * 2 ^ p.1.toNat ∧ a * 2 ^ p.1.toNat ≤ (p.2 + 1) * u
theorem pow2_pos (n : Nat) : (0 : Int) < 2 ^ n := Int.pow_pos (by decide)
/-- between floors -/
theorem mid_core {D N at' a u c h : Int} (hN : 0 < N) (hu : 0 < u) (h1 : at' * u ≤ a * N) (h2 : a * N ≤ (at' + 1) * u) (c1 : c * (2 * N) ≤ D * (2 * at' + 1)) (c2 : D * (2 * at' + 1) < (c + 1) * (2 * N)) (d1 : -(h * (2 * N)) ≤ D) (d2 : D ≤ h * (2 * N)) :
    -((h + 1) * u) ≤ D * a - c * u ∧ D * a - c * u ≤ (h + 1) * u := by
  -- e = 2 N a - (2 at + 1) u, |e| ≤ u
  obtain ⟨e, he⟩ : ∃ e : Int, e = 2 * (a * N) - (2 * at' + 1) * u := ⟨_, rfl⟩
  have e1 : -u ≤ e := by rw [he]; grind
  have e2 : e ≤ u := by rw [he]; grind
  have hh : 0 ≤ h := by
    rcases Int.lt_or_le h 0 with z | z
    · have : h * (2 * N) < 0 := Int.mul_neg_of_neg_of_pos z (by omega)
      omega
    · exact z
  -- |D e| ≤ h 2N u
  have k1 : D * e ≤ h * (2 * N) * u := by
    have p1 : 0 ≤ (h * (2 * N) - D) * (u + e) := Int.mul_nonneg (by omega) (by omega)
    have p2 : 0 ≤ (h * (2 * N) + D) * (u - e) := Int.mul_nonneg (by omega) (by omega)
    grind
  have k2 : -(h * (2 * N) * u) ≤ D * e := by
    have p1 : 0 ≤ (h * (2 * N) + D) * (u + e) := Int.mul_nonneg (by omega) (by omega)
    have p2 : 0 ≤ (h * (2 * N) - D) * (u - e) := Int.mul_nonneg (by omega) (by omega)
    grind
  have g1 := Int.mul_le_mul_of_nonneg_right c1 (Int.le_of_lt hu)
  have g2 := Int.mul_le_mul_of_nonneg_right (Int.le_of_lt c2) (Int.le_of_lt hu)
  have key : (D * a - c * u) * (2 * N) = D * ((2 * at' + 1) * u) + D * e - c * (2 * N) * u := by rw [he]; grind
  have hM : (0 : Int) < 2 * N := by omega
  constructor
  · refine Int.le_of_mul_le_mul_right ?_ hM
    rw [key]
    have : 0 ≤ 2 * N * u := Int.mul_nonneg (by omega) (by omega)
    grind
  · refine Int.le_of_mul_le_mul_right ?_ hM
    rw [key]
    grind
theorem toNat_succ {d : Int} (h : 0 ≤ d) : (2 : Int) ^ (d + 1).toNat = 2 * 2 ^ d.toNat := by
  have e : (d + 1).toNat = d.toNat + 1 := by omega
  rw [e, Int.pow_succ]; omega
theorem mid_near {m : Mv} {p : Part} (hp : PartOk p) {a u : Int} (hu : 0 < u) (hh : Has p a u) (k : Nat) :
    -(halfAt m p.1 k * u) ≤ (m.last.getD k default - m.first.getD k default) * a - (midAt m p k - m.first.getD k default) * u ∧ (m.last.getD k default - m.first.getD k default) * a - (midAt m p k - m.first.getD k default) * u ≤ halfAt m p.1 k * u := by
  obtain ⟨q1, q2, q3, q4⟩ := hp
  unfold midAt halfAt
  rw [toNat_succ q1]
  have hN := pow2_pos p.1.toNat
  obtain ⟨h1, h2⟩ := hh
  generalize (2 : Int) ^ p.1.toNat = N at *
  generalize m.last.getD k default - m.first.getD k default = D
  generalize m.first.getD k default = F
  rw [show F + D * (2 * p.2 + 1) / (2 * N) - F = D * (2 * p.2 + 1) / (2 * N) by omega]
  have c1 := Int.ediv_mul_le (D * (2 * p.2 + 1)) (show 2 * N ≠ 0 by omega)
  have c2 := Int.lt_ediv_add_one_mul_self (D * (2 * p.2 + 1)) (show 0 < 2 * N by omega)
  split
  · have hd := divUp_spec (a := iabs D) (b := 2 * N) (by omega)
    generalize divUp (iabs D) (2 * N) = h at hd
    exact mid_core hN hu h1 h2 c1 c2 (by unfold iabs at hd; omega) (by unfold iabs at hd; omega)
  · rename_i hz
    have hD : D = 0 := by unfold iabs at hz; omega
    subst hD
    simp
theorem mid_in {F L lo hi c N at' : Int} (hF : lo ≤ F ∧ F ≤ hi) (hL : lo ≤ L ∧ L ≤ hi) (hN : 0 < N) (h0 : 0 ≤ at') (h1 : at' < N) (c1 : c * (2 * N) ≤ (L - F) * (2 * at' + 1)) (c2 : (L - F) * (2 * at' + 1) < (c + 1) * (2 * N)) : lo ≤ F + c ∧ F + c ≤ hi := by
  generalize hD : L - F = D at c1 c2
  rcases Int.le_total 0 D with z | z
  · have p1 : 0 ≤ D * (2 * at' + 1) := Int.mul_nonneg z (by omega)
    have p2 : 0 ≤ D * (2 * N - (2 * at' + 1)) := Int.mul_nonneg z (by omega)
    have k1 : 0 ≤ c := by
      rcases Int.lt_or_le c 0 with q | q
      · have : (c + 1) * (2 * N) ≤ 0 := Int.mul_nonpos_of_nonpos_of_nonneg (by omega) (by omega)
        omega
      · exact q
    have k2 : c ≤ D := by
      refine Int.le_of_mul_le_mul_right ?_ (show 0 < 2 * N by omega)
      grind
    omega
  · have p1 : 0 ≤ (-D) * (2 * at' + 1) := Int.mul_nonneg (by omega) (by omega)
    have p2 : 0 ≤ (-D) * (2 * N - (2 * at' + 1)) := Int.mul_nonneg (by omega) (by omega)
    have k1 : c ≤ 0 := by
      rcases Int.lt_or_le 0 c with q | q
      · have : 0 < c * (2 * N) := Int.mul_pos q (by omega)
        grind
      · exact q
    have k2 : D ≤ c := by
      have : D < c + 1 := by
        refine Int.lt_of_mul_lt_mul_right ?_ (show 0 ≤ 2 * N by omega)
        grind
      omega
    omega
theorem range_get {α : Type} [Inhabited α] (f : Nat → α) {n k : Nat} (h : k < n) : ((List.range n).map f).getD k default = f k := by
  rw [List.getD_eq_getElem?_getD, List.getElem?_map, List.getElem?_range h]; rfl
theorem near_of {m : Mr} (hm : MrOk m) {p : Part} (hp : PartOk p) {par : Int × Int} (hpar : ParOk par) (hh : Has p par.1 par.2) (row : Int) {k : Nat} (hk : k < m.arm.joints.length) :
    Near m.arm.joints (meant m.arm.joints m.move.first m.move.last par row) (offsets m.arm.joints (row / 7)) (middle m.move p) (halves m.move p.1) k := by
  have hj := hm.arm.js _ (getD_mem hk)
  have hu : 0 < par.2 := by have := hpar.2.2.1; omega
  have e1 : (meant m.arm.joints m.move.first m.move.last par row).getD k default = meantAt m.arm.joints m.move.first m.move.last par row k := range_get _ hk
  have e2 : (offsets m.arm.joints (row / 7)).getD k default = offAt (m.arm.joints.getD k default) (row / 7) k := range_get (fun k => offAt (m.arm.joints.getD k default) (row / 7) k) hk
  have e3 : (middle m.move p).getD k default = midAt m.move p k := range_get _ (by rw [hm.first.1]; exact hk)
  have e4 : (halves m.move p.1).getD k default = halfAt m.move p.1 k := range_get _ (by rw [hm.first.1]; exact hk)
  obtain ⟨n1, n2⟩ := mid_near (m := m.move) hp hu hh k
  obtain ⟨l1, l2⟩ := mlo_in hj row k
  have hf := hm.first.2 k hk
  have hl := hm.last.2 k hk
  refine ⟨hj, by rw [e1]; exact hu, ?_, ?_, ?_, ?_⟩
  · rw [e3]
    obtain ⟨q1, q2, q3, q4⟩ := id hp
    unfold midAt
    rw [toNat_succ q1]
    exact mid_in hf hl (pow2_pos _) q3 q4 (Int.ediv_mul_le _ (by have := pow2_pos p.1.toNat; omega)) (Int.lt_ediv_add_one_mul_self _ (by have := pow2_pos p.1.toNat; omega))
  · rw [e1, e3, e4]
    show _ ≤ (m.move.first.getD k default + mlo (m.arm.joints.getD k default) row k) * par.2 + (m.move.last.getD k default - m.move.first.getD k default) * par.1 - midAt m.move p k * par.2
    have k1 : 0 ≤ (mlo (m.arm.joints.getD k default) row k + (m.arm.joints.getD k default).err) * par.2 := Int.mul_nonneg (by omega) (by omega)
    show -((halfAt m.move p.1 k + (m.arm.joints.getD k default).err) * par.2) ≤ _
    grind
  · rw [e1, e3, e4]
    show (m.move.first.getD k default + mlo (m.arm.joints.getD k default) row k) * par.2 + (m.move.last.getD k default - m.move.first.getD k default) * par.1 - midAt m.move p k * par.2 ≤ (halfAt m.move p.1 k + (m.arm.joints.getD k default).err) * par.2
    have k1 : 0 ≤ ((m.arm.joints.getD k default).err - mlo (m.arm.joints.getD k default) row k) * par.2 := Int.mul_nonneg (by omega) (by omega)
    grind
  · rw [e2]
    generalize m.arm.joints.getD k default = j at hj
    refine ⟨vq (j.off.1 + osh j (row / 7) k 0, j.off.2.1 + osh j (row / 7) k 1, j.off.2.2 + osh j (row / 7) k 2), Is.p4 (j.off.1 + osh j (row / 7) k 0, j.off.2.1 + osh j (row / 7) k 1, j.off.2.2 + osh j (row / 7) k 2), ?_⟩
    have b0 := cle hj.box.1
    have key : ∀ t : Nat, -(j.box : Rat) ≤ (osh j (row / 7) k t : Rat) ∧ (osh j (row / 7) k t : Rat) ≤ (j.box : Rat) := fun t => by
      obtain ⟨a1, a2⟩ := osh_in hj (row / 7) k t
      have := cle a1
      have := cle a2
      rw [Rat.intCast_neg] at *
      exact ⟨by assumption, by assumption⟩
    have k0 := key 0
    have k1 := key 1
    have k2 := key 2
    refine cube_nm (by exact b0) ?_ ?_ ?_
    all_goals
      unfold qsub vq
      simp only [Rat.intCast_add]
      constructor <;> grind
/-- down the tree to the leaf that holds the parameter -/
theorem descend {m : Mr} {a u : Int} : ∀ (t : Tree) (p : Part) (n : Nat), PartOk p → p.1 + n ≤ 20 → Has p a u → rightB m t p n = true → ∃ ws p', PartOk p' ∧ Has p' a u ∧ leafB m ws p' = true
  | .leaf ws, p, n, hp, _, hh, hr => ⟨ws, p, hp, hh, by
      cases n <;> · unfold rightB at hr; exact hr⟩
  | .node l h, p, 0, _, _, _, hr => by unfold rightB at hr; cases hr
  | .node l h, p, n + 1, hp, hn, hh, hr => by
    unfold rightB at hr
    obtain ⟨r1, r2⟩ := Bool.and_eq_true_iff.mp hr
    obtain ⟨o1, o2⟩ := lower_ok hp (by omega)
    obtain ⟨h1, h2⟩ := hh
    have e := toNat_succ hp.1
    by_cases z : a * (2 * 2 ^ p.1.toNat) ≤ (2 * p.2 + 1) * u
    · refine descend l (lower p) n o1 (by show p.1 + 1 + (n : Int) ≤ 20; omega) ⟨?_, ?_⟩ r1
      · show 2 * p.2 * u ≤ a * 2 ^ (p.1 + 1).toNat
        rw [e]; grind
      · show a * 2 ^ (p.1 + 1).toNat ≤ (2 * p.2 + 1) * u
        rw [e]; exact z
    · refine descend h (upper p) n o2 (by show p.1 + 1 + (n : Int) ≤ 20; omega) ⟨?_, ?_⟩ r2
      · show (2 * p.2 + 1) * u ≤ a * 2 ^ (p.1 + 1).toNat
        rw [e]; omega
      · show a * 2 ^ (p.1 + 1).toNat ≤ (2 * p.2 + 1 + 1) * u
        rw [e]; grind
end Aw
namespace Aw
open PySem
theorem qdot_sub (w p q : Q3) : qdot w (qsub p q) = qdot w p - qdot w q := by
  unfold qdot qsub; simp only []; grind
theorem dot_cast (w v : V3) : ((dot w v : Int) : Rat) = qdot (vq w) (vq v) := by
  unfold dot qdot vq; simp only [Rat.intCast_add, Rat.intCast_mul]
def mixQ (l : Rat) (p q : Q3) : Q3 := ⟨p.x * (1 - l) + q.x * l, p.y * (1 - l) + q.y * l, p.z * (1 - l) + q.z * l⟩
theorem qdot_mix (w : Q3) (l : Rat) (p q : Q3) : qdot w (mixQ l p q) = qdot w p * (1 - l) + qdot w q * l := by
  unfold qdot mixQ; simp only []; grind
theorem Is.mix {l : P4 × P4} {P Q : Q3} (h1 : Is l.1 P) (h2 : Is l.2 Q) {o : Int} {r : Rat} (hr : (o : Rat) = r * 8) : Is (mixP l o 8) (mixQ r P Q) := by
  have := h1.x; have := h1.y; have := h1.z
  have := h2.x; have := h2.y; have := h2.z
  have e8 : ((8 : Int) : Rat) = 8 := rfl
  refine ⟨Int.mul_pos (Int.mul_pos h1.w h2.w) (by decide), ?_, ?_, ?_⟩
  all_goals
    simp only [mixP, mixQ, Rat.intCast_add, Rat.intCast_sub, Rat.intCast_mul, e8, hr]
    grind
/-- between two ends: a half space that holds both holds what lies between -/
theorem side_mix {w P1 P2 : Q3} {s1 s2 : Q3} {L U b : Rat} (hw : Nm w L) (h1 : Nm (qsub P1 s1) U) (h2 : Nm (qsub P2 s2) U) (b1 : b ≤ qdot w s1) (b2 : b ≤ qdot w s2) {r : Rat} (r0 : 0 ≤ r) (r1 : r ≤ 1) : b - L * U ≤ qdot w (mixQ r P1 P2) := by
  have n : ∀ {p : Q3} {U : Rat}, Nm p U → -(L * U) ≤ qdot w p := fun {p U} h => by
    have hneg : Nm ⟨-p.x, -p.y, -p.z⟩ U := ⟨h.1, by have := h.2; unfold qdot at *; simp only []; grind⟩
    have := cs hw hneg
    unfold qdot at *
    simp only [] at this
    grind
  have k1 := n h1
  have k2 := n h2
  rw [qdot_sub] at k1 k2
  rw [qdot_mix]
  have m1 : 0 ≤ (qdot w P1 - (b - L * U)) * (1 - r) := Rat.mul_nonneg (by grind) (by grind)
  have m2 : 0 ≤ (qdot w P2 - (b - L * U)) * r := Rat.mul_nonneg (by grind) r0
  grind
theorem side_mix' {w P1 P2 : Q3} {s1 s2 : Q3} {L U b : Rat} (hw : Nm w L) (h1 : Nm (qsub P1 s1) U) (h2 : Nm (qsub P2 s2) U) (b1 : qdot w s1 ≤ b) (b2 : qdot w s2 ≤ b) {r : Rat} (r0 : 0 ≤ r) (r1 : r ≤ 1) : qdot w (mixQ r P1 P2) ≤ b + L * U := by
  have k1 := cs hw h1
  have k2 := cs hw h2
  rw [qdot_sub] at k1 k2
  rw [qdot_mix]
  have m1 : 0 ≤ (b + L * U - qdot w P1) * (1 - r) := Rat.mul_nonneg (by grind) (by grind)
  have m2 : 0 ≤ (b + L * U - qdot w P2) * r := Rat.mul_nonneg (by grind) r0
  grind
/-- farther along a way than the way's length times r: farther than r -/
theorem far_of {w d : Q3} {L r : Rat} (hw : Nm w L) (hr : 0 ≤ r) (h : L * r < qdot w d) : r * r < qdot d d := by
  rcases Rat.le_total (a := qdot d d) (b := r * r) with z | z
  · have := cs hw (⟨hr, z⟩ : Nm d r)
    grind
  · by_cases e : qdot d d = r * r
    · have := cs hw (⟨hr, by grind⟩ : Nm d r)
      grind
    · grind
theorem farB_of {a b : P4} {A B : Q3} (ha : Is a A) (hb : Is b B) {r : Int} (h : (r : Rat) * r < qdot (qsub A B) (qsub A B)) : farB a b r = true := by
  unfold farB
  refine decide_eq_true (Rat.intCast_lt_intCast.mp ?_)
  simp only [Rat.intCast_add, Rat.intCast_sub, Rat.intCast_mul, ha.x, ha.y, ha.z, hb.x, hb.y, hb.z]
  have pa := cpos ha.w
  have pb := cpos hb.w
  generalize ((a.2.2.2 : Int) : Rat) = wa at *
  generalize ((b.2.2.2 : Int) : Rat) = wb at *
  have pab := Rat.mul_pos (Rat.mul_pos pa pb) (Rat.mul_pos pa pb)
  have := Rat.mul_lt_mul_of_pos_right h pab
  unfold qdot qsub at this
  simp only [] at this
  grind
theorem body_near {m : Mr} (hm : MrOk m) {p : Part} (hp : PartOk p) {par : Int × Int} (hpar : ParOk par) (hh : Has p par.1 par.2) (row : Int) {k : Nat} (hk : k < (bodies m).length) {v : V3} (hv : lengthUp v ≤ max (lengthUp ((bodies m).getD k default).2.first) (lengthUp ((bodies m).getD k default).2.last)) :
    ∃ Q, Is (trueAt m par row ((bodies m).getD k default).1.toNat v) Q ∧ Nm (qsub Q (vq (spot m.arm.joints (middle m.move p) ((bodies m).getD k default).1.toNat v))) ((unknowns m (halves m.move p.1)).getD k default : Int) := by
  obtain ⟨b1, b2, b3⟩ := bodies_ok hm _ (getD_mem hk)
  have e : (unknowns m (halves m.move p.1)).getD k default = unknown m.arm.joints (halves m.move p.1) ((bodies m).getD k default).1.toNat ((bodies m).getD k default).2 := map_get _ hk
  rw [e]
  exact place_near (by unfold middle; rw [map_range_len, hm.first.1]) (by omega) (fun i hi => near_of hm hp hpar hh row (by omega)) hv
theorem safe {m : Mr} (h : MrOk m) {t : Tree} (ht : rightB m t (0, 0) 20 = true) {k j : Nat} (hq : ((k : Int), (j : Int)) ∈ pairs m) {p : Int × Int} (hp : ParOk p) (row : Int) {o1 o2 : Int} (h1 : 0 ≤ o1 ∧ o1 ≤ 8) (h2 : 0 ≤ o2 ∧ o2 ≤ 8) :
    farB (mixP (trueLine m p row k) o1 8) (mixP (trueLine m p row j) o2 8) (((bodies m).getD k default).2.radius + ((bodies m).getD j default).2.radius) = true := by
  obtain ⟨k', j', e, hkj, hjl, _⟩ := pairs_in _ hq
  have ek : k = k' := by have := congrArg Prod.fst e; simp only at this; omega
  have ej : j = j' := by have := congrArg Prod.snd e; simp only at this; omega
  subst ek ej
  have hkl : k < (bodies m).length := by omega
  obtain ⟨ws, pt, hpt, hh, hleaf⟩ := descend (a := p.1) (u := p.2) t (0, 0) 20 whole_ok (by decide) ⟨by have := hp.1; show 0 * p.2 ≤ p.1 * 1; omega, by have := hp.2.1; show p.1 * 1 ≤ (0 + 1) * p.2; omega⟩ ht
  unfold leafB at hleaf
  obtain ⟨hl1, hl2⟩ := Bool.and_eq_true_iff.mp hleaf
  obtain ⟨i, hi, hpi⟩ := List.getElem_of_mem hq
  have hvi : i < (views m pt (halves m.move pt.1)).length := by unfold views; rw [List.length_map]; exact hi
  have hpt' := List.all_eq_true.mp hl2 i (List.mem_range.mpr hvi)
  obtain ⟨_, hpart⟩ := Bool.and_eq_true_iff.mp hpt'
  have hg : (pairs m).getD i default = ((k : Int), (j : Int)) := by rw [List.getD_eq_getElem?_getD, List.getElem?_eq_getElem hi, hpi]; rfl
  have hview : (views m pt (halves m.move pt.1)).getD i default = (sideAt m pt (halves m.move pt.1) k, sideAt m pt (halves m.move pt.1) j) := by
    unfold views
    rw [map_get _ hi, hg]
    simp only [Int.toNat_natCast]
    unfold sides
    rw [range_get _ hkl, range_get _ hjl]
  rw [hview] at hpart
  generalize ws.getD i default = way at hpart
  unfold partedB partsB sideAt at hpart
  simp only [] at hpart
  have el : ∀ {k : Nat}, k < (bodies m).length → (lines m pt).getD k default = lineOf m (middle m.move pt) ((bodies m).getD k default) := fun hk => map_get _ hk
  rw [el hkl, el hjl] at hpart
  unfold lineOf at hpart
  simp only [] at hpart
  have hd := of_decide_eq_true hpart
  obtain ⟨A1, a1, a2⟩ := body_near h hpt hp hh row hkl (v := ((bodies m).getD k default).2.first) (by omega)
  obtain ⟨A2, a3, a4⟩ := body_near h hpt hp hh row hkl (v := ((bodies m).getD k default).2.last) (by omega)
  obtain ⟨B1, b1, b2⟩ := body_near h hpt hp hh row hjl (v := ((bodies m).getD j default).2.first) (by omega)
  obtain ⟨B2, b3, b4⟩ := body_near h hpt hp hh row hjl (v := ((bodies m).getD j default).2.last) (by omega)
  obtain ⟨_, _, okk⟩ := bodies_ok h _ (getD_mem hkl)
  obtain ⟨_, _, okj⟩ := bodies_ok h _ (getD_mem hjl)
  have rk := okk.radius.1
  have rj := okj.radius.1
  generalize spot m.arm.joints (middle m.move pt) ((bodies m).getD k default).1.toNat ((bodies m).getD k default).2.first = s1 at hd a2
  generalize spot m.arm.joints (middle m.move pt) ((bodies m).getD k default).1.toNat ((bodies m).getD k default).2.last = s2 at hd a4
  generalize spot m.arm.joints (middle m.move pt) ((bodies m).getD j default).1.toNat ((bodies m).getD j default).2.first = s3 at hd b2
  generalize spot m.arm.joints (middle m.move pt) ((bodies m).getD j default).1.toNat ((bodies m).getD j default).2.last = s4 at hd b4
  generalize (unknowns m (halves m.move pt.1)).getD k default = uk at hd a2 a4
  generalize (unknowns m (halves m.move pt.1)).getD j default = uj at hd b2 b4
  obtain ⟨l1, e1⟩ : ∃ l : Rat, (o1 : Rat) = l * 8 := ⟨(o1 : Rat) / 8, (Rat.div_mul_cancel (by grind)).symm⟩
  obtain ⟨l2, e2⟩ : ∃ l : Rat, (o2 : Rat) = l * 8 := ⟨(o2 : Rat) / 8, (Rat.div_mul_cancel (by grind)).symm⟩
  have q1 := cle h1.1
  have q2 := cle h1.2
  have q3 := cle h2.1
  have q4 := cle h2.2
  have z0 : ((0 : Int) : Rat) = 0 := rfl
  have z8 : ((8 : Int) : Rat) = 8 := rfl
  have i1 : Is (mixP (trueLine m p row k) o1 8) (mixQ l1 A1 A2) := Is.mix (l := trueLine m p row k) a1 a3 e1
  have i2 : Is (mixP (trueLine m p row j) o2 8) (mixQ l2 B1 B2) := Is.mix (l := trueLine m p row j) b1 b3 e2
  have hw := lengthUp_nm way
  generalize ((bodies m).getD k default).2.radius = r1 at *
  generalize ((bodies m).getD j default).2.radius = r2 at *
  have m1 := side_mix (b := ((min (dot way s1) (dot way s2) : Int) : Rat)) hw a2 a4 (by rw [← dot_cast]; exact cle (by omega)) (by rw [← dot_cast]; exact cle (by omega)) (r := l1) (by grind) (by grind)
  have m2 := side_mix' (b := ((max (dot way s3) (dot way s4) : Int) : Rat)) hw b2 b4 (by rw [← dot_cast]; exact cle (by omega)) (by rw [← dot_cast]; exact cle (by omega)) (r := l2) (by grind) (by grind)
  have hd2 := Rat.intCast_lt_intCast.mpr hd
  simp only [Rat.intCast_add, Rat.intCast_sub, Rat.intCast_mul] at hd2
  refine farB_of i1 i2 ?_
  refine far_of (w := vq way) (L := ((lengthUp way : Int) : Rat)) hw (by have := cle (show (0 : Int) ≤ r1 + r2 by omega); exact this) ?_
  rw [qdot_sub, Rat.intCast_add]
  grind
end Aw
namespace Aw
open PySem PySem.Spec L2
local macro_rules | `(tactic| walk_at "sd") => `(tactic| first | decide | assumption | omega | (simp only [Int.toNat_natCast]; omega))
local macro_rules | `(tactic| walk_at "ev") => `(tactic| first
  | ((with_reducible apply ev_var); (exact rfl))
  | ((with_reducible apply ev_int64); (decide))
  | ((with_reducible apply ev_int); (decide))
  | ((with_reducible apply ev_bl))
  | ((with_reducible apply ev_str))
  | ((with_reducible apply ev_non))
  | ((with_reducible apply ev_add); (walk_at "ev"); (walk_at "ev"))
  | ((with_reducible apply ev_sub); (walk_at "ev"); (walk_at "ev"))
  | ((with_reducible apply ev_mul); (walk_at "ev"); (walk_at "ev"); (walk_at "sd"))
  | ((with_reducible apply ev_mulS); (walk_at "ev"); (walk_at "ev"); (walk_at "sd"))
  | ((with_reducible apply ev_neg); (walk_at "ev"))
  | ((with_reducible apply ev_ixTc); (walk_at "ev"); (exact rfl); (decide); (decide))
  | ((with_reducible apply ev_ixLc); (walk_at "ev"); (exact rfl); (decide); (decide))
  | ((with_reducible apply ev_abs); (walk_at "ev"))
  | ((with_reducible apply ev_intc); (walk_at "ev"))
  | ((with_reducible apply ev_max2); (walk_at "ev"); (walk_at "ev"))
  | ((with_reducible apply ev_max3); (walk_at "ev"); (walk_at "ev"); (walk_at "ev"))
  | ((with_reducible apply ev_lt); (walk_at "ev"); (walk_at "ev"))
  | ((with_reducible apply ev_lec); (walk_at "ev"); (walk_at "ev"))
  | ((with_reducible apply ev_gt); (walk_at "ev"); (walk_at "ev"))
  | ((with_reducible apply ev_ge); (walk_at "ev"); (walk_at "ev"))
  | ((with_reducible apply ev_eqI); (walk_at "ev"); (walk_at "ev"))
  | ((with_reducible apply ev_neI); (walk_at "ev"); (walk_at "ev"))
  | ((with_reducible apply ev_eqS); (walk_at "ev"); (walk_at "ev"))
  | ((with_reducible apply ev_neS); (walk_at "ev"); (walk_at "ev"))
  | ((with_reducible apply ev_notB); (walk_at "ev"); (walk_at "ev"))
  | ((with_reducible apply ev_notN); (walk_at "ev")))
local macro_rules | `(tactic| walk_at "fin") => `(tactic| (apply ev_fin; (walk_at "ev"); (walk_at "sd"); (first | rfl | assumption)))
local macro_rules | `(tactic| walk_at "wk") => `(tactic| (refine LeC.wk ?_; repeat (first | exact WkG.nil | apply WkG.keep | apply WkG.drop)))
local macro_rules | `(tactic| walk_at "et") => `(tactic| first
  | ((with_reducible apply et_test); (walk_at "ev")) | ((with_reducible apply et_B); (walk_at "ev")) | ((with_reducible apply et_not); (walk_at "et")))
section
variable {P : Program} {w : World} {K : PySem.W.Frag} {mg : Str → Option Value} {base : Heap}
theorem xEqD {X : Cx} {K : PySem.W.Frag} (hu : X.A.units + 65 < cLine) (hK : X.K = K := by rfl) : OpR X (compareOp .Eq) (rEqD K) := by subst hK; exact op_eqD (by omega)
def dLeaf : PyData := .tuple [.str "leaf", .tuple []]
theorem dp_leaf {F : Hp} {v : V} (h : ((tLf K).en []).ok F v) : Dp K F v dLeaf := by
  obtain ⟨a, vs, e, hs, r⟩ := h
  subst e
  cases r with
  | cons r1 r => cases r with
    | cons r2 r => cases r with
      | nil =>
        obtain ⟨b, ws, e2, hs2, r2⟩ := r2
        cases r2
        have e1 : _ = V.str "leaf" := r1
        subst e1 e2
        exact .tup hs (.cons (.str _) (.cons (.tup hs2 .nil) .nil))
theorem shaped_leaf : SeqAt.shaped dLeaf = true := by decide +kernel
theorem dp_mono {F H : Hp} {v : V} (s : Same F H) (h : ((tLf K).en []).ok F v) : Dp K H v dLeaf := dp_leaf (((tLf K).en []).mono s h)
theorem ev_leafEq {G : Ctx} {ta tb : TE} (ha : Ev ta G ((tTr K).en (.leaf []))) (hb : Ev tb G ((tLf K).en [])) : Ev (tOp (rEqD K) ta tb) G (tBl.en true) := fun B σ F H a Q q =>
  ha B σ F H a _ fun v F1 H1 g1 r1 => hb B σ F1 H1 (a.grow g1) _ fun w F2 H2 g2 r2 => ⟨dLeaf, dLeaf, dp_mono (g2.f.trans g2.s) (tr_leaf _ _ r1), dp_mono g2.s r2, shaped_leaf, shaped_leaf, q _ F2 H2 (g1.trans g2) (by show V.bl (PyData.eqv dLeaf dLeaf) = V.bl true; congr 1)⟩
theorem sc_law : FnScope ["_law_script", "_law_rows_here", "_law_mover_here", "_law_matter", "_law_verdict", "_law_bodies", "_law_pairs", "_law_k", "_law_under", "_law_part", "_law_one", "_law_two", "_law_first", "_law_second", "_law_place", "_law_other"] ["_law_script"] (defScope s_law) := ⟨rfl, rfl, rfl, by decide +kernel, rfl, by decide +kernel, by decide +kernel⟩
def sp_law (K : PySem.W.Frag) : Sp := spFam (fun (z : List Int) => [(yLstL K (tZ fun _ => True)).en z]) (fun z => z.length ≤ 63) (fun _ => tBl.en true)
theorem tZ_bd {N : Nat} {xs : List Int} (h : ∀ x ∈ xs, bd N x) (F : Hp) (v : V) (r : ((yLstL K (tZ fun _ => True)).en xs).ok F v) : ((yLstL K (tI N)).en xs).ok F v := by
  obtain ⟨a, vs, e, hs, r⟩ := r
  refine ⟨a, vs, e, hs, ?_⟩
  clear e hs
  induction xs generalizing vs with
  | nil => cases r; exact .nil
  | cons x xs ih =>
    cases r with
    | cons r1 r => exact .cons ⟨r1.1, h x (List.mem_cons_self ..)⟩ (ih (fun y hy => h y (List.mem_cons_of_mem _ hy)) _ r)
theorem ok_law {fd : FuncData} (T : Txt K mg base) (F : FunD K d_law.name d_law.qual d_law.params d_law.body d_law.scope (d_law.dvs K) (d_law.kws K) (He.fAd K d_law.at_) fd) : FnOk P w K mg base CX0 16 (He.fAd K d_law.at_) fd ["_law_script"] (sp_law K) := by
  have S := sc_law
  refine fam_ok F S (fun _ => rfl) 15 rfl (fun cdv A0 outer s H E hr => ?_)
  have hu : _ := hu65 hr
  refine ⟨_, (pss_cons (ps_set (i := 1) S.nd rfl (Or.inl rfl) (pe_fn (ok_lw_rows (K := K) T) (hr.mono (by decide)) rfl (pa_cons (pv 0) (pa_cons pe_int pa_nil))))
    (pss_cons (ps_set (i := 2) S.nd rfl (Or.inl rfl) (pe_fn (ok_lw_mover (K := K) T) (hr.mono (by decide)) rfl (pa_cons (pv 1) (pa_cons pe_int (pa_cons (xIx (K := K) (pv 1) pe_int (fun _ _ => rfl)) pa_nil)))))
    (pss_cons (ps_set (i := 3) S.nd rfl (Or.inl rfl) (xMc (K := K) (mk_Matter (K := K) T) (hr.mono (by decide)) rfl (pa_cons pe_str (pa_cons (pv 2) pa_nil))))
    (pss_cons (ps_set (i := 4) S.nd rfl (Or.inl rfl) (pe_fn (ok_find_verdict (K := K) T) (hr.mono (by decide)) rfl (pa_cons (pv 3) (pa_cons (pe_op oMod (pe_callTy kInt (by rfl) T.z_int (by decide +kernel) (pa_cons (xIx (K := K) (pv 1) pe_int (fun _ _ => rfl)) pa_nil)) pe_int) pa_nil))))
    (pss_cons (ps_if (pt_cmpR oNe (xFld (K := K) (pv 4) rfl) pe_str (nomark _)) (pss_one (ps_ret (pe_or (pe_cmpR oEq (xFld (K := K) (pv 4) rfl) pe_str (nomark _)) (pe_one (pe_cmpR oEq (xFld (K := K) (pv 4) rfl) pe_str (nomark _)))))) pss_nil)
    (pss_cons (ps_if (pt_cmpR oNotB (pe_fn (ok_judge (K := K) T) (hr.mono (by decide)) rfl (pa_cons (pv 3) (pa_cons (xFld (K := K) (pv 4) rfl) pa_nil))) pe_bl (nomark _)) (pss_one (ps_ret pe_bl)) pss_nil)
    (pss_cons (ps_set (i := 5) S.nd rfl (Or.inl rfl) (xMt0 (K := K) T.c_Mover (ok_Mover_bodies (K := K) T) (hr.mono (by decide)) (pv 2)))
    (pss_cons (ps_set (i := 6) S.nd rfl (Or.inl rfl) (xMt0 (K := K) T.c_Matter (ok_Matter_pairs (K := K) T) (hr.mono (by decide)) (pv 3)))
    (pss_cons (ps_if (pt_cmpR oEq (pe_callB (xLen (K := K)) (by rfl) T.z_len (by decide +kernel) (pa_cons (pv 6) pa_nil)) pe_int (nomark _)) (pss_one (ps_ret (pe_and (pe_cmpR (xEqD (K := K) hu) (xFld (K := K) (pv 4) rfl) (pe_tup (pa_cons pe_str (pa_cons (pe_tup pa_nil) pa_nil))) (nomark _)) (pe_one (pe_cmpR oEq (xFld (K := K) (pv 4) rfl) pe_int (nomark _)))))) pss_nil)
    (pss_cons (ps_for PassesOwn.never rfl (pi_range1 rfl T.z_range (pa_cons pe_int pa_nil)) (pg_name (i := 7) S.nd rfl (Or.inl rfl)) (pss_cons (ps_set (i := 8) S.nd rfl (Or.inl rfl) (pe_op oAdd pe_int (pe_op oMod (pe_callTy kInt (by rfl) T.z_int (by decide +kernel) (pa_cons (xIx (K := K) (pv 1) (pe_op oAdd pe_int (pv 7)) (fun _ _ => rfl)) pa_nil)) pe_int)))
    (pss_cons (ps_set (i := 9) S.nd rfl (Or.inl rfl) (pe_tup (pa_cons (pe_op oMod (pe_callTy kInt (by rfl) T.z_int (by decide +kernel) (pa_cons (pe_op oDiv (xIx (K := K) (pv 1) (pe_op oAdd pe_int (pv 7)) (fun _ _ => rfl)) pe_int) pa_nil)) (pe_op oAdd (pv 8) pe_int)) (pa_cons (pv 8) pa_nil))))
    (pss_cons (ps_asg (xIx (K := K) (pv 6) (pe_op oMod (pe_callTy kInt (by rfl) T.z_int (by decide +kernel) (pa_cons (pe_op oDiv (xIx (K := K) (pv 1) (pe_op oAdd pe_int (pv 7)) (fun _ _ => rfl)) pe_int) pa_nil)) (pe_callB (xLen (K := K)) (by rfl) T.z_len (by decide +kernel) (pa_cons (pv 6) pa_nil))) (fun _ _ => rfl)) (xGtup (K := K) (n := 2) rfl (pgs_cons (pg_name (i := 10) S.nd rfl (Or.inl rfl)) (pgs_cons (pg_name (i := 11) S.nd rfl (Or.inl rfl)) pgs_nil))))
    (pss_cons (ps_set (i := 12) S.nd rfl (Or.inl rfl) (pe_fn (ok_lw_true_line (K := K) T) (hr.mono (by decide)) rfl (pa_cons (pv 2) (pa_cons (pv 9) (pa_cons (xIx (K := K) (pv 1) (pe_op oAdd pe_int (pv 7)) (fun _ _ => rfl)) (pa_cons (pv 10) pa_nil))))))
    (pss_cons (ps_set (i := 13) S.nd rfl (Or.inl rfl) (pe_fn (ok_lw_true_line (K := K) T) (hr.mono (by decide)) rfl (pa_cons (pv 2) (pa_cons (pv 9) (pa_cons (xIx (K := K) (pv 1) (pe_op oAdd pe_int (pv 7)) (fun _ _ => rfl)) (pa_cons (pv 11) pa_nil))))))
    (pss_cons (ps_set (i := 14) S.nd rfl (Or.inl rfl) (pe_fn (ok_lw_mix (K := K) T) (hr.mono (by decide)) rfl (pa_cons (pv 12) (pa_cons (pe_op oMod (pe_callTy kInt (by rfl) T.z_int (by decide +kernel) (pa_cons (xIx (K := K) (pv 1) pe_int (fun _ _ => rfl)) pa_nil)) pe_int) (pa_cons pe_int pa_nil)))))
    (pss_cons (ps_set (i := 15) S.nd rfl (Or.inl rfl) (pe_fn (ok_lw_mix (K := K) T) (hr.mono (by decide)) rfl (pa_cons (pv 13) (pa_cons (pe_op oMod (pe_callTy kInt (by rfl) T.z_int (by decide +kernel) (pa_cons (pe_op oDiv (xIx (K := K) (pv 1) pe_int (fun _ _ => rfl)) (pe_op oAdd (pv 7) pe_int)) pa_nil)) pe_int) (pa_cons pe_int pa_nil)))))
    (pss_one (ps_if (pt_not (pt_val (pe_fn (ok_lw_far (K := K) T) (hr.mono (by decide)) rfl (pa_cons (pv 14) (pa_cons (pv 15) (pa_cons (pe_op oAdd (xFld (K := K) (xIx (K := K) (xIx (K := K) (pv 5) (pv 10) (fun _ _ => rfl)) pe_int (fun _ _ => rfl)) rfl) (xFld (K := K) (xIx (K := K) (xIx (K := K) (pv 5) (pv 11) (fun _ _ => rfl)) pe_int (fun _ _ => rfl)) rfl)) pa_nil)))))) (pss_one (ps_ret pe_bl)) pss_nil))))))))))
    (pss_one (ps_ret pe_bl)))))))))))), fun sc hz B Nx Rt Bk Ct k => ?_⟩
  (try dsimp only at hz k ⊢)
  obtain ⟨N, hN⟩ := bd_all sc
  refine Go.le ?_ (LeC.retype (i := 0) rfl (tZ_bd hN))
  refine go_seq (go_asgX (ev_call (ι := Nat × List Int) (N, sc) (ea_cons (ev_var rfl) (ea_cons (ev_int64 (by decide)) ea_nil)) hz) fun rows hr => ?_)
  refine go_seq (go_asgX (ev_call (ι := Nat × List Int × Int) (N, rows, rows.getD 10 default) (ea_cons (ev_var rfl) (ea_cons (ev_int64 (by decide)) (ea_cons (ev_row 10 (ev_var rfl) (ev_int64 (by decide)) rfl hr (by decide)) ea_nil))) ⟨hr, row_nn hr (by decide)⟩) fun m hm => ?_)
  refine go_seq (go_asg (e_Matter m ev_str (ev_var rfl)) ?_)
  have hd := md (x := rows.getD 12 default) (n := 6) (by decide)
  refine go_seq (go_asgX (ev_call (ι := Mr × Nat) (m, (rows.getD 12 default % 6).toNat) (ea_cons (ev_var rfl) (ea_cons (ev_is (ev_mod (ev_intc (ev_row 12 (ev_var rfl) (ev_int64 (by decide)) rfl hr (by decide))) (ev_int64 (by decide)) (by decide)) (nat_cast hd.1)) ea_nil)) ⟨hm, (by show (rows.getD 12 default % 6).toNat ≤ 5; omega)⟩) fun vd hvd' => ?_)
  have hvd : VdOk m (0, 0) (rows.getD 12 default % 6).toNat vd := hvd'
  refine go_seq (go_if (et_test (ev_neS (f_Verdict_word T (ev_var rfl)) ev_str)) (fun hb => ?_) (fun hb => go_next ?_))
  · refine go_ret (ev_is (ev_orV (ev_eqS (f_Verdict_word T (ev_var rfl)) ev_str) (fun _ => ev_eqS (f_Verdict_word T (ev_var rfl)) ev_str)) ?_) k
    cases vd with
    | clear t n => exact absurd hb (by show ¬((!decide (("clear" : Str) = "clear")) = true); decide)
    | bad wd n =>
      obtain ⟨w1, _⟩ := hvd
      rcases w1 with rfl | rfl
      · show (decide (("meets" : Str) = "meets") || decide (("meets" : Str) = "open")) = true; decide
      · show (decide (("open" : Str) = "meets") || decide (("open" : Str) = "open")) = true; decide
  cases vd with
  | bad wd n =>
    exfalso
    obtain ⟨w1, _⟩ := hvd
    have hb' : (!decide (wd = ("clear" : Str))) = false := hb
    rcases w1 with rfl | rfl
    · exact absurd hb' (by decide)
    · exact absurd hb' (by decide)
  | clear t n =>
    obtain ⟨v1, v2, v3, v4, v5⟩ := hvd
    have hright : rightB m t (0, 0) 20 = true := v2 20 (by omega)
    refine go_seq (go_ifF (et_is (et_test (ev_notB (ev_call (ι := Mr × Tree) (m, t) (ea_cons (ev_var rfl) (ea_cons (f_tree_clear T (n := n) (ev_var rfl)) ea_nil)) ⟨hm, (by show t.depth ≤ 6; omega)⟩) ev_bl)) ?_) (go_next ?_))
    · show (!decide (rightB m t (0, 0) 20 = true)) = false
      rw [decide_eq_true hright]; rfl
    refine go_seq (go_asg (e_bodies T (ev_var rfl) hm) ?_)
    refine go_seq (go_asg (e_pairs T (ev_var rfl) hm) ?_)
    have h144 := pairs_len hm
    refine go_seq (go_if (et_test (ev_eqI (ev_lenLL (ev_var rfl) (by omega)) (ev_int64 (by decide)))) (fun hb => ?_) (fun hb => go_next ?_))
    · have h0 : pairs m = [] := List.eq_nil_of_length_eq_zero (by have := of_decide_eq_true hb; omega)
      obtain ⟨e1, e2⟩ := v5 h0
      subst e1 e2
      exact go_ret (ev_is (ev_andV (ev_leafEq (f_tree_clear T (n := 1) (ev_var rfl)) (ev_tup (es := fun ws => [tStr.en "leaf", (tWs K).en ws]) (x := []) (ea_cons ev_str (ea_cons (ev_tup (es := fun (ws : List V3) => ws.map fun x => (tV K 27000).en x) (x := []) ea_nil) ea_nil)))) (fun _ => ev_eqI (f_Verdict_looked T (ev_var rfl)) (ev_int64 (by decide)))) (by show (true && decide ((1 : Int) = 1)) = true; decide)) k
    have hpos : 0 < (pairs m).length := by
      have := of_decide_eq_false hb
      omega
    refine go_seq (go_forR1 (N := 6) (fun i G' => G' = ⟨[some ((yLstL K (tI N)).en sc), some ((tRs K N).en rows), some ((tMr K).en m), some ((tMt K).en m), some ((tVd K).en (.clear t n)), some ((yLstL K (tBo K)).en (bodies m)), some ((yLstL K (tPr K)).en (pairs m)), none, none, none, none, none, none, none, none, none], .no⟩) _ (ea_cons (ev_int64 (by decide)) ea_nil) (by decide) (LeC.refl _) rfl (fun i G' h => by subst h; exact trivial) (fun i G' hi h => ?_) (fun G' h => ?_))
    · subst h
      have u1 := md (x := rows.getD (16 + i) default) (n := 30) (by decide)
      refine go_seq (go_asg (e1 := (tI 64).en (1 + rows.getD (16 + i) default % 30)) (ev_narrow (ev_add (ev_int64 (by decide)) (ev_mod (ev_intc (ev_row (16 + i) (ev_var rfl) (ev_add (ev_int64 (by decide)) (ev_var rfl)) (by omega) hr (by omega))) (ev_int64 (by decide)) (by decide))) (bd64 (by omega) (by omega))) ?_)
      generalize hun : 1 + rows.getD (16 + i) default % 30 = un
      have u2 : 1 ≤ un ∧ un ≤ 30 := by omega
      have u3 := md (x := rows.getD (16 + i) default / 30) (n := un + 1) (by omega)
      refine go_seq (go_asg (e1 := (yT2 K (tI 64) (tI 64)).en (rows.getD (16 + i) default / 30 % (un + 1), un)) (ev_tup (ea_cons (ev_narrow (ev_mod (ev_intc (ev_div (ev_row (16 + i) (ev_var rfl) (ev_add (ev_int64 (by decide)) (ev_var rfl)) (by omega) hr (by omega)) (ev_int64 (by decide)) (by decide) (by decide))) (ev_add (ev_var rfl) (ev_int64 (by decide))) (by omega)) (bd64 (by show _ < rows.getD (16 + i) default / 30 % (un + 1); omega) (by show rows.getD (16 + i) default / 30 % (un + 1) < _; omega))) (ea_cons (ev_var rfl) ea_nil))) ?_)
      have hpar : ParOk (rows.getD (16 + i) default / 30 % (un + 1), un) := ⟨u3.1, by show rows.getD (16 + i) default / 30 % (un + 1) ≤ un; omega, u2.1, u2.2⟩
      generalize (rows.getD (16 + i) default / 30 % (un + 1), un) = par at hpar
      have u4 := md (x := rows.getD (16 + i) default / 961) (n := ((pairs m).length : Int)) (by omega)
      have hidx : (rows.getD (16 + i) default / 961 % ((pairs m).length : Int)).toNat < (pairs m).length := by omega
      have hmem := getD_mem hidx
      obtain ⟨qk, qj, hqe, hlt, hlj, _⟩ := pairs_in _ hmem
      rw [hqe] at hmem
      refine go_seq (go_tup2 (ev_is (ev_atL (ev_var rfl) (ev_is (ev_mod (ev_intc (ev_div (ev_row (16 + i) (ev_var rfl) (ev_add (ev_int64 (by decide)) (ev_var rfl)) (by omega) hr (by omega)) (ev_int64 (by decide)) (by decide) (by decide))) (ev_lenLL (ev_var rfl) (by omega)) (by omega)) (nat_cast u4.1)) hidx) hqe) ?_)
      refine go_seq (go_asg (ev_call (ι := Nat × Mr × (Int × Int) × Int × Nat) (N + 200, m, par, rows.getD (17 + i) default, qk) (ea_cons (ev_var rfl) (ea_cons (ev_var rfl) (ea_cons (ev_row (17 + i) (ev_var rfl) (ev_add (ev_int64 (by decide)) (ev_var rfl)) (by omega) hr (by omega)) (ea_cons (ev_var rfl) ea_nil)))) ⟨hm, hpar, (by show qk < (bodies m).length; omega)⟩) ?_)
      refine go_seq (go_asg (ev_call (ι := Nat × Mr × (Int × Int) × Int × Nat) (N + 200, m, par, rows.getD (17 + i) default, qj) (ea_cons (ev_var rfl) (ea_cons (ev_var rfl) (ea_cons (ev_row (17 + i) (ev_var rfl) (ev_add (ev_int64 (by decide)) (ev_var rfl)) (by omega) hr (by omega)) (ea_cons (ev_var rfl) ea_nil)))) ⟨hm, hpar, hlj⟩) ?_)
      have o1 := md (x := rows.getD 13 default) (n := 9) (by decide)
      have o2 := md (x := rows.getD 14 default / ((i : Int) + 1)) (n := 9) (by decide)
      refine go_seq (go_asg (ev_call (ι := (P4 × P4) × Int × Int) (trueLine m par (rows.getD (17 + i) default) qk, rows.getD 13 default % 9, 8) (ea_cons (ev_var rfl) (ea_cons (ev_mod (ev_intc (ev_row 13 (ev_var rfl) (ev_int64 (by decide)) rfl hr (by decide))) (ev_int64 (by decide)) (by decide)) (ea_cons (ev_int64 (by decide)) ea_nil))) trivial) ?_)
      refine go_seq (go_asg (ev_call (ι := (P4 × P4) × Int × Int) (trueLine m par (rows.getD (17 + i) default) qj, rows.getD 14 default / ((i : Int) + 1) % 9, 8) (ea_cons (ev_var rfl) (ea_cons (ev_mod (ev_intc (ev_div (ev_row 14 (ev_var rfl) (ev_int64 (by decide)) rfl hr (by decide)) (ev_add (ev_var rfl) (ev_int64 (by decide))) (by omega) (by decide))) (ev_int64 (by decide)) (by decide)) (ea_cons (ev_int64 (by decide)) ea_nil))) trivial) ?_)
      have hsafe := safe hm hright hmem hpar (rows.getD (17 + i) default) (o1 := rows.getD 13 default % 9) (o2 := rows.getD 14 default / ((i : Int) + 1) % 9) ⟨o1.1, by omega⟩ ⟨o2.1, by omega⟩
      refine go_ifF (et_is (et_not (et_B (ev_call (ι := P4 × P4 × Int) (mixP (trueLine m par (rows.getD (17 + i) default) qk) (rows.getD 13 default % 9) 8, mixP (trueLine m par (rows.getD (17 + i) default) qj) (rows.getD 14 default / ((i : Int) + 1) % 9) 8, ((bodies m).getD qk default).2.radius + ((bodies m).getD qj default).2.radius) (ea_cons (ev_var rfl) (ea_cons (ev_var rfl) (ea_cons (ev_le (ev_add (f_Body_radius T (ev_ixTc (ev_atL (ev_var rfl) (ev_var rfl) (by omega)) rfl)) (f_Body_radius T (ev_ixTc (ev_atL (ev_var rfl) (ev_var rfl) hlj) rfl))) (by decide)) ea_nil))) trivial))) ?_) (go_next (go_inv _ rfl (by walk_at "wk")))
      show (!farB _ _ _) = false
      rw [hsafe]; rfl
    · subst h
      exact go_ret ev_bl k
/- level 16 -/
end
end Aw
namespace Aw
open PySem PySem.Spec L2
theorem oks_ints {F : Hp} : ∀ ns : List Int, Oks F (ns.map V.int) (ns.map fun x => (tZ fun _ => True).en x)
  | [] => .nil
  | _ :: ns => .cons ⟨rfl, trivial⟩ (oks_ints ns)
theorem law_sp {K : PySem.W.Frag} (H : Hp) (a : Addr) (ns : List Int) (hl : ns.length ≤ 63) (hS : SqL K H a (ns.map V.int)) : sp_law K [.ref a] H (fun v _ => v = .bl true) fun _ _ _ => False :=
  ⟨ns, H, Same.refl H, .cons ⟨a, ns.map V.int, rfl, hS, oks_ints ns⟩ .nil, hl, fun v F' H' g r => r⟩
theorem facts {P : Program} {w : World} {K : PySem.W.Frag} {h : Heap} {mg : Str → Option Value} {f : Addr} (X : K.In h) (G : h.Ns mainGlobals mg) (hfa : mg ("law" : Str) = some (.ref f)) (c : Says K) :
    ∃ fd : FuncData, (∀ (s : Shared) (v : Value), BindsTo s fd ⟨[v], []⟩ [("_law_script", v)]) ∧ ∀ base : Heap, K.In base → base.Ns mainGlobals mg → FnOk P w K mg base CX0 16 f fd ["_law_script"] (sp_law K) := by
  have T : Txt K mg h := ⟨X, G, c⟩
  obtain ⟨fd, F⟩ := T.d_law
  have e := hfa.symm.trans T.g_law
  cases e
  have b := FunD.bindsA (ps := ["_law_script"]) F fun _ _ _ _ _ _ us hl => match us, hl with | [_], _ => rfl
  exact ⟨fd, fun s v => b s [v] rfl, fun base X2 G2 => ok_law ⟨X2, G2, c⟩ F⟩
end Aw
open PySem PySem.W PySem.Calls PyProof.Rows
theorem PySem.Challenge.cw_armwarrant_k27_whole_nothing_meets_itsel_holds : PySem.Challenge.rw_armwarrant_k27_whole_nothing_meets_itsel.Holds := by
  w_on; o_law
  refine HandSHeadRun.head_imp (r := OpenLaw.row PySem.Challenge.rw_armwarrant_k27_whole_nothing_meets_itsel) (q := view (OpenLaw.row PySem.Challenge.rw_armwarrant_k27_whole_nothing_meets_itsel).prog [0, 90]) (H := Aw.hk) (ob := Aw.ob) (M := 6000) (loose := Aw.loose) (d := HandSHeadRun.topDef (OpenLaw.row PySem.Challenge.rw_armwarrant_k27_whole_nothing_meets_itsel).prog 90) (kwd := []) Aw.ob_eq Aw.run
    (by kernel_rfl) (by kernel_rfl) (by kernel_rfl) (by rfl) (by first | assumption | decide +kernel) (by decide +kernel) ⟨rfl, rfl, rfl, rfl, rfl, by decide +kernel⟩ ?hw ?hc
  case hw => w_witness2
  case hc =>
    refine L2.walk_ofE (l := PySem.Challenge.rw_armwarrant_k27_whole_nothing_meets_itsel) (n := 63) (k := 16) (x := "_law_script") (CX := L2.CX0) rfl (by decide) (by kernel_rfl) ⟨rfl, by decide, by decide⟩ ?F (fun _ _ _ _ z => z)
    intro w mg fa h Y G hmg0
    obtain ⟨K, KX, c⟩ := Y
    have hmg : mg ("law" : PySem.Str) = some (.ref fa) := by
      have e : (HandSHeadRun.topDef (OpenLaw.row PySem.Challenge.rw_armwarrant_k27_whole_nothing_meets_itsel).prog 90).name = ("law" : PySem.Str) := by kernel_rfl
      rw [← e]
      exact hmg0
    obtain ⟨fd, hb, hF⟩ := Aw.facts (P := (PySem.Challenge.rw_armwarrant_k27_whole_nothing_meets_itsel).prog) (w := w) KX G hmg c
    exact ⟨K, fd, Aw.sp_law K, KX, hb, fun H a ns hl _ hS => Aw.law_sp H a ns hl hS, hF⟩

import PyProof.Rows.All
import Wide.All
import OpenK.AllK
import Wide.FinOn
import KE.KStateDown
import HandS.ForMost
import HandS.WordsExc
import HandS.Defaults
import HandS.Head0
import HandS.Head1
import HandS.Head2
import HandS.Head3
import HandS.HeadEnd
import HandS.HeadHook1
import HandS.HeadHook2
import HandS.HeadHook3
import HandS.Deep
import HandS.TupLen
import HandS.Gcd
import HandS.Wide
import HandS.IsInst
import HandS.Conv
import KE.DataFind
import HandS.Strs
import KE.GoesEnum
import HandS.DictComp
import HandS.Codes
import HandS.MakeKwOnly
import HandS.More
import HandS.TupSets
import KE.KDictCopyH
import KE.KDictDisplayH
import KE.KDictOf
import PySem.Challenge.RW_oddscall_k34_whole_cuts_make_quadratics
set_option Elab.async false
set_option linter.all false
set_option maxRecDepth 100000
set_option exponentiation.threshold 10000
set_option maxHeartbeats 0
namespace Od
open PySem PySem.Spec PyProof.Rows L2
def top (i : Nat) : Stmt := PySem.Challenge.pw_oddscall_k34_whole_cuts_make_quadratics.main.body.getD i (.Pass ⟨0, 0, 0, 0⟩)
abbrev s_closure : Stmt := top 2
def d_closure : He.DefD := ⟨("closure", none), "closure", "closure", defArgs s_closure, defBody s_closure, defScope s_closure, [], []⟩
abbrev s_blocks : Stmt := top 3
def d_blocks : He.DefD := ⟨("blocks", none), "blocks", "blocks", defArgs s_blocks, defBody s_blocks, defScope s_blocks, [], []⟩
abbrev s_is_looped : Stmt := top 4
def d_is_looped : He.DefD := ⟨("is_looped", none), "is_looped", "is_looped", defArgs s_is_looped, defBody s_is_looped, defScope s_is_looped, [], []⟩
abbrev s_is_integer_rationals : Stmt := top 11
def d_is_integer_rationals : He.DefD := ⟨("is_integer_rationals", none), "is_integer", "is_integer", defArgs s_is_integer_rationals, defBody s_is_integer_rationals, defScope s_is_integer_rationals, [], []⟩
abbrev s_is_rational : Stmt := top 13
def d_is_rational : He.DefD := ⟨("is_rational", none), "is_rational", "is_rational", defArgs s_is_rational, defBody s_is_rational, defScope s_is_rational, [], []⟩
abbrev s_reduced : Stmt := top 14
def d_reduced : He.DefD := ⟨("reduced", none), "reduced", "reduced", defArgs s_reduced, defBody s_reduced, defScope s_reduced, [], []⟩
abbrev s_plus : Stmt := top 15
def d_plus : He.DefD := ⟨("plus", none), "plus", "plus", defArgs s_plus, defBody s_plus, defScope s_plus, [], []⟩
abbrev s_is_integer_graphs : Stmt := top 26
def d_is_integer_graphs : He.DefD := ⟨("is_integer_graphs", none), "is_integer", "is_integer", defArgs s_is_integer_graphs, defBody s_is_integer_graphs, defScope s_is_integer_graphs, [], []⟩
abbrev s_is_index : Stmt := top 28
def d_is_index : He.DefD := ⟨("is_index", none), "is_index", "is_index", defArgs s_is_index, defBody s_is_index, defScope s_is_index, [], []⟩
abbrev s_has_form : Stmt := top 29
def d_has_form : He.DefD := ⟨("has_form", none), "has_form", "has_form", defArgs s_has_form, defBody s_has_form, defScope s_has_form, [], []⟩
abbrev s_is_chance : Stmt := top 30
def d_is_chance : He.DefD := ⟨("is_chance", none), "is_chance", "is_chance", defArgs s_is_chance, defBody s_is_chance, defScope s_is_chance, [], []⟩
abbrev s_is_amount : Stmt := top 31
def d_is_amount : He.DefD := ⟨("is_amount", none), "is_amount", "is_amount", defArgs s_is_amount, defBody s_is_amount, defScope s_is_amount, [], []⟩
abbrev s_draw_problem : Stmt := top 32
def d_draw_problem : He.DefD := ⟨("draw_problem", none), "draw_problem", "draw_problem", defArgs s_draw_problem, defBody s_draw_problem, defScope s_draw_problem, [], []⟩
abbrev s_points_problem : Stmt := top 33
def d_points_problem : He.DefD := ⟨("points_problem", none), "points_problem", "points_problem", defArgs s_points_problem, defBody s_points_problem, defScope s_points_problem, [], []⟩
abbrev s_point_problem : Stmt := top 34
def d_point_problem : He.DefD := ⟨("point_problem", none), "point_problem", "point_problem", defArgs s_point_problem, defBody s_point_problem, defScope s_point_problem, [], []⟩
abbrev s_check_procedure : Stmt := top 35
def d_check_procedure : He.DefD := ⟨("check_procedure", none), "check_procedure", "check_procedure", defArgs s_check_procedure, defBody s_check_procedure, defScope s_check_procedure, [], []⟩
abbrev s_check_procedures : Stmt := top 36
def d_check_procedures : He.DefD := ⟨("check_procedures", none), "check_procedures", "check_procedures", defArgs s_check_procedures, defBody s_check_procedures, defScope s_check_procedures, [], []⟩
abbrev s_G_init : Stmt := inClass (top 38) 0
def d_G_init : He.DefD := ⟨("Graph", some "__init__"), "__init__", "Graph.__init__", defArgs s_G_init, defBody s_G_init, defScope s_G_init, [], []⟩
abbrev s_G_is_chain : Stmt := inClass (top 38) 1
def d_G_is_chain : He.DefD := ⟨("Graph", some "is_chain"), "is_chain", "Graph.is_chain", defArgs s_G_is_chain, defBody s_G_is_chain, defScope s_G_is_chain, [], []⟩
abbrev s_G_places : Stmt := inClass (top 38) 2
def d_G_places : He.DefD := ⟨("Graph", some "places"), "places", "Graph.places", defArgs s_G_places, defBody s_G_places, defScope s_G_places, [], []⟩
abbrev s_G_is_place : Stmt := inClass (top 38) 3
def d_G_is_place : He.DefD := ⟨("Graph", some "is_place"), "is_place", "Graph.is_place", defArgs s_G_is_place, defBody s_G_is_place, defScope s_G_is_place, [], []⟩
abbrev s_G_check_place : Stmt := inClass (top 38) 4
def d_G_check_place : He.DefD := ⟨("Graph", some "check_place"), "check_place", "Graph.check_place", defArgs s_G_check_place, defBody s_G_check_place, defScope s_G_check_place, [], []⟩
abbrev s_G_point_at : Stmt := inClass (top 38) 5
def d_G_point_at : He.DefD := ⟨("Graph", some "point_at"), "point_at", "Graph.point_at", defArgs s_G_point_at, defBody s_G_point_at, defScope s_G_point_at, [], []⟩
abbrev s_G_ways : Stmt := inClass (top 38) 6
def d_G_ways : He.DefD := ⟨("Graph", some "ways"), "ways", "Graph.ways", defArgs s_G_ways, defBody s_G_ways, defScope s_G_ways, [], []⟩
abbrev s_check_chain : Stmt := top 41
def d_check_chain : He.DefD := ⟨("check_chain", none), "check_chain", "check_chain", defArgs s_check_chain, defBody s_check_chain, defScope s_check_chain, [], []⟩
abbrev s_is_unknown : Stmt := top 42
def d_is_unknown : He.DefD := ⟨("is_unknown", none), "is_unknown", "is_unknown", defArgs s_is_unknown, defBody s_is_unknown, defScope s_is_unknown, [], []⟩
abbrev s_check_unknown : Stmt := top 43
def d_check_unknown : He.DefD := ⟨("check_unknown", none), "check_unknown", "check_unknown", defArgs s_check_unknown, defBody s_check_unknown, defScope s_check_unknown, [], []⟩
abbrev s_all_unknowns : Stmt := top 44
def d_all_unknowns : He.DefD := ⟨("all_unknowns", none), "all_unknowns", "all_unknowns", defArgs s_all_unknowns, defBody s_all_unknowns, defScope s_all_unknowns, [], []⟩
abbrev s_call_terms : Stmt := top 45
def d_call_terms : He.DefD := ⟨("call_terms", none), "call_terms", "call_terms", defArgs s_call_terms, defBody s_call_terms, defScope s_call_terms, [], []⟩
abbrev s_all_terms : Stmt := top 46
def d_all_terms : He.DefD := ⟨("all_terms", none), "all_terms", "all_terms", defArgs s_all_terms, defBody s_all_terms, defScope s_all_terms, [], []⟩
abbrev s_system_of : Stmt := top 47
def d_system_of : He.DefD := ⟨("system_of", none), "system_of", "system_of", defArgs s_system_of, defBody s_system_of, defScope s_system_of, [], []⟩
abbrev s_factors_of : Stmt := top 50
def d_factors_of : He.DefD := ⟨("factors_of", none), "factors_of", "factors_of", defArgs s_factors_of, defBody s_factors_of, defScope s_factors_of, [], []⟩
abbrev s_parts_of : Stmt := top 51
def d_parts_of : He.DefD := ⟨("parts_of", none), "parts_of", "parts_of", defArgs s_parts_of, defBody s_parts_of, defScope s_parts_of, [], []⟩
abbrev s_is_curved : Stmt := top 52
def d_is_curved : He.DefD := ⟨("is_curved", none), "is_curved", "is_curved", defArgs s_is_curved, defBody s_is_curved, defScope s_is_curved, [], []⟩
abbrev s_leads : Stmt := top 53
def d_leads : He.DefD := ⟨("leads", none), "leads", "leads", defArgs s_leads, defBody s_leads, defScope s_leads, [], []⟩
abbrev s_group_terms : Stmt := top 54
def d_group_terms : He.DefD := ⟨("group_terms", none), "group_terms", "group_terms", defArgs s_group_terms, defBody s_group_terms, defScope s_group_terms, [], []⟩
abbrev s_total : Stmt := top 55
def d_total : He.DefD := ⟨("total", none), "total", "total", defArgs s_total, defBody s_total, defScope s_total, [], []⟩
abbrev s_degrees_beside : Stmt := top 56
def d_degrees_beside : He.DefD := ⟨("degrees_beside", none), "degrees_beside", "degrees_beside", defArgs s_degrees_beside, defBody s_degrees_beside, defScope s_degrees_beside, [], []⟩
abbrev s_cuts_of : Stmt := top 57
def d_cuts_of : He.DefD := ⟨("cuts_of", none), "cuts_of", "cuts_of", defArgs s_cuts_of, defBody s_cuts_of, defScope s_cuts_of, [], []⟩
abbrev s_cuts : Stmt := top 58
def d_cuts : He.DefD := ⟨("cuts", none), "cuts", "cuts", defArgs s_cuts, defBody s_cuts, defScope s_cuts, [], []⟩
abbrev s_part_with : Stmt := top 59
def d_part_with : He.DefD := ⟨("part_with", none), "part_with", "part_with", defArgs s_part_with, defBody s_part_with, defScope s_part_with, [], []⟩
abbrev s_degrees : Stmt := top 60
def d_degrees : He.DefD := ⟨("degrees", none), "degrees", "degrees", defArgs s_degrees, defBody s_degrees, defScope s_degrees, [], []⟩
abbrev s_l_stream : Stmt := top 62
def d_l_stream : He.DefD := ⟨("_law_stream", none), "_law_stream", "_law_stream", defArgs s_l_stream, defBody s_l_stream, defScope s_l_stream, [], []⟩
abbrev s_l_next : Stmt := top 63
def d_l_next : He.DefD := ⟨("_law_next", none), "_law_next", "_law_next", defArgs s_l_next, defBody s_l_next, defScope s_l_next, [], []⟩
abbrev s_l_gcd : Stmt := top 64
def d_l_gcd : He.DefD := ⟨("_law_gcd", none), "_law_gcd", "_law_gcd", defArgs s_l_gcd, defBody s_l_gcd, defScope s_l_gcd, [], []⟩
abbrev s_l_low : Stmt := top 65
def d_l_low : He.DefD := ⟨("_law_low", none), "_law_low", "_law_low", defArgs s_l_low, defBody s_l_low, defScope s_l_low, [], []⟩
abbrev s_l_plus : Stmt := top 66
def d_l_plus : He.DefD := ⟨("_law_plus", none), "_law_plus", "_law_plus", defArgs s_l_plus, defBody s_l_plus, defScope s_l_plus, [], []⟩
abbrev s_l_times : Stmt := top 67
def d_l_times : He.DefD := ⟨("_law_times", none), "_law_times", "_law_times", defArgs s_l_times, defBody s_l_times, defScope s_l_times, [], []⟩
abbrev s_l_draw : Stmt := top 68
def d_l_draw : He.DefD := ⟨("_law_draw", none), "_law_draw", "_law_draw", defArgs s_l_draw, defBody s_l_draw, defScope s_l_draw, [], []⟩
abbrev s_l_point : Stmt := top 69
def d_l_point : He.DefD := ⟨("_law_point", none), "_law_point", "_law_point", defArgs s_l_point, defBody s_l_point, defScope s_l_point, [], []⟩
abbrev s_l_procedures : Stmt := top 70
def d_l_procedures : He.DefD := ⟨("_law_procedures", none), "_law_procedures", "_law_procedures", defArgs s_l_procedures, defBody s_l_procedures, defScope s_l_procedures, [], []⟩
abbrev s_l_unknowns : Stmt := top 71
def d_l_unknowns : He.DefD := ⟨("_law_unknowns", none), "_law_unknowns", "_law_unknowns", defArgs s_l_unknowns, defBody s_l_unknowns, defScope s_l_unknowns, [], []⟩
abbrev s_l_terms : Stmt := top 72
def d_l_terms : He.DefD := ⟨("_law_terms", none), "_law_terms", "_law_terms", defArgs s_l_terms, defBody s_l_terms, defScope s_l_terms, [], []⟩
abbrev s_l_live : Stmt := top 73
def d_l_live : He.DefD := ⟨("_law_live", none), "_law_live", "_law_live", defArgs s_l_live, defBody s_l_live, defScope s_l_live, [], []⟩
abbrev s_l_reaches : Stmt := top 74
def d_l_reaches : He.DefD := ⟨("_law_reaches", none), "_law_reaches", "_law_reaches", defArgs s_l_reaches, defBody s_l_reaches, defScope s_l_reaches, [], []⟩
abbrev s_l_parts : Stmt := top 75
def d_l_parts : He.DefD := ⟨("_law_parts", none), "_law_parts", "_law_parts", defArgs s_l_parts, defBody s_l_parts, defScope s_l_parts, [], []⟩
abbrev s_l_factors : Stmt := top 76
def d_l_factors : He.DefD := ⟨("_law_factors", none), "_law_factors", "_law_factors", defArgs s_l_factors, defBody s_l_factors, defScope s_l_factors, [], []⟩
abbrev s_l_leads : Stmt := top 77
def d_l_leads : He.DefD := ⟨("_law_leads", none), "_law_leads", "_law_leads", defArgs s_l_leads, defBody s_l_leads, defScope s_l_leads, [], []⟩
abbrev s_l_groups : Stmt := top 78
def d_l_groups : He.DefD := ⟨("_law_groups", none), "_law_groups", "_law_groups", defArgs s_l_groups, defBody s_l_groups, defScope s_l_groups, [], []⟩
abbrev s_l_term_value : Stmt := top 79
def d_l_term_value : He.DefD := ⟨("_law_term_value", none), "_law_term_value", "_law_term_value", defArgs s_l_term_value, defBody s_l_term_value, defScope s_l_term_value, [], []⟩
abbrev s_l_group_rows : Stmt := top 80
def d_l_group_rows : He.DefD := ⟨("_law_group_rows", none), "_law_group_rows", "_law_group_rows", defArgs s_l_group_rows, defBody s_l_group_rows, defScope s_l_group_rows, [], []⟩
abbrev s_l_solved : Stmt := top 81
def d_l_solved : He.DefD := ⟨("_law_solved", none), "_law_solved", "_law_solved", defArgs s_l_solved, defBody s_l_solved, defScope s_l_solved, [], []⟩
abbrev s_l_values : Stmt := top 82
def d_l_values : He.DefD := ⟨("_law_values", none), "_law_values", "_law_values", defArgs s_l_values, defBody s_l_values, defScope s_l_values, [], []⟩
abbrev s_l_side : Stmt := top 83
def d_l_side : He.DefD := ⟨("_law_side", none), "_law_side", "_law_side", defArgs s_l_side, defBody s_l_side, defScope s_l_side, [], []⟩
abbrev s_l_difference : Stmt := top 84
def d_l_difference : He.DefD := ⟨("_law_difference", none), "_law_difference", "_law_difference", defArgs s_l_difference, defBody s_l_difference, defScope s_l_difference, [], []⟩
abbrev s_l_cut_is_right : Stmt := top 85
def d_l_cut_is_right : He.DefD := ⟨("_law_cut_is_right", none), "_law_cut_is_right", "_law_cut_is_right", defArgs s_l_cut_is_right, defBody s_l_cut_is_right, defScope s_l_cut_is_right, [], []⟩
abbrev s_law : Stmt := top 86
def d_law : He.DefD := ⟨("law", none), "law", "law", defArgs s_law, defBody s_law, defScope s_law, [], []⟩
def fn0 : List He.DefD := [d_closure, d_blocks, d_is_looped, d_is_integer_rationals, d_is_rational, d_reduced, d_plus, d_is_integer_graphs, d_is_index, d_has_form, d_is_chance, d_is_amount, d_draw_problem, d_points_problem, d_point_problem, d_check_procedure, d_check_procedures, d_G_init, d_G_is_chain, d_G_places, d_G_is_place, d_G_check_place, d_G_point_at, d_G_ways, d_check_chain, d_is_unknown, d_check_unknown, d_all_unknowns, d_call_terms, d_all_terms]
def fn1 : List He.DefD := [d_system_of, d_factors_of, d_parts_of, d_is_curved, d_leads, d_group_terms, d_total, d_degrees_beside, d_cuts_of, d_cuts, d_part_with, d_degrees, d_l_stream, d_l_next, d_l_gcd, d_l_low, d_l_plus, d_l_times, d_l_draw, d_l_point, d_l_procedures, d_l_unknowns, d_l_terms, d_l_live, d_l_reaches, d_l_parts, d_l_factors, d_l_leads, d_l_groups, d_l_term_value]
def fn2 : List He.DefD := [d_l_group_rows, d_l_solved, d_l_values, d_l_side, d_l_difference, d_l_cut_is_right, d_law]
def fn : List He.DefD := fn0 ++ fn1 ++ fn2
def fa0 : List He.Fa := [.glo "closure", .glo "blocks", .glo "is_looped", .glo "is_integer_rationals", .glo "is_rational", .glo "reduced", .glo "plus", .glo "is_integer_graphs", .glo "is_index", .glo "has_form", .glo "is_chance", .glo "is_amount", .glo "draw_problem", .glo "points_problem", .glo "point_problem", .glo "check_procedure", .glo "check_procedures", .meth "Graph" "is_chain", .meth "Graph" "places", .meth "Graph" "is_place", .meth "Graph" "check_place", .meth "Graph" "point_at", .meth "Graph" "ways", .glo "Graph", .cls "Graph", .mkr "Graph", .noat "Graph" "procedures", .glo "check_chain", .glo "is_unknown", .glo "check_unknown"]
def fa1 : List He.Fa := [.glo "all_unknowns", .glo "call_terms", .glo "all_terms", .glo "system_of", .glo "factors_of", .glo "parts_of", .glo "is_curved", .glo "leads", .glo "group_terms", .glo "total", .glo "degrees_beside", .glo "cuts_of", .glo "cuts", .glo "part_with", .glo "degrees", .glo "_law_stream", .glo "_law_next", .glo "_law_gcd", .glo "_law_low", .glo "_law_plus", .glo "_law_times", .glo "_law_draw", .glo "_law_point", .glo "_law_procedures", .glo "_law_unknowns", .glo "_law_terms", .glo "_law_live", .glo "_law_reaches", .glo "_law_parts", .glo "_law_factors"]
def fa2 : List He.Fa := [.glo "_law_leads", .glo "_law_groups", .glo "_law_term_value", .glo "_law_group_rows", .glo "_law_solved", .glo "_law_values", .glo "_law_side", .glo "_law_difference", .glo "_law_cut_is_right", .glo "law", .free "len", .free "range", .free "list", .free "tuple", .free "sorted", .free "enumerate", .free "zip", .free "any", .free "all", .free "max", .free "sum", .free "abs", .free "int", .free "isinstance", .free "dict", .free "bool", .free "str", .int "MOST_PROCEDURES" 6, .int "MOST_EXITS" 3, .int "MOST_POINTS" 16]
def fa3 : List He.Fa := [.int "MOST_IN_ALL" 40, .int "MOST_BRANCHES" 4, .int "MOST_DENOMINATOR" 60, .int "MOST_AMOUNT" 1000, .int "MOST_AMOUNT_DENOMINATOR" 12, .int "MOST_DEGREE" 2, .glo "ONE", .glo "LENGTHS"]
def fa : List He.Fa := fa0 ++ fa1 ++ fa2 ++ fa3
def loose0 : List PySem.Str := ["closure", "blocks", "is_looped", "OddsError", "BadValue", "BadGraph", "NotTold", "is_integer", "is_integer_rationals", "is_rational", "reduced", "plus", "MOST_PROCEDURES", "MOST_EXITS"]
def loose1 : List PySem.Str := ["MOST_POINTS", "MOST_IN_ALL", "MOST_BRANCHES", "MOST_DENOMINATOR", "MOST_AMOUNT", "MOST_AMOUNT_DENOMINATOR", "LENGTHS", "is_integer_graphs", "is_index", "has_form", "is_chance", "is_amount", "draw_problem", "points_problem", "point_problem"]
def loose2 : List PySem.Str := ["check_procedure", "check_procedures", "points_of", "Graph", "ONE", "check_chain", "is_unknown", "check_unknown", "all_unknowns", "call_terms", "all_terms", "system_of", "MOST_DEGREE", "factors_of", "parts_of"]
def loose3 : List PySem.Str := ["is_curved", "leads", "group_terms", "total", "degrees_beside", "cuts_of", "cuts", "part_with", "degrees", "_law_stream", "_law_next", "_law_gcd", "_law_low", "_law_plus", "_law_times"]
def loose4 : List PySem.Str := ["_law_draw", "_law_point", "_law_procedures", "_law_unknowns", "_law_terms", "_law_live", "_law_reaches", "_law_parts", "_law_factors", "_law_leads", "_law_groups", "_law_term_value", "_law_group_rows", "_law_solved", "_law_values"]
def loose5 : List PySem.Str := ["_law_side", "_law_difference", "_law_cut_is_right"]
def loose : List PySem.Str := loose0 ++ loose1 ++ loose2 ++ loose3 ++ loose4 ++ loose5
def exB (K : PySem.W.Frag) : Bool :=
  He.eqO (PySem.W.nsIn K mainGlobals "gcd") (some (some (.builtin "math.gcd"))) && (He.tupB K "ONE" [.int 1, .int 1] &&
  (He.valsB K (He.ga K "LENGTHS") [("exit", .int 2), ("draw", .int 2), ("call", .int 3), ("reward", .int 3), ("reject", .int 1), ("stop", .int 1)] &&
  (decide (PySem.W.kitOne K (.ref (He.ga K "Graph")) (.ref (He.ga K "Graph")) = some true) &&
  (He.eqO (PySem.W.findIn K (.ref (He.ga K "Graph")) "__class__") (some (some (.builtin "object.__class__"))) &&
  (He.eqO (PySem.W.specialIn K (.builtin "object.__class__") "__get__") (some (some (.builtin "getset_descriptor.__get__"))) &&
  (decide (PySem.W.takesIn K (.builtin "object.__class__") = some true) && decide (PySem.W.mroIn K (He.ga K "Graph") (.type "object") = some true)))))))
def ts : List He.Tab := [(fun K => He.ga K "LENGTHS", ["exit", "draw", "choose", "call", "reward", "reject", "stop"])]
abbrev R : PySem.W.OpenRow := PySem.W.OpenLaw.row PySem.Challenge.rw_oddscall_k34_whole_cuts_make_quadratics
abbrev AlY : Type := He.AlT × Bool
def obsY (g : Addr → Option Obj) (n : Nat) : AlY := (He.obsT fa fn ts (He.frG g (List.range n)), exB (He.frG g (List.range n)))
def SaysY (w : World) (K : PySem.W.Frag) : Prop := (He.obsT fa fn ts K, exB K) = (He.valT fn ts w, true)
def hk : PySem.W.Hook where
  α := AlY
  obs := fun s => obsY s.heap.get? s.heap.objs.size
  val := fun w => (He.valT fn ts w, true)
  says := fun w h => ∃ K : PySem.W.Frag, K.In h ∧ SaysY w K
  of := fun _ _ e => ⟨_, He.frG_in, e⟩
  keeps := fun _ _ _ ⟨K, hK, c⟩ k => ⟨K, PySem.W.Frag.In.keeps hK k, c⟩
def ob (s : PySem.W.SharedT) : AlY := obsY (HandSHeadRun.getT s) s.n
theorem ob_eq (s : PySem.W.SharedT) : ob s = hk.obs s.abs := by
  have e : HandSHeadRun.getT s = s.abs.heap.get? := funext (HandSHeadRun.getT_eq s)
  have z : s.abs.heap.objs.size = s.n := PySem.W.absHeap_size s.tree s.n s.life
  show obsY (HandSHeadRun.getT s) s.n = obsY s.abs.heap.get? s.abs.heap.objs.size
  rw [e, z]
theorem runF (w : World) : HandSHeadRun.RunEqI R (PySem.W.view R.prog [0, 86]) hk ob 4000 loose (w.withFollow "special-get-raises" false) := by
  unfold HandSHeadRun.RunEqI
  kernel_rfl
theorem runT (w : World) : HandSHeadRun.RunEqI R (PySem.W.view R.prog [0, 86]) hk ob 4000 loose (w.withFollow "special-get-raises" true) := by
  unfold HandSHeadRun.RunEqI
  kernel_rfl
theorem run (w : World) : HandSHeadRun.RunEqI R (PySem.W.view R.prog [0, 86]) hk ob 4000 loose w :=
  PySem.W.byRow2 "special-get-raises" (P := fun w => HandSHeadRun.RunEqI R (PySem.W.view R.prog [0, 86]) hk ob 4000 loose w) runF runT w
end Od
namespace Od
open PySem PySem.Spec PyProof.Rows L2
/-- data as the program handles it; ptr a: an object that may be written -/
inductive D where
  | non | bl (b : Bool) | int (i : Int) | str (x : Str)
  | tup (ds : List D) | lst (ds : List D) | dic (ks : List (List Int × D))
  | gtup (ds : List D) | ptr (a : Addr) | any | grf (C : Addr) (d : D) | slst (ns : List Int)
abbrev Mu := List (Addr × D)
abbrev Rho := List (Option D)
mutual
def Rep (K : PySem.W.Frag) (B : Hp) : D → V → Prop
  | .non, v => v = .non
  | .bl b, v => v = .bl b
  | .int i, v => v = .int i
  | .str x, v => v = .str x
  | .tup ds, v => ∃ a xs, v = .ref a ∧ B a = some (.tup xs) ∧ Reps K B ds xs
  | .lst ds, v => ∃ a xs, v = .ref a ∧ B a = some (.lst xs) ∧ Reps K B ds xs
  | .dic ks, v => ∃ a ws, v = .ref a ∧ Rd B a (.dT ws) ∧ RepK K B ks ws
  | .gtup ds, v => ∃ a xs o, v = .ref a ∧ B a = some (.frz o (.tup xs)) ∧ o.dict = none ∧ Reps K B ds xs
  | .ptr a, v => v = .ref a
  | .any, _ => True
  | .grf C d, v => ∃ a dx x, v = .ref a ∧ B a = some (.ins C dx [("procedures", x)]) ∧ Rep K B d x
  | .slst ns, v => ∃ a, v = .ref a ∧ SqL K B a (ns.map V.int)
def Reps (K : PySem.W.Frag) (B : Hp) : List D → List V → Prop
  | [], vs => vs = []
  | d :: ds, vs => ∃ x r, vs = x :: r ∧ Rep K B d x ∧ Reps K B ds r
def RepK (K : PySem.W.Frag) (B : Hp) : List (List Int × D) → List (List Key × V) → Prop
  | [], ws => ws = []
  | (k, d) :: ks, ws => ∃ x r, ws = (k.map Sum.inl, x) :: r ∧ Rep K B d x ∧ RepK K B ks r
end
/-- B' holds what B holds, but for locks -/
structure Wk (B B' : Hp) : Prop where
  t : ∀ a xs, B a = some (.tup xs) → B' a = some (.tup xs)
  l : ∀ a xs, B a = some (.lst xs) → B' a = some (.lst xs)
  r : ∀ a xs, Rd B a (.lst xs) → Rd B' a (.lst xs)
  d : ∀ a ws, Rd B a (.dT ws) → Rd B' a (.dT ws)
  i : ∀ a C dx fs, B a = some (.ins C dx fs) → B' a = some (.ins C dx fs)
  g : ∀ a o xs, B a = some (.frz o (.tup xs)) → B' a = some (.frz o (.tup xs))
def Inc (B B' : Hp) : Prop := ∀ a u, B a = some u → B' a = some u
theorem Inc.refl (B : Hp) : Inc B B := fun _ _ h => h
theorem Inc.trans {A B C : Hp} (h : Inc A B) (g : Inc B C) : Inc A C := fun a u x => g a u (h a u x)
theorem Inc.rd {B B' : Hp} (h : Inc B B') {a : Addr} {u : HO} (r : Rd B a u) : Rd B' a u := by
  rcases r with r | ⟨o, r⟩
  · exact .inl (h _ _ r)
  · exact .inr ⟨o, h _ _ r⟩
theorem Inc.wk {B B' : Hp} (h : Inc B B') : Wk B B' := ⟨fun a _ => h a _, fun a _ => h a _, fun _ _ => h.rd, fun _ _ => h.rd, fun a _ _ _ => h a _, fun a _ _ => h a _⟩
theorem Inc.new {B : Hp} {a : Addr} {o : HO} (n : B a = none) : Inc B (upd B a o) := fun b u e => by
  rw [upd_ne (ne_of_none e n)]; exact e
theorem Wk.lock {B : Hp} {a : Addr} {ws : List (List Key × V)} {od : Obj} (e : B a = some (.dT ws)) : Wk B (upd B a (.frz od (.dT ws))) := by
  have ne : ∀ b u, B b = some u → (∀ ws, u ≠ .dT ws) → upd B a (.frz od (.dT ws)) b = some u := fun b u h n => by
    rw [upd_ne (ne_of h e (n ws))]; exact h
  refine ⟨fun b xs h => ne b _ h fun _ z => (by cases z), fun b xs h => ne b _ h fun _ z => (by cases z), fun b xs h => ?_, fun b w h => ?_, fun b C dx fs h => ne b _ h fun _ z => (by cases z), fun b o xs h => ne b _ h fun _ z => (by cases z)⟩
  · rcases h with h | ⟨o, h⟩
    · exact .inl (ne b _ h fun _ z => (by cases z))
    · exact .inr ⟨o, ne b _ h fun _ z => (by cases z)⟩
  · rcases h with h | ⟨o, h⟩
    · by_cases hb : b = a
      · subst hb
        rw [e] at h; cases h
        exact .inr ⟨od, upd_same⟩
      · exact .inl (by rw [upd_ne hb]; exact h)
    · exact .inr ⟨o, ne b _ h fun _ z => (by cases z)⟩
theorem Wk.unlock {B : Hp} {a : Addr} {ws : List (List Key × V)} {od : Obj} (e : B a = some (.frz od (.dT ws))) : Wk B (upd B a (.dT ws)) := by
  have ne : ∀ b u, B b = some u → (∀ o w, u ≠ .frz o (.dT w)) → upd B a (.dT ws) b = some u := fun b u h n => by
    rw [upd_ne (ne_of h e (n od ws))]; exact h
  refine ⟨fun b xs h => ne b _ h fun _ _ z => (by cases z), fun b xs h => ne b _ h fun _ _ z => (by cases z), fun b xs h => ?_, fun b w h => ?_, fun b C dx fs h => ne b _ h fun _ _ z => (by cases z), fun b o xs h => ne b _ h fun _ _ z => (by cases z)⟩
  · rcases h with h | ⟨o, h⟩
    · exact .inl (ne b _ h fun _ _ z => (by cases z))
    · exact .inr ⟨o, ne b _ h fun _ _ z => (by cases z)⟩
  · rcases h with h | ⟨o, h⟩
    · exact .inl (ne b _ h fun _ _ z => (by cases z))
    · by_cases hb : b = a
      · subst hb
        rw [e] at h; cases h
        exact .inl upd_same
      · exact .inr ⟨o, by rw [upd_ne hb]; exact h⟩
section
variable {K : PySem.W.Frag} {B B' : Hp}
theorem SqL.wk (w : Wk B B') {a : Addr} {xs : List V} (h : SqL K B a xs) : SqL K B' a xs := by
  rcases h with h | h
  · exact .inl (w.r _ _ h)
  · exact .inr h
mutual
theorem Rep.wk (w : Wk B B') : ∀ (d : D) (v : V), Rep K B d v → Rep K B' d v
  | .non, _, h => h
  | .bl _, _, h => h
  | .int _, _, h => h
  | .str _, _, h => h
  | .tup ds, v, h => by
    obtain ⟨a, xs, e, hb, r⟩ := h
    exact ⟨a, xs, e, w.t _ _ hb, Reps.wk w ds xs r⟩
  | .lst ds, v, h => by
    obtain ⟨a, xs, e, hb, r⟩ := h
    exact ⟨a, xs, e, w.l _ _ hb, Reps.wk w ds xs r⟩
  | .dic ks, v, h => by
    obtain ⟨a, ws, e, hb, r⟩ := h
    exact ⟨a, ws, e, w.d _ _ hb, RepK.wk w ks ws r⟩
  | .gtup ds, v, h => by
    obtain ⟨a, xs, o, e, hb, hd, r⟩ := h
    exact ⟨a, xs, o, e, w.g _ _ _ hb, hd, Reps.wk w ds xs r⟩
  | .ptr _, _, h => h
  | .any, _, h => h
  | .grf C d, v, h => by
    obtain ⟨a, dx, x, e, hb, r⟩ := h
    exact ⟨a, dx, x, e, w.i _ _ _ _ hb, Rep.wk w d x r⟩
  | .slst ns, v, h => by
    obtain ⟨a, e, r⟩ := h
    exact ⟨a, e, SqL.wk w r⟩
theorem Reps.wk (w : Wk B B') : ∀ (ds : List D) (xs : List V), Reps K B ds xs → Reps K B' ds xs
  | [], _, h => h
  | d :: ds, xs, h => by
    obtain ⟨x, r, e, h1, h2⟩ := h
    exact ⟨x, r, e, Rep.wk w d x h1, Reps.wk w ds r h2⟩
theorem RepK.wk (w : Wk B B') : ∀ (ks : List (List Int × D)) (ws : List (List Key × V)), RepK K B ks ws → RepK K B' ks ws
  | [], _, h => h
  | (k, d) :: ks, ws, h => by
    obtain ⟨x, r, e, h1, h2⟩ := h
    exact ⟨x, r, e, Rep.wk w d x h1, RepK.wk w ks r h2⟩
end
theorem Rep.inc (w : Inc B B') {d : D} {v : V} (h : Rep K B d v) : Rep K B' d v := Rep.wk w.wk d v h
theorem Reps.inc (w : Inc B B') {d : List D} {v : List V} (h : Reps K B d v) : Reps K B' d v := Reps.wk w.wk d v h
theorem RepK.inc (w : Inc B B') {d : List (List Int × D)} {v : List (List Key × V)} (h : RepK K B d v) : RepK K B' d v := RepK.wk w.wk d v h
theorem Reps.length : ∀ {ds : List D} {xs : List V}, Reps K B ds xs → xs.length = ds.length
  | [], _, h => by cases h; rfl
  | d :: ds, _, h => by
    obtain ⟨x, r, rfl, _, h2⟩ := h
    simp [Reps.length h2]
theorem Reps.get : ∀ {ds : List D} {xs : List V} {i : Nat} {d : D}, Reps K B ds xs → ds[i]? = some d → ∃ x, xs[i]? = some x ∧ Rep K B d x
  | [], _, _, _, _, e => by simp at e
  | d :: ds, _, 0, d', h, e => by
    obtain ⟨x, r, rfl, h1, h2⟩ := h
    simp at e; subst e
    exact ⟨x, rfl, h1⟩
  | d :: ds, _, i + 1, d', h, e => by
    obtain ⟨x, r, rfl, h1, h2⟩ := h
    obtain ⟨y, e1, e2⟩ := Reps.get (i := i) (d := d') h2 (by simpa using e)
    exact ⟨y, by simpa using e1, e2⟩
theorem Reps.append : ∀ {ds es : List D} {xs ys : List V}, Reps K B ds xs → Reps K B es ys → Reps K B (ds ++ es) (xs ++ ys)
  | [], _, _, _, h, g => by cases h; exact g
  | d :: ds, _, _, _, h, g => by
    obtain ⟨x, r, rfl, h1, h2⟩ := h
    exact ⟨x, _, rfl, h1, Reps.append h2 g⟩
theorem Reps.one {d : D} {x : V} (h : Rep K B d x) : Reps K B [d] [x] := ⟨x, [], rfl, h, rfl⟩
theorem Reps.take : ∀ {ds : List D} {xs : List V} (n : Nat), Reps K B ds xs → Reps K B (ds.take n) (xs.take n)
  | _, _, 0, _ => by simp only [List.take_zero]; rfl
  | [], _, n + 1, h => by cases h; rfl
  | d :: ds, _, n + 1, h => by
    obtain ⟨x, r, rfl, h1, h2⟩ := h
    exact ⟨x, _, rfl, h1, Reps.take n h2⟩
theorem Reps.drop : ∀ {ds : List D} {xs : List V} (n : Nat), Reps K B ds xs → Reps K B (ds.drop n) (xs.drop n)
  | _, _, 0, h => h
  | [], _, n + 1, h => by cases h; rfl
  | d :: ds, _, n + 1, h => by
    obtain ⟨x, r, rfl, h1, h2⟩ := h
    exact Reps.drop n h2
theorem Reps.dropLast {ds : List D} {xs : List V} (h : Reps K B ds xs) : Reps K B ds.dropLast xs.dropLast := by
  rw [List.dropLast_eq_take, List.dropLast_eq_take, h.length]
  exact h.take _
theorem Reps.set : ∀ {ds : List D} {xs : List V} (n : Nat) {d : D} {x : V}, Reps K B ds xs → Rep K B d x → Reps K B (ds.set n d) (xs.set n x)
  | [], _, _, _, _, h, _ => by cases h; rfl
  | d :: ds, _, 0, _, _, h, g => by
    obtain ⟨x, r, rfl, h1, h2⟩ := h
    exact ⟨_, _, rfl, g, h2⟩
  | d :: ds, _, n + 1, _, _, h, g => by
    obtain ⟨x, r, rfl, h1, h2⟩ := h
    exact ⟨_, _, rfl, h1, Reps.set n h2 g⟩
theorem Reps.eraseIdx : ∀ {ds : List D} {xs : List V} (n : Nat), Reps K B ds xs → Reps K B (ds.eraseIdx n) (xs.eraseIdx n)
  | [], _, _, h => by cases h; rfl
  | d :: ds, _, 0, h => by
    obtain ⟨x, r, rfl, h1, h2⟩ := h
    exact h2
  | d :: ds, _, n + 1, h => by
    obtain ⟨x, r, rfl, h1, h2⟩ := h
    exact ⟨_, _, rfl, h1, Reps.eraseIdx n h2⟩
/-- dicts at the data's level -/
def getK (ks : List (List Int × D)) (k : List Int) : Option D := (ks.find? fun p => decide (p.1 = k)).map (·.2)
def putD (ks : List (List Int × D)) (k : List Int) (d : D) : List (List Int × D) :=
  if (getK ks k).isSome then ks.map (fun p => if p.1 = k then (p.1, d) else p) else ks ++ [(k, d)]
theorem inl_inj {a b : List Int} (h : a.map (Sum.inl : Int → Key) = b.map Sum.inl) : a = b := by
  induction a generalizing b with
  | nil => cases b with
    | nil => rfl
    | cons _ _ => simp at h
  | cons x a ih => cases b with
    | nil => simp at h
    | cons y b =>
      simp only [List.map_cons, List.cons.injEq, Sum.inl.injEq] at h
      rw [h.1, ih h.2]
theorem RepK.length : ∀ {ks : List (List Int × D)} {ws : List (List Key × V)}, RepK K B ks ws → ws.length = ks.length
  | [], _, h => by cases h; rfl
  | (k, d) :: ks, _, h => by
    obtain ⟨x, r, rfl, _, h2⟩ := h
    simp [RepK.length h2]
theorem RepK.val : ∀ {ks : List (List Int × D)} {ws : List (List Key × V)} (k : List Int), RepK K B ks ws →
    (match getK ks k with | some d => ∃ v, valV ws (k.map Sum.inl) = some v ∧ Rep K B d v | none => valV ws (k.map Sum.inl) = none)
  | [], _, k, h => by cases h; rfl
  | (j, d) :: ks, _, k, h => by
    obtain ⟨x, r, rfl, h1, h2⟩ := h
    have ih := RepK.val k h2
    by_cases e : j = k
    · subst e
      have : getK ((j, d) :: ks) j = some d := by simp [getK]
      rw [this]
      exact ⟨x, by simp [valV], h1⟩
    · have e1 : getK ((j, d) :: ks) k = getK ks k := by simp [getK, e]
      have e2 : valV ((j.map Sum.inl, x) :: r) (k.map Sum.inl) = valV r (k.map Sum.inl) := valV_neg fun z => e (inl_inj z)
      rw [e1, e2]
      exact ih
theorem RepK.get : ∀ {ks : List (List Int × D)} {ws : List (List Key × V)} {i : Nat} {k : List Int} {d : D}, RepK K B ks ws → ks[i]? = some (k, d) → ∃ x, ws[i]? = some (k.map Sum.inl, x) ∧ Rep K B d x
  | [], _, _, _, _, _, e => by simp at e
  | (j, d) :: ks, _, 0, k, d', h, e => by
    obtain ⟨x, r, rfl, h1, h2⟩ := h
    simp at e; obtain ⟨rfl, rfl⟩ := e
    exact ⟨x, rfl, h1⟩
  | (j, d) :: ks, _, i + 1, k, d', h, e => by
    obtain ⟨x, r, rfl, h1, h2⟩ := h
    obtain ⟨y, e1, e2⟩ := RepK.get (i := i) (k := k) (d := d') h2 (by simpa using e)
    exact ⟨y, by simpa using e1, e2⟩
theorem RepK.append : ∀ {ks ls : List (List Int × D)} {ws us : List (List Key × V)}, RepK K B ks ws → RepK K B ls us → RepK K B (ks ++ ls) (ws ++ us)
  | [], _, _, _, h, g => by cases h; exact g
  | (k, d) :: ks, _, _, _, h, g => by
    obtain ⟨x, r, rfl, h1, h2⟩ := h
    exact ⟨x, _, rfl, h1, RepK.append h2 g⟩
theorem RepK.any (k : List Int) : ∀ {ks : List (List Int × D)} {ws : List (List Key × V)}, RepK K B ks ws → (ws.any fun kv => decide (kv.1 = k.map Sum.inl)) = (getK ks k).isSome
  | [], _, h => by cases h; rfl
  | (j, d) :: ks, _, h => by
    obtain ⟨x, r, rfl, h1, h2⟩ := h
    have ih := RepK.any k h2
    by_cases e : j = k
    · subst e
      simp [getK]
    · have z : ¬ (j.map Sum.inl : List Key) = k.map Sum.inl := fun z => e (inl_inj z)
      have e1 : getK ((j, d) :: ks) k = getK ks k := by simp [getK, e]
      rw [e1, List.any_cons, ih]
      simp [z]
theorem RepK.repl (k : List Int) {d' : D} {v : V} (g : Rep K B d' v) : ∀ {ks : List (List Int × D)} {ws : List (List Key × V)}, RepK K B ks ws →
    RepK K B (ks.map fun p => if p.1 = k then (p.1, d') else p) (ws.map fun kv => if kv.1 = k.map Sum.inl then (kv.1, v) else kv)
  | [], _, h => by cases h; rfl
  | (j, d) :: ks, _, h => by
    obtain ⟨x, r, rfl, h1, h2⟩ := h
    have ih := RepK.repl k g h2
    by_cases e : j = k
    · subst e
      simp only [List.map_cons, if_pos]
      exact ⟨v, _, rfl, g, ih⟩
    · have z : ¬ (j.map Sum.inl : List Key) = k.map Sum.inl := fun z => e (inl_inj z)
      simp only [List.map_cons, if_neg e, if_neg z]
      exact ⟨x, _, rfl, h1, ih⟩
theorem RepK.put {ks : List (List Int × D)} {ws : List (List Key × V)} (h : RepK K B ks ws) (k : List Int) {d : D} {v : V} (g : Rep K B d v) : RepK K B (putD ks k d) (putK ws (k.map Sum.inl) v) := by
  unfold putD putK
  rw [h.any k]
  split
  · exact h.repl k g
  · exact h.append ⟨v, [], rfl, g, rfl⟩
theorem Reps.kints {k : List Int} : ∀ {xs : List V}, Reps K B (k.map D.int) xs → xs = (k.map (Sum.inl : Int → Key)).map kV := by
  induction k with
  | nil => intro xs h; cases h; rfl
  | cons x k ih =>
    intro xs h
    obtain ⟨v, r, rfl, h1, h2⟩ := h
    rw [ih h2]
    show v :: _ = V.int x :: _
    rw [show v = V.int x from h1]
theorem Reps.ofKints {k : List Int} : Reps K B (k.map D.int) ((k.map (Sum.inl : Int → Key)).map kV) := by
  induction k with
  | nil => rfl
  | cons x k ih => exact ⟨.int x, _, rfl, rfl, ih⟩
theorem Reps.ints {ns : List Int} : ∀ {xs : List V}, Reps K B (ns.map D.int) xs → xs = ns.map V.int := by
  induction ns with
  | nil => intro xs h; cases h; rfl
  | cons x k ih =>
    intro xs h
    obtain ⟨v, r, rfl, h1, h2⟩ := h
    rw [ih h2, show v = V.int x from h1]
    rfl
theorem Reps.bls {bs : List Bool} : ∀ {xs : List V}, Reps K B (bs.map D.bl) xs → xs = bs.map V.bl := by
  induction bs with
  | nil => intro xs h; cases h; rfl
  | cons x k ih =>
    intro xs h
    obtain ⟨v, r, rfl, h1, h2⟩ := h
    rw [ih h2, show v = V.bl x from h1]
    rfl
theorem Reps.ofInts {ns : List Int} : Reps K B (ns.map D.int) (ns.map V.int) := by
  induction ns with
  | nil => rfl
  | cons x k ih => exact ⟨.int x, _, rfl, rfl, ih⟩
end
def Own (K : PySem.W.Frag) (B H : Hp) (a : Addr) : D → Prop
  | .lst ds => ∃ xs, H a = some (.lst xs) ∧ Reps K B ds xs
  | .dic ks => ∃ ws, H a = some (.dT ws) ∧ RepK K B ks ws
  | _ => False
structure Sat (K : PySem.W.Frag) (B H : Hp) (μ : Mu) : Prop where
  sub : Inc B H
  nd : (μ.map (·.1)).Nodup
  own : ∀ p ∈ μ, B p.1 = none ∧ Own K B H p.1 p.2
def Slots (K : PySem.W.Frag) (B : Hp) : Rho → L2.St → Prop
  | [], σ => σ = []
  | none :: ρ, σ => ∃ o r, σ = o :: r ∧ Slots K B ρ r
  | some d :: ρ, σ => ∃ v r, σ = some v :: r ∧ Rep K B d v ∧ Slots K B ρ r
section
variable {K : PySem.W.Frag} {B B' H H' : Hp} {μ : Mu}
theorem Own.inc (w : Inc B B') {a : Addr} {d : D} (h : Own K B H a d) (e : H' a = H a) : Own K B' H' a d := by
  cases d with
  | lst ds => obtain ⟨xs, h1, h2⟩ := h; exact ⟨xs, e.trans h1, h2.inc w⟩
  | dic ks => obtain ⟨ws, h1, h2⟩ := h; exact ⟨ws, e.trans h1, h2.inc w⟩
  | _ => exact h.elim
theorem Own.wk (w : Wk B B') {a : Addr} {d : D} (h : Own K B H a d) (e : H' a = H a) : Own K B' H' a d := by
  cases d with
  | lst ds => obtain ⟨xs, h1, h2⟩ := h; exact ⟨xs, e.trans h1, Reps.wk w _ _ h2⟩
  | dic ks => obtain ⟨ws, h1, h2⟩ := h; exact ⟨ws, e.trans h1, RepK.wk w _ _ h2⟩
  | _ => exact h.elim
theorem Own.some {a : Addr} {d : D} (h : Own K B H a d) : ∃ o, H a = Option.some o ∧ Mut (Option.some o) := by
  cases d with
  | lst ds => obtain ⟨xs, h1, _⟩ := h; exact ⟨_, h1, True.intro⟩
  | dic ks => obtain ⟨ws, h1, _⟩ := h; exact ⟨_, h1, True.intro⟩
  | _ => exact h.elim
theorem Slots.wk (w : Wk B B') : ∀ {ρ : Rho} {σ : L2.St}, Slots K B ρ σ → Slots K B' ρ σ
  | [], _, h => h
  | none :: ρ, _, h => by obtain ⟨o, r, e, h⟩ := h; exact ⟨o, r, e, Slots.wk w h⟩
  | some d :: ρ, _, h => by obtain ⟨o, r, e, g, h⟩ := h; exact ⟨o, r, e, Rep.wk w _ _ g, Slots.wk w h⟩
theorem Slots.inc (w : Inc B B') {ρ : Rho} {σ : L2.St} (h : Slots K B ρ σ) : Slots K B' ρ σ := h.wk w.wk
theorem Slots.length : ∀ {ρ : Rho} {σ : L2.St}, Slots K B ρ σ → σ.length = ρ.length
  | [], _, h => by cases h; rfl
  | none :: ρ, _, h => by obtain ⟨o, r, rfl, h⟩ := h; simp [Slots.length h]
  | some d :: ρ, _, h => by obtain ⟨o, r, rfl, g, h⟩ := h; simp [Slots.length h]
theorem Slots.get : ∀ {ρ : Rho} {σ : L2.St} {i : Nat} {d : D}, Slots K B ρ σ → ρ[i]? = some (some d) → ∃ v, σ[i]? = some (some v) ∧ Rep K B d v
  | [], _, _, _, _, e => by simp at e
  | none :: ρ, _, 0, _, _, e => by simp at e
  | none :: ρ, _, i + 1, d, h, e => by
    obtain ⟨o, r, rfl, h⟩ := h
    obtain ⟨v, e1, e2⟩ := Slots.get (i := i) (d := d) h (by simpa using e)
    exact ⟨v, by simpa using e1, e2⟩
  | some d' :: ρ, _, 0, d, h, e => by
    obtain ⟨v, r, rfl, g, h⟩ := h
    simp at e; subst e
    exact ⟨v, rfl, g⟩
  | some d' :: ρ, _, i + 1, d, h, e => by
    obtain ⟨o, r, rfl, g, h⟩ := h
    obtain ⟨v, e1, e2⟩ := Slots.get (i := i) (d := d) h (by simpa using e)
    exact ⟨v, by simpa using e1, e2⟩
theorem Slots.set {d : D} {v : V} (g : Rep K B d v) : ∀ {ρ : Rho} {σ : L2.St} (i : Nat), Slots K B ρ σ → Slots K B (ρ.set i (some d)) (σ.set i (some v))
  | [], _, _, h => by cases h; rfl
  | none :: ρ, _, 0, h => by obtain ⟨o, r, rfl, h⟩ := h; exact ⟨v, r, rfl, g, h⟩
  | none :: ρ, _, i + 1, h => by obtain ⟨o, r, rfl, h⟩ := h; exact ⟨o, _, rfl, Slots.set g i h⟩
  | some _ :: ρ, _, 0, h => by obtain ⟨o, r, rfl, _, h⟩ := h; exact ⟨v, r, rfl, g, h⟩
  | some _ :: ρ, _, i + 1, h => by obtain ⟨o, r, rfl, q, h⟩ := h; exact ⟨o, _, rfl, q, Slots.set g i h⟩
theorem Slots.unset : ∀ {ρ : Rho} {σ : L2.St} (i : Nat) (o : Option V), Slots K B ρ σ → Slots K B (ρ.set i none) (σ.set i o)
  | [], _, _, _, h => by cases h; rfl
  | none :: ρ, _, 0, o, h => by obtain ⟨o', r, rfl, h⟩ := h; exact ⟨o, r, rfl, h⟩
  | none :: ρ, _, i + 1, o, h => by obtain ⟨o', r, rfl, h⟩ := h; exact ⟨o', _, rfl, Slots.unset i o h⟩
  | some _ :: ρ, _, 0, o, h => by obtain ⟨o', r, rfl, _, h⟩ := h; exact ⟨o, r, rfl, h⟩
  | some _ :: ρ, _, i + 1, o, h => by obtain ⟨o', r, rfl, q, h⟩ := h; exact ⟨o', _, rfl, q, Slots.unset i o h⟩
/-- a known slot said anew -/
theorem Slots.reput {d d' : D} : ∀ {ρ : Rho} {σ : L2.St} {i : Nat}, Slots K B ρ σ → ρ[i]? = some (some d) → (∀ v, Rep K B d v → Rep K B d' v) → Slots K B (ρ.set i (some d')) σ
  | [], _, _, h, e, _ => by simp at e
  | none :: ρ, _, 0, h, e, _ => by simp at e
  | none :: ρ, _, i + 1, h, e, f => by obtain ⟨o, r, rfl, h⟩ := h; exact ⟨o, _, rfl, Slots.reput h (by simpa using e) f⟩
  | some _ :: ρ, _, 0, h, e, f => by
    obtain ⟨o, r, rfl, g, h⟩ := h
    simp at e; subst e
    exact ⟨o, r, rfl, f _ g, h⟩
  | some _ :: ρ, _, i + 1, h, e, f => by obtain ⟨o, r, rfl, q, h⟩ := h; exact ⟨o, _, rfl, q, Slots.reput h (by simpa using e) f⟩
/-- a slot forgotten -/
theorem Slots.forget : ∀ {ρ : Rho} {σ : L2.St} (i : Nat), Slots K B ρ σ → Slots K B (ρ.set i none) σ
  | [], _, _, h => by cases h; rfl
  | none :: ρ, _, 0, h => h
  | none :: ρ, _, i + 1, h => by obtain ⟨o', r, rfl, h⟩ := h; exact ⟨o', _, rfl, Slots.forget i h⟩
  | some _ :: ρ, _, 0, h => by obtain ⟨o', r, rfl, _, h⟩ := h; exact ⟨some o', r, rfl, h⟩
  | some _ :: ρ, _, i + 1, h => by obtain ⟨o', r, rfl, q, h⟩ := h; exact ⟨o', _, rfl, q, Slots.forget i h⟩
/-- the slots of a block's own names forgotten -/
def wipeR (ρ : Rho) : List Nat → Rho
  | [] => ρ
  | v :: vs => (wipeR ρ vs).set v none
theorem Slots.wipe {ρ : Rho} {σ : L2.St} (h : Slots K B ρ σ) : ∀ vs : List Nat, Slots K B (wipeR ρ vs) (wipe σ vs)
  | [] => h
  | v :: vs => (Slots.wipe h vs).unset v none
theorem Sat.nil (h : Inc B H) : Sat K B H [] := ⟨h, List.nodup_nil, fun p hp => by cases hp⟩
/-- a new thing that stays as it is -/
theorem Sat.newB (S : Sat K B H μ) {a : Addr} {o : HO} (n : H a = none) : Inc B (upd B a o) ∧ Sat K (upd B a o) (upd H a o) μ := by
  have nb : B a = none := by
    cases e : B a with
    | none => rfl
    | some u => rw [S.sub _ _ e] at n; cases n
  have i := Inc.new (o := o) nb
  refine ⟨i, fun b u e => ?_, S.nd, fun p hp => ?_⟩
  · by_cases hb : b = a
    · subst hb; rw [upd_same] at e ⊢; exact e
    · rw [upd_ne hb] at e ⊢; exact S.sub _ _ e
  · obtain ⟨h1, h2⟩ := S.own p hp
    obtain ⟨u, h3, _⟩ := h2.some
    have ne : p.1 ≠ a := ne_of_none h3 n
    exact ⟨by rw [upd_ne ne]; exact h1, h2.inc i (upd_ne ne)⟩
/-- a new thing that may be written -/
theorem Sat.newM (S : Sat K B H μ) {a : Addr} {o : HO} {c : D} (n : H a = none) (g : Own K B (upd H a o) a c) : Sat K B (upd H a o) ((a, c) :: μ) := by
  have nb : B a = none := by
    cases e : B a with
    | none => rfl
    | some u => rw [S.sub _ _ e] at n; cases n
  refine ⟨fun b u e => ?_, ?_, fun p hp => ?_⟩
  · rw [upd_ne (ne_of_none e nb)]; exact S.sub _ _ e
  · rw [List.map_cons, List.nodup_cons]
    refine ⟨fun hm => ?_, S.nd⟩
    obtain ⟨p, hp, e⟩ := List.mem_map.mp hm
    obtain ⟨_, h2⟩ := S.own p hp
    obtain ⟨u, h3, _⟩ := h2.some
    have e' : p.1 = a := e
    rw [e', n] at h3; cases h3
  · rcases List.mem_cons.mp hp with e | hp
    · subst e; exact ⟨nb, g⟩
    · obtain ⟨h1, h2⟩ := S.own p hp
      obtain ⟨u, h3, _⟩ := h2.some
      exact ⟨h1, h2.inc (Inc.refl B) (upd_ne (ne_of_none h3 n))⟩
/-- what may be written stays as it is from now on -/
theorem Sat.freeze {a : Addr} {c : D} {μ1 μ2 : Mu} (S : Sat K B H (μ1 ++ (a, c) :: μ2)) : ∃ B', Inc B B' ∧ Sat K B' H (μ1 ++ μ2) ∧ Rep K B' c (.ref a) := by
  obtain ⟨h1, h2⟩ := S.own (a, c) (by simp)
  have h1 : B a = none := h1
  obtain ⟨o, h3, _⟩ := h2.some
  have i := Inc.new (o := o) h1
  have nd := S.nd
  rw [List.map_append, List.map_cons, List.nodup_append] at nd
  obtain ⟨n1, n2, n3⟩ := nd
  rw [List.nodup_cons] at n2
  refine ⟨upd B a o, i, ⟨fun b u e => ?_, ?_, fun p hp => ?_⟩, ?_⟩
  · by_cases hb : b = a
    · subst hb; rw [upd_same] at e; cases e; exact h3
    · rw [upd_ne hb] at e; exact S.sub _ _ e
  · rw [List.map_append, List.nodup_append]
    exact ⟨n1, n2.2, fun x hx y hy => n3 x hx y (List.mem_cons_of_mem _ hy)⟩
  · obtain ⟨q1, q2⟩ := S.own p (by
      rcases List.mem_append.mp hp with h | h
      · exact List.mem_append_left _ h
      · exact List.mem_append_right _ (List.mem_cons_of_mem _ h))
    have ne : p.1 ≠ a := by
      rcases List.mem_append.mp hp with h | h
      · exact n3 _ (List.mem_map_of_mem h) _ List.mem_cons_self
      · intro e
        exact n2.1 (e ▸ List.mem_map_of_mem (f := (·.1)) h)
    exact ⟨by rw [upd_ne ne]; exact q1, q2.inc i rfl⟩
  · cases c with
    | lst ds =>
      obtain ⟨xs, h4, h5⟩ := h2
      rw [h3] at h4; cases h4
      exact ⟨a, xs, rfl, upd_same, h5.inc i⟩
    | dic ks =>
      obtain ⟨ws, h4, h5⟩ := h2
      rw [h3] at h4; cases h4
      exact ⟨a, ws, rfl, .inl upd_same, h5.inc i⟩
    | _ => exact h2.elim
/-- what stands at the n-th place is written -/
theorem Sat.write (S : Sat K B H μ) {n : Nat} {a : Addr} {c c' : D} {o : HO} (e : μ[n]? = some (a, c)) (g : Own K B (upd H a o) a c') : Sat K B (upd H a o) (μ.set n (a, c')) := by
  obtain ⟨h1, h2⟩ := S.own (a, c) (List.mem_of_getElem? e)
  have h1 : B a = none := h1
  obtain ⟨hn, en⟩ := List.getElem?_eq_some_iff.mp e
  have em : (μ.set n (a, c')).map (·.1) = μ.map (·.1) := by
    rw [List.map_set]
    apply List.ext_getElem?
    intro i
    by_cases hi : n = i
    · subst hi
      rw [List.getElem?_set_self (by simpa using hn), List.getElem?_map, e]; rfl
    · rw [List.getElem?_set_ne hi]
  refine ⟨fun b u q => ?_, by rw [em]; exact S.nd, fun p hp => ?_⟩
  · rw [upd_ne (ne_of_none q h1)]; exact S.sub _ _ q
  · obtain ⟨i, hi⟩ := List.getElem?_of_mem hp
    by_cases hni : n = i
    · subst hni
      rw [List.getElem?_set_self hn] at hi
      cases hi
      exact ⟨h1, g⟩
    · rw [List.getElem?_set_ne hni] at hi
      obtain ⟨q1, q2⟩ := S.own p (List.mem_of_getElem? hi)
      have ne : p.1 ≠ a := by
        intro z
        apply hni
        have x1 : (μ.map (·.1))[n]? = some a := by rw [List.getElem?_map, e]; rfl
        have x2 : (μ.map (·.1))[i]? = some a := by rw [List.getElem?_map, hi, ← z]; rfl
        exact nodup_ixA S.nd x1 x2
      exact ⟨q1, q2.inc (Inc.refl B) (upd_ne ne)⟩
where
  nodup_ixA {l : List Addr} (hN : l.Nodup) {i j : Nat} {x : Addr} (a : l[i]? = some x) (b : l[j]? = some x) : i = j := by
    obtain ⟨h1, e1⟩ := List.getElem?_eq_some_iff.mp a
    obtain ⟨h2, e2⟩ := List.getElem?_eq_some_iff.mp b
    exact (List.getElem_inj hN).mp (e1.trans e2.symm)
theorem Sat.sublist {μ' : Mu} (S : Sat K B H μ) (h : μ'.Sublist μ) : Sat K B H μ' :=
  ⟨S.sub, S.nd.sublist (h.map _), fun p hp => S.own p (h.subset hp)⟩
end
end Od
namespace Od
open PySem PySem.Spec PyProof.Rows L2
section
variable (X : Cx)
@[irreducible] def wE (e : Expr) : TE := fun σ H Q => ∀ (pins : List (Addr × Obj)) (s : Shared), Inv X pins σ H s → wpAny (model X.prog X.w) X.A (eval e X.env) (EP X pins σ Q) X.xe s
@[irreducible] def wT (e : Expr) : TT := fun σ H Q => ∀ (pins : List (Addr × Obj)) (s : Shared), Inv X pins σ H s → wpAny (model X.prog X.w) X.A (isTrue e X.env (eval e X.env)) (TP X pins σ Q) X.xe s
@[irreducible] def wW (e : Expr) : TT := fun σ H Q => ∀ (whole : Sem Value) (pins : List (Addr × Obj)) (s : Shared), Inv X pins σ H s → wpAny (model X.prog X.w) X.A (isTrue e X.env whole) (TP X pins σ Q) X.xe s
@[irreducible] def wA (es : List Expr) : TA := fun σ H Q => ∀ (pos : Pos) (pins : List (Addr × Obj)) (s : Shared), Inv X pins σ H s → wpAny (model X.prog X.w) X.A (spliced (backTo pos (starEach es X.env))) (AP X pins σ Q) X.xe s
@[irreducible] def wS (st : Stmt) : TS := fun D σ H => ∀ (pins : List (Addr × Obj)) (s : Shared), Inv X pins σ H s → wpAny (model X.prog X.w) X.A (exec st X.env) (SP X pins D) X.xe s
@[irreducible] def wSs (st : List Stmt) : TS := fun D σ H => ∀ (pins : List (Addr × Obj)) (s : Shared), Inv X pins σ H s → wpAny (model X.prog X.w) X.A (execs st X.env) (SP X pins D) X.xe s
@[irreducible] def wG (target : Expr) : TG := fun v σ H Q => ∀ (pins : List (Addr × Obj)) (s : Shared) (u : Value), Inv X pins σ H s → RelV v u → wpAny (model X.prog X.w) X.A (assign target X.env u) (fun _ s' => ∃ σ' H', Inv X pins σ' H' s' ∧ Q σ' H') X.xe s
@[irreducible] def wI (tg iter : Expr) : TI := fun σ H R => ∀ (pins : List (Addr × Obj)) (s : Shared), Inv X pins σ H s → wpAny (model X.prog X.w) X.A (eval iter X.env) (fun v s1 => wpAny (model X.prog X.w) X.A (pyIter v) (PIE X pins σ tg R) X.xe s1) X.xe s
end
section
variable {X : Cx} {e tg iter : Expr} {es : List Expr} {st : Stmt} {sts : List Stmt} {σ : L2.St} {H : Hp}
theorem pe_w : PE X e (wE X e) := ⟨fun pins s _ _ _ I h => by unfold wE at h; exact h pins s I⟩
theorem pt_w : PT X e (wT X e) := ⟨fun pins s _ _ _ I h => by unfold wT at h; exact h pins s I⟩
theorem pw_w : PW X e (wW X e) := ⟨fun wh pins s _ _ _ I h => by unfold wW at h; exact h wh pins s I⟩
theorem pa_w : PA X es (wA X es) := ⟨fun pos pins s _ _ _ I h => by unfold wA at h; exact h pos pins s I⟩
theorem ps_w : PS X st (wS X st) := ⟨fun pins s _ _ _ I h => by unfold wS at h; exact h pins s I⟩
theorem pss_w : PSs X sts (wSs X sts) := ⟨fun pins s _ _ _ I h => by unfold wSs at h; exact h pins s I⟩
theorem pg_w : PG X tg (wG X tg) := ⟨fun pins s _ _ _ u _ I r h => by unfold wG at h; exact h pins s u I r⟩
theorem pi_w : PI X tg iter (wI X tg iter) := ⟨fun pins s _ _ _ I h => by unfold wI at h; exact h pins s I⟩
theorem peW {t : TE} {Q : VK} (h : PE X e t) (q : t σ H Q) : wE X e σ H Q := by unfold wE; exact fun pins s I => h.run pins s σ H Q I q
theorem ptW {t : TT} {Q : Bool → Hp → Prop} (h : PT X e t) (q : t σ H Q) : wT X e σ H Q := by unfold wT; exact fun pins s I => h.run pins s σ H Q I q
theorem pwW {t : TT} {Q : Bool → Hp → Prop} (h : PW X e t) (q : t σ H Q) : wW X e σ H Q := by unfold wW; exact fun wh pins s I => h.run wh pins s σ H Q I q
theorem paW {t : TA} {Q : List V → Hp → Prop} (h : PA X es t) (q : t σ H Q) : wA X es σ H Q := by unfold wA; exact fun pos pins s I => h.run pos pins s σ H Q I q
theorem psW {t : TS} {D : Ends} (h : PS X st t) (q : t D σ H) : wS X st D σ H := by unfold wS; exact fun pins s I => h.run pins s σ H D I q
theorem pssW {t : TS} {D : Ends} (h : PSs X sts t) (q : t D σ H) : wSs X sts D σ H := by unfold wSs; exact fun pins s I => h.run pins s σ H D I q
theorem pgW {t : TG} {v : V} {Q : L2.St → Hp → Prop} (h : PG X tg t) (q : t v σ H Q) : wG X tg v σ H Q := by unfold wG; exact fun pins s u I r => h.run pins s σ H v u Q I r q
theorem piW {t : TI} {R : It → Hp → Prop} (h : PI X tg iter t) (q : t σ H R) : wI X tg iter σ H R := by unfold wI; exact fun pins s I => h.run pins s σ H R I q
end
def Kd (K : PySem.W.Frag) (B : Hp) (μ : Mu) (d : D) (Q : VK) : Prop := ∀ B' H' v, Inc B B' → Sat K B' H' μ → Rep K B' d v → Q v H'
def Kn (K : PySem.W.Frag) (B : Hp) (μ : Mu) (c : D) (Q : VK) : Prop := ∀ B' H' a, Inc B B' → Sat K B' H' ((a, c) :: μ) → Q (.ref a) H'
def Kt (K : PySem.W.Frag) (B : Hp) (μ : Mu) (b : Bool) (Q : Bool → Hp → Prop) : Prop := ∀ B' H', Inc B B' → Sat K B' H' μ → Q b H'
def Ka (K : PySem.W.Frag) (B : Hp) (μ : Mu) (ds : List D) (Q : List V → Hp → Prop) : Prop := ∀ B' H' vs, Inc B B' → Sat K B' H' μ → Reps K B' ds vs → Q vs H'
theorem Kd.kn {K : PySem.W.Frag} {B : Hp} {μ : Mu} {c : D} {Q : VK} (k : Kd K B μ c Q) : Kn K B μ c Q := fun B' H' a i S => by
  obtain ⟨B2, i2, S2, r⟩ := Sat.freeze (μ1 := []) S
  exact k B2 H' _ (i.trans i2) S2 r
theorem Kd.inc {K : PySem.W.Frag} {B B' : Hp} {μ : Mu} {c : D} {Q : VK} (k : Kd K B μ c Q) (i : Inc B B') : Kd K B' μ c Q := fun B2 H v j => k B2 H v (i.trans j)
theorem Kn.inc {K : PySem.W.Frag} {B B' : Hp} {μ : Mu} {c : D} {Q : VK} (k : Kn K B μ c Q) (i : Inc B B') : Kn K B' μ c Q := fun B2 H v j => k B2 H v (i.trans j)
theorem Kt.inc {K : PySem.W.Frag} {B B' : Hp} {μ : Mu} {c : Bool} {Q : Bool → Hp → Prop} (k : Kt K B μ c Q) (i : Inc B B') : Kt K B' μ c Q := fun B2 H j => k B2 H (i.trans j)
theorem Ka.inc {K : PySem.W.Frag} {B B' : Hp} {μ : Mu} {c : List D} {Q : List V → Hp → Prop} (k : Ka K B μ c Q) (i : Inc B B') : Ka K B' μ c Q := fun B2 H v j => k B2 H v (i.trans j)
section
variable (X : Cx)
def DE (e : Expr) (ρ : Rho) (μ : Mu) (d : D) (μ' : Mu) : Prop := ∀ (B H : Hp) (σ : L2.St) (Q : VK), Sat X.K B H μ → Slots X.K B ρ σ → Kd X.K B μ' d Q → wE X e σ H Q
def DN (e : Expr) (ρ : Rho) (μ : Mu) (c : D) (μ' : Mu) : Prop := ∀ (B H : Hp) (σ : L2.St) (Q : VK), Sat X.K B H μ → Slots X.K B ρ σ → Kn X.K B μ' c Q → wE X e σ H Q
def DT (e : Expr) (ρ : Rho) (μ : Mu) (b : Bool) (μ' : Mu) : Prop := ∀ (B H : Hp) (σ : L2.St) (Q : Bool → Hp → Prop), Sat X.K B H μ → Slots X.K B ρ σ → Kt X.K B μ' b Q → wT X e σ H Q
def DW (e : Expr) (ρ : Rho) (μ : Mu) (b : Bool) (μ' : Mu) : Prop := ∀ (B H : Hp) (σ : L2.St) (Q : Bool → Hp → Prop), Sat X.K B H μ → Slots X.K B ρ σ → Kt X.K B μ' b Q → wW X e σ H Q
def DA (es : List Expr) (ρ : Rho) (μ : Mu) (ds : List D) (μ' : Mu) : Prop := ∀ (B H : Hp) (σ : L2.St) (Q : List V → Hp → Prop), Sat X.K B H μ → Slots X.K B ρ σ → Ka X.K B μ' ds Q → wA X es σ H Q
/-- a value that is there: the heap stays as it is -/
def DV (e : Expr) (ρ : Rho) (d : D) : Prop := ∀ (B : Hp) (σ : L2.St), Slots X.K B ρ σ → ∃ v, Rep X.K B d v ∧ ∀ (B' H' : Hp) (Q : VK), Wk B B' → Inc B' H' → Q v H' → wE X e σ H' Q
end
section
variable {X : Cx} {e a b : Expr} {es : List Expr} {ρ : Rho} {μ μ1 μ2 μ3 : Mu} {d d1 d2 c : D} {pos : Pos}
theorem DN.de (h : DN X e ρ μ c μ1) : DE X e ρ μ c μ1 := fun B H σ Q S L k => h B H σ Q S L k.kn
theorem DV.de (h : DV X e ρ d) : DE X e ρ μ d μ := fun B H σ Q S L k => by
  obtain ⟨v, r, f⟩ := h B σ L
  exact f B H Q (Inc.refl B).wk S.sub (k B H v (Inc.refl B) S r)
theorem DE.any (h : DE X e ρ μ d μ1) : DE X e ρ μ .any μ1 := fun B H σ Q S L k => h B H σ Q S L fun B' H' v i S' _ => k B' H' v i S' True.intro
theorem DV_var (i : Nat) {x : Str} {pos : Pos} (hr : ρ[i]? = some (some d) := by rfl) (hN : X.N[i]? = some x := by rfl) (hv : Vis X.env.scope x := by first | exact Or.inl rfl | exact Or.inr (Or.inl rfl) | exact Or.inr (Or.inr rfl))
    (hd : (x == ("__debug__" : Str)) = false := by decide) (hcd : (x == ("__classdict__" : Str)) = false := by decide) : DV X (.Name x pos) ρ d := fun B σ L => by
  obtain ⟨v, e1, r⟩ := L.get hr
  exact ⟨v, r, fun B' H' Q _ _ q => peW (pe_var hN hv hd hcd) ⟨v, e1, q⟩⟩
theorem DE_var (i : Nat) {x : Str} {pos : Pos} (hr : ρ[i]? = some (some d) := by rfl) (hN : X.N[i]? = some x := by rfl) (hv : Vis X.env.scope x := by first | exact Or.inl rfl | exact Or.inr (Or.inl rfl) | exact Or.inr (Or.inr rfl))
    (hd : (x == ("__debug__" : Str)) = false := by decide) (hcd : (x == ("__classdict__" : Str)) = false := by decide) : DE X (.Name x pos) ρ μ d μ := (DV_var i hr hN hv hd hcd).de
theorem DV_int {i : Int} {j pos} : DV X (.Constant (.int i) j pos) ρ (.int i) := fun B σ L => ⟨.int i, rfl, fun B' H' Q _ _ q => peW pe_int q⟩
theorem DE_int {i : Int} {j pos} : DE X (.Constant (.int i) j pos) ρ μ (.int i) μ := DV_int.de
theorem DE_bl {i : Bool} {j pos} : DE X (.Constant (.bool i) j pos) ρ μ (.bl i) μ := fun B H σ Q S L k => peW pe_bl (k B H _ (Inc.refl B) S rfl)
theorem DE_non {j pos} : DE X (.Constant .none j pos) ρ μ .non μ := fun B H σ Q S L k => peW pe_non (k B H _ (Inc.refl B) S rfl)
theorem DE_str {z : Str} {j pos} : DE X (.Constant (.str z) j pos) ρ μ (.str z) μ := fun B H σ Q S L k => peW pe_str (k B H _ (Inc.refl B) S rfl)
/-- a module's int constant -/
theorem DE_gint {x : Str} {i : Int} {pos : Pos} (hm : ∃ t, X.mg x = some (.int i t)) (hg : Gl X x := by rfl) (hd : (x == ("__debug__" : Str)) = false := by decide) : DE X (.Name x pos) ρ μ (.int i) μ := fun B H σ Q S L k => by
  obtain ⟨t, hm⟩ := hm
  exact peW (pe_glob (v := .int i) hg hm ⟨t, rfl⟩ hd) (k B H _ (Inc.refl B) S rfl)
/-- a module's thing that is only handed on -/
theorem DE_gany {x : Str} {f : Addr} {pos : Pos} (hm : X.mg x = some (.ref f)) (hg : Gl X x := by rfl) (hd : (x == ("__debug__" : Str)) = false := by decide) : DE X (.Name x pos) ρ μ .any μ := fun B H σ Q S L k =>
  peW (pe_glob (v := .ref f) hg hm rfl hd) (k B H _ (Inc.refl B) S True.intro)
def VOp (K : PySem.W.Frag) (r : R2) (d1 d2 : D) (μ : Mu) (d : D) (μ' : Mu) : Prop := ∀ (B H : Hp) (x y : V) (Q : VK), Sat K B H μ → Rep K B d1 x → Rep K B d2 y → Kd K B μ' d Q → r x y H Q
def VOpN (K : PySem.W.Frag) (r : R2) (d1 d2 : D) (μ : Mu) (d : D) (μ' : Mu) : Prop := ∀ (B H : Hp) (x y : V) (Q : VK), Sat K B H μ → Rep K B d1 x → Rep K B d2 y → Kn K B μ' d Q → r x y H Q
theorem tOp_of {ta tb : TE} {r : R2} {B H : Hp} {σ : L2.St} {Q : VK} (S : Sat X.K B H μ) (L : Slots X.K B ρ σ) (ha : DE X a ρ μ d1 μ1) (hb : DE X b ρ μ1 d2 μ2)
    (q : ∀ B2 H2 x y, Inc B B2 → Sat X.K B2 H2 μ2 → Rep X.K B2 d1 x → Rep X.K B2 d2 y → r x y H2 Q) : tOp r (wE X a) (wE X b) σ H Q :=
  ha B H σ _ S L fun B1 H1 x i1 S1 r1 => hb B1 H1 σ _ S1 (L.inc i1) fun B2 H2 y i2 S2 r2 => q B2 H2 x y (i1.trans i2) S2 (r1.inc i2) r2
theorem DE_op {op : Operator} {r : R2} (ho : OpR X (binaryOp op) r) (v : VOp X.K r d1 d2 μ2 d μ3) (ha : DE X a ρ μ d1 μ1) (hb : DE X b ρ μ1 d2 μ2) : DE X (.BinOp a op b pos) ρ μ d μ3 := fun B H σ Q S L k =>
  peW (pe_op ho pe_w pe_w) (tOp_of (ta := wE X a) (tb := wE X b) S L ha hb fun B2 H2 x y i S2 r1 r2 => v B2 H2 x y Q S2 r1 r2 (k.inc i))
theorem DN_op {op : Operator} {r : R2} (ho : OpR X (binaryOp op) r) (v : VOpN X.K r d1 d2 μ2 d μ3) (ha : DE X a ρ μ d1 μ1) (hb : DE X b ρ μ1 d2 μ2) : DN X (.BinOp a op b pos) ρ μ d μ3 := fun B H σ Q S L k =>
  peW (pe_op ho pe_w pe_w) (tOp_of (ta := wE X a) (tb := wE X b) S L ha hb fun B2 H2 x y i S2 r1 r2 => v B2 H2 x y Q S2 r1 r2 (k.inc i))
theorem DE_cmp {op : CmpOp} {r : R2} (ho : OpR X (compareOp op) r) (v : VOp X.K r d1 d2 μ2 d μ3) (ha : DE X a ρ μ d1 μ1) (hb : DE X b ρ μ1 d2 μ2) (hm : behindInMarks op b = false := by first | exact nomark _ | rfl) : DE X (.Compare a [op] [b] pos) ρ μ d μ3 := fun B H σ Q S L k =>
  peW (pe_cmpR ho pe_w pe_w hm) (tOp_of (ta := wE X a) (tb := wE X b) S L ha hb fun B2 H2 x y i S2 r1 r2 => v B2 H2 x y Q S2 r1 r2 (k.inc i))
theorem DT_cmp {op : CmpOp} {r : R2} {t : Bool} (ho : OpR X (compareOp op) r) (v : VOp X.K r d1 d2 μ2 (.bl t) μ3) (ha : DE X a ρ μ d1 μ1) (hb : DE X b ρ μ1 d2 μ2) (hm : behindInMarks op b = false := by first | exact nomark _ | rfl) : DT X (.Compare a [op] [b] pos) ρ μ t μ3 := fun B H σ Q S L k =>
  ptW (pt_cmpR ho pe_w pe_w hm) (tOp_of (ta := wE X a) (tb := wE X b) (Q := fun x H' => ∃ k, x = .bl k ∧ Q k H') S L ha hb fun B2 H2 x y i S2 r1 r2 => v B2 H2 x y _ S2 r1 r2 fun B3 H3 z i3 S3 r3 => ⟨t, r3, k B3 H3 (i.trans i3) S3⟩)
theorem vI0 {K : PySem.W.Frag} {g : Int → Int → V} {d : D} {i j : Int} (h : ∀ B, Rep K B d (g i j)) : VOp K (rI0 g) (.int i) (.int j) μ d μ := fun B H x y Q S r1 r2 k =>
  ⟨i, j, r1, r2, k B H _ (Inc.refl B) S (h B)⟩
theorem vI {K : PySem.W.Frag} {C : Int → Int → Prop} {g : Int → Int → V} {d : D} {i j : Int} (hc : C i j) (h : ∀ B, Rep K B d (g i j)) : VOp K (rI C g) (.int i) (.int j) μ d μ := fun B H x y Q S r1 r2 k =>
  ⟨i, j, r1, r2, hc, k B H _ (Inc.refl B) S (h B)⟩
section
variable {i j : Int}
theorem DE_add (ha : DE X a ρ μ (.int i) μ1) (hb : DE X b ρ μ1 (.int j) μ2) : DE X (.BinOp a .Add b pos) ρ μ (.int (i + j)) μ2 := DE_op op_add (vI0 fun _ => rfl) ha hb
theorem DE_sub (ha : DE X a ρ μ (.int i) μ1) (hb : DE X b ρ μ1 (.int j) μ2) : DE X (.BinOp a .Sub b pos) ρ μ (.int (i - j)) μ2 := DE_op op_sub (vI0 fun _ => rfl) ha hb
theorem DE_mul (ha : DE X a ρ μ (.int i) μ1) (hb : DE X b ρ μ1 (.int j) μ2) (h : CMul i j) : DE X (.BinOp a .Mult b pos) ρ μ (.int (i * j)) μ2 := DE_op op_mul (vI h fun _ => rfl) ha hb
theorem DE_fdiv (ha : DE X a ρ μ (.int i) μ1) (hb : DE X b ρ μ1 (.int j) μ2) (h : CDiv i j) : DE X (.BinOp a .FloorDiv b pos) ρ μ (.int (i / j)) μ2 := DE_op op_fdiv (vI h fun _ => rfl) ha hb
theorem DE_mod (ha : DE X a ρ μ (.int i) μ1) (hb : DE X b ρ μ1 (.int j) μ2) (h : 0 < j) : DE X (.BinOp a .Mod b pos) ρ μ (.int (i % j)) μ2 := DE_op op_mod (vI h fun _ => rfl) ha hb
theorem DE_pow (ha : DE X a ρ μ (.int i) μ1) (hb : DE X b ρ μ1 (.int j) μ2) (h : CPow i j) : DE X (.BinOp a .Pow b pos) ρ μ (.int (i ^ j.toNat)) μ2 := DE_op op_pow (vI h fun _ => rfl) ha hb
theorem DE_ltI (ha : DE X a ρ μ (.int i) μ1) (hb : DE X b ρ μ1 (.int j) μ2) : DE X (.Compare a [.Lt] [b] pos) ρ μ (.bl (decide (i < j))) μ2 := DE_cmp op_lt (vI0 fun _ => rfl) ha hb
theorem DT_ltI (ha : DE X a ρ μ (.int i) μ1) (hb : DE X b ρ μ1 (.int j) μ2) : DT X (.Compare a [.Lt] [b] pos) ρ μ (decide (i < j)) μ2 := DT_cmp op_lt (vI0 fun _ => rfl) ha hb
theorem DE_leI (ha : DE X a ρ μ (.int i) μ1) (hb : DE X b ρ μ1 (.int j) μ2) : DE X (.Compare a [.LtE] [b] pos) ρ μ (.bl (decide (i ≤ j))) μ2 := DE_cmp op_le (vI0 fun _ => rfl) ha hb
theorem DT_leI (ha : DE X a ρ μ (.int i) μ1) (hb : DE X b ρ μ1 (.int j) μ2) : DT X (.Compare a [.LtE] [b] pos) ρ μ (decide (i ≤ j)) μ2 := DT_cmp op_le (vI0 fun _ => rfl) ha hb
theorem DE_gtI (ha : DE X a ρ μ (.int i) μ1) (hb : DE X b ρ μ1 (.int j) μ2) : DE X (.Compare a [.Gt] [b] pos) ρ μ (.bl (decide (j < i))) μ2 := DE_cmp op_gt (vI0 fun _ => rfl) ha hb
theorem DT_gtI (ha : DE X a ρ μ (.int i) μ1) (hb : DE X b ρ μ1 (.int j) μ2) : DT X (.Compare a [.Gt] [b] pos) ρ μ (decide (j < i)) μ2 := DT_cmp op_gt (vI0 fun _ => rfl) ha hb
theorem DE_geI (ha : DE X a ρ μ (.int i) μ1) (hb : DE X b ρ μ1 (.int j) μ2) : DE X (.Compare a [.GtE] [b] pos) ρ μ (.bl (decide (j ≤ i))) μ2 := DE_cmp op_ge (vI0 fun _ => rfl) ha hb
theorem DT_geI (ha : DE X a ρ μ (.int i) μ1) (hb : DE X b ρ μ1 (.int j) μ2) : DT X (.Compare a [.GtE] [b] pos) ρ μ (decide (j ≤ i)) μ2 := DT_cmp op_ge (vI0 fun _ => rfl) ha hb
theorem vEqI {K : PySem.W.Frag} : VOp K rEq (.int i) (.int j) μ (.bl (decide (i = j))) μ := fun B H x y Q S r1 r2 k => by
  cases (show x = .int i from r1); cases (show y = .int j from r2)
  exact ⟨rfl, k B H _ (Inc.refl B) S (by show V.bl _ = V.bl _; simp)⟩
theorem vNeI {K : PySem.W.Frag} : VOp K rNe (.int i) (.int j) μ (.bl (!decide (i = j))) μ := fun B H x y Q S r1 r2 k => by
  cases (show x = .int i from r1); cases (show y = .int j from r2)
  exact ⟨rfl, k B H _ (Inc.refl B) S (by show V.bl _ = V.bl _; simp)⟩
theorem vEqS {K : PySem.W.Frag} {i j : Str} : VOp K rEq (.str i) (.str j) μ (.bl (decide (i = j))) μ := fun B H x y Q S r1 r2 k => by
  cases (show x = .str i from r1); cases (show y = .str j from r2)
  exact ⟨rfl, k B H _ (Inc.refl B) S (by show V.bl _ = V.bl _; simp)⟩
theorem DE_eqI (ha : DE X a ρ μ (.int i) μ1) (hb : DE X b ρ μ1 (.int j) μ2) : DE X (.Compare a [.Eq] [b] pos) ρ μ (.bl (decide (i = j))) μ2 := DE_cmp op_eq vEqI ha hb
theorem DT_eqI (ha : DE X a ρ μ (.int i) μ1) (hb : DE X b ρ μ1 (.int j) μ2) : DT X (.Compare a [.Eq] [b] pos) ρ μ (decide (i = j)) μ2 := DT_cmp op_eq vEqI ha hb
theorem DE_neI (ha : DE X a ρ μ (.int i) μ1) (hb : DE X b ρ μ1 (.int j) μ2) : DE X (.Compare a [.NotEq] [b] pos) ρ μ (.bl (!decide (i = j))) μ2 := DE_cmp op_ne vNeI ha hb
theorem DT_neI (ha : DE X a ρ μ (.int i) μ1) (hb : DE X b ρ μ1 (.int j) μ2) : DT X (.Compare a [.NotEq] [b] pos) ρ μ (!decide (i = j)) μ2 := DT_cmp op_ne vNeI ha hb
theorem DE_eqS {i j : Str} (ha : DE X a ρ μ (.str i) μ1) (hb : DE X b ρ μ1 (.str j) μ2) : DE X (.Compare a [.Eq] [b] pos) ρ μ (.bl (decide (i = j))) μ2 := DE_cmp op_eq vEqS ha hb
theorem DT_eqS {i j : Str} (ha : DE X a ρ μ (.str i) μ1) (hb : DE X b ρ μ1 (.str j) μ2) : DT X (.Compare a [.Eq] [b] pos) ρ μ (decide (i = j)) μ2 := DT_cmp op_eq vEqS ha hb
end
/-- a < b < c over ints -/
theorem DE_chain {op op' : CmpOp} {p p' : Int → Int → Bool} {i j l : Int} {c : Expr} (ho : OpR X (compareOp op) (rI0 fun i j => .bl (p i j))) (ho' : OpR X (compareOp op') (rI0 fun i j => .bl (p' i j)))
    (ha : DE X a ρ μ (.int i) μ) (hb : DE X b ρ μ (.int j) μ) (hc : DE X c ρ μ (.int l) μ) (hm : lastMarks [op, op'] [b, c] = false := by rfl) : DE X (.Compare a [op, op'] [b, c] pos) ρ μ (.bl (p i j && p' j l)) μ := fun B H σ Q S L k => by
  refine peW (pe_chain ho ho' pe_w pe_w pe_w hm) ?_
  refine ha B H σ _ S L fun B1 H1 x i1 S1 r1 => hb B1 H1 σ _ S1 (L.inc i1) fun B2 H2 y i2 S2 r2 => ?_
  refine ⟨i, j, r1, r2, p i j, rfl, ?_⟩
  cases e : p i j with
  | false => exact k B2 H2 _ (i1.trans i2) S2 (by rw [e]; rfl)
  | true =>
    refine hc B2 H2 σ _ S2 (L.inc (i1.trans i2)) fun B3 H3 z i3 S3 r3 => ⟨j, l, r2, r3, k B3 H3 _ ((i1.trans i2).trans i3) S3 ?_⟩
    rw [e]; rfl
theorem DT_chain {op op' : CmpOp} {p p' : Int → Int → Bool} {i j l : Int} {c : Expr} (ho : OpR X (compareOp op) (rI0 fun i j => .bl (p i j))) (ho' : OpR X (compareOp op') (rI0 fun i j => .bl (p' i j)))
    (ha : DE X a ρ μ (.int i) μ) (hb : DE X b ρ μ (.int j) μ) (hc : DE X c ρ μ (.int l) μ) (hm : lastMarks [op, op'] [b, c] = false := by rfl) : DT X (.Compare a [op, op'] [b, c] pos) ρ μ (p i j && p' j l) μ := fun B H σ Q S L k => by
  refine ptW (pt_chain ho ho' pe_w pe_w pe_w hm) ?_
  refine ha B H σ _ S L fun B1 H1 x i1 S1 r1 => hb B1 H1 σ _ S1 (L.inc i1) fun B2 H2 y i2 S2 r2 => ?_
  refine ⟨i, j, r1, r2, p i j, rfl, ?_⟩
  cases e : p i j with
  | false => exact ⟨false, rfl, by rw [e] at k; exact k B2 H2 (i1.trans i2) S2⟩
  | true =>
    rw [e] at k
    exact hc B2 H2 σ _ S2 (L.inc (i1.trans i2)) fun B3 H3 z i3 S3 r3 => ⟨j, l, r2, r3, p' j l, rfl, k B3 H3 ((i1.trans i2).trans i3) S3⟩
def isNon : D → Bool
  | .non => true
  | _ => false
def notAny : D → Bool
  | .any => false
  | _ => true
theorem isNon_rep {K : PySem.W.Frag} {B : Hp} {d : D} {v : V} (hd : notAny d = true) (r : Rep K B d v) : decide (v = .non) = isNon d := by
  cases d with
  | non => cases (show v = .non from r); rfl
  | bl _ => cases (show v = .bl _ from r); rfl
  | int _ => cases (show v = .int _ from r); rfl
  | str _ => cases (show v = .str _ from r); rfl
  | tup _ => obtain ⟨_, _, rfl, _⟩ := r; rfl
  | lst _ => obtain ⟨_, _, rfl, _⟩ := r; rfl
  | dic _ => obtain ⟨_, _, rfl, _⟩ := r; rfl
  | gtup _ => obtain ⟨_, _, _, rfl, _⟩ := r; rfl
  | ptr _ => cases (show v = .ref _ from r); rfl
  | any => cases hd
  | grf _ _ => obtain ⟨_, _, _, rfl, _⟩ := r; rfl
  | slst _ => obtain ⟨_, rfl, _⟩ := r; rfl
theorem DT_isN {j pos'} (ha : DE X a ρ μ d μ1) (hd : notAny d = true := by rfl) : DT X (.Compare a [.Is] [.Constant .none j pos'] pos) ρ μ (isNon d) μ1 := fun B H σ Q S L k =>
  ptW (pt_cmp (pc_isN pe_w)) (ha B H σ _ S L fun B1 H1 v i S1 r => ⟨_, rfl, by rw [isNon_rep hd r]; exact k B1 H1 i S1⟩)
theorem DT_notN {j pos'} (ha : DE X a ρ μ d μ1) (hd : notAny d = true := by rfl) : DT X (.Compare a [.IsNot] [.Constant .none j pos'] pos) ρ μ (!isNon d) μ1 := fun B H σ Q S L k =>
  ptW (pt_cmp (pc_notN pe_w)) (ha B H σ _ S L fun B1 H1 v i S1 r => ⟨_, rfl, by rw [isNon_rep hd r]; exact k B1 H1 i S1⟩)
variable {b1 b2 : Bool} {rest : List Expr}
theorem DW.dt (h : DW X e ρ μ b1 μ1) : DT X e ρ μ b1 μ1 := fun B H σ Q S L k => ptW (pw_w (e := e)).pt (h B H σ Q S L k)
theorem DW_and1 (ha : DT X a ρ μ b1 μ1) : DW X (.BoolOp .And [a] pos) ρ μ b1 μ1 := fun B H σ Q S L k => pwW (pw_and1 pt_w) (ha B H σ Q S L k)
theorem DW_or1 (ha : DT X a ρ μ b1 μ1) : DW X (.BoolOp .Or [a] pos) ρ μ b1 μ1 := fun B H σ Q S L k => pwW (pw_or1 pt_w) (ha B H σ Q S L k)
theorem DW_and (ha : DT X a ρ μ b1 μ) (hb : b1 = true → DW X (.BoolOp .And (b :: rest) pos) ρ μ b2 μ) : DW X (.BoolOp .And (a :: b :: rest) pos) ρ μ (b1 && b2) μ := fun B H σ Q S L k => by
  refine pwW (pw_and pt_w pw_w) (ha B H σ _ S L fun B1 H1 i1 S1 => ?_)
  cases b1 with
  | true => exact hb rfl B1 H1 σ Q S1 (L.inc i1) (k.inc i1)
  | false => exact k B1 H1 i1 S1
theorem DW_or (ha : DT X a ρ μ b1 μ) (hb : b1 = false → DW X (.BoolOp .Or (b :: rest) pos) ρ μ b2 μ) : DW X (.BoolOp .Or (a :: b :: rest) pos) ρ μ (b1 || b2) μ := fun B H σ Q S L k => by
  refine pwW (pw_or pt_w pw_w) (ha B H σ _ S L fun B1 H1 i1 S1 => ?_)
  cases b1 with
  | false => exact hb rfl B1 H1 σ Q S1 (L.inc i1) (k.inc i1)
  | true => exact k B1 H1 i1 S1
theorem DT_not (ha : DT X a ρ μ b1 μ1) : DT X (.UnaryOp .Not a pos) ρ μ (!b1) μ1 := fun B H σ Q S L k => ptW (pt_not pt_w) (ha B H σ _ S L fun B1 H1 i S1 => k B1 H1 i S1)
theorem DE_one {op} (ha : DE X a ρ μ d μ1) : DE X (.BoolOp op [a] pos) ρ μ d μ1 := fun B H σ Q S L k => peW (pe_one pe_w) (ha B H σ Q S L k)
theorem DE_and (ha : DE X a ρ μ (.bl b1) μ) (hb : b1 = true → DE X (.BoolOp .And (b :: rest) pos) ρ μ (.bl b2) μ) : DE X (.BoolOp .And (a :: b :: rest) pos) ρ μ (.bl (b1 && b2)) μ := fun B H σ Q S L k => by
  refine peW (pe_and pe_w pe_w) (ha B H σ _ S L fun B1 H1 v i1 S1 r => ⟨b1, r, ?_⟩)
  cases b1 with
  | true => exact hb rfl B1 H1 σ Q S1 (L.inc i1) (k.inc i1)
  | false => exact k B1 H1 _ i1 S1 rfl
theorem DE_or (ha : DE X a ρ μ (.bl b1) μ) (hb : b1 = false → DE X (.BoolOp .Or (b :: rest) pos) ρ μ (.bl b2) μ) : DE X (.BoolOp .Or (a :: b :: rest) pos) ρ μ (.bl (b1 || b2)) μ := fun B H σ Q S L k => by
  refine peW (pe_or pe_w pe_w) (ha B H σ _ S L fun B1 H1 v i1 S1 r => ⟨b1, r, ?_⟩)
  cases b1 with
  | false => exact hb rfl B1 H1 σ Q S1 (L.inc i1) (k.inc i1)
  | true => exact k B1 H1 _ i1 S1 rfl
theorem DE_not (ha : DE X a ρ μ (.bl b1) μ1) : DE X (.UnaryOp .Not a pos) ρ μ (.bl (!b1)) μ1 := fun B H σ Q S L k =>
  peW (pe_not pe_w) (ha B H σ _ S L fun B1 H1 v i S1 r => ⟨b1, r, k B1 H1 _ i S1 rfl⟩)
theorem DE_ifExp {t : Expr} (ht : DT X t ρ μ b1 μ) (ha : b1 = true → DE X a ρ μ d μ1) (hb : b1 = false → DE X b ρ μ d μ1) : DE X (.IfExp t a b pos) ρ μ d μ1 := fun B H σ Q S L k => by
  refine peW (pe_ifExp pt_w pe_w pe_w) (ht B H σ _ S L fun B1 H1 i1 S1 => ?_)
  cases b1 with
  | true => exact ha rfl B1 H1 σ Q S1 (L.inc i1) (k.inc i1)
  | false => exact hb rfl B1 H1 σ Q S1 (L.inc i1) (k.inc i1)
/-- an expression whose value is a bool, as a test -/
theorem DT_val (h : DE X e ρ μ (.bl b1) μ1) (he : ∀ whole, isTrue e X.env whole = (do let v ← whole; standAt e.pos; holding [v] (truthy v)) := by intro _; rfl) : DT X e ρ μ b1 μ1 := fun B H σ Q S L k =>
  ptW (pt_val pe_w he) (h B H σ _ S L fun B1 H1 v i S1 r => ⟨b1, r, k B1 H1 i S1⟩)
/-- the truth of a list that may be written, of a frozen one, of a tuple -/
theorem DT_truP {p : Addr} {n : Nat} {ds : List D} (h : DE X e ρ μ (.ptr p) μ1) (hn : μ1[n]? = some (p, .lst ds)) (he : ∀ whole, isTrue e X.env whole = (do let v ← whole; standAt e.pos; holding [v] (truthy v)) := by intro _; rfl) : DT X e ρ μ (!ds.isEmpty) μ1 := fun B H σ Q S L k =>
  ptW (pt_truth pe_w he) (h B H σ _ S L fun B1 H1 v i S1 r => by
    cases (show v = .ref p from r)
    obtain ⟨_, xs, e1, e2⟩ := S1.own _ (List.mem_of_getElem? hn)
    refine ⟨!xs.isEmpty, .inl ⟨xs, SqL.of e1, rfl⟩, ?_⟩
    rw [show xs.isEmpty = ds.isEmpty by have := e2.length; cases xs <;> cases ds <;> simp_all]
    exact k B1 H1 i S1)
theorem DT_truL {ds : List D} (h : DE X e ρ μ (.lst ds) μ1) (he : ∀ whole, isTrue e X.env whole = (do let v ← whole; standAt e.pos; holding [v] (truthy v)) := by intro _; rfl) : DT X e ρ μ (!ds.isEmpty) μ1 := fun B H σ Q S L k =>
  ptW (pt_truth pe_w he) (h B H σ _ S L fun B1 H1 v i S1 r => by
    obtain ⟨p, xs, rfl, e1, e2⟩ := r
    refine ⟨!xs.isEmpty, .inl ⟨xs, SqL.of (S1.sub _ _ e1), rfl⟩, ?_⟩
    rw [show xs.isEmpty = ds.isEmpty by have := e2.length; cases xs <;> cases ds <;> simp_all]
    exact k B1 H1 i S1)
theorem DA_nil : DA X [] ρ μ [] μ := fun B H σ Q S L k => paW pa_nil (k B H [] (Inc.refl B) S rfl)
theorem DA_cons {ds : List D} (ha : DE X e ρ μ d μ1) (hr : DA X es ρ μ1 ds μ2) (hs : starEach (e :: es) X.env = (false, eval e X.env) :: starEach es X.env := by rfl) : DA X (e :: es) ρ μ (d :: ds) μ2 := fun B H σ Q S L k =>
  paW (pa_cons pe_w pa_w hs) (ha B H σ _ S L fun B1 H1 x i1 S1 r1 => hr B1 H1 σ _ S1 (L.inc i1) fun B2 H2 xs i2 S2 r2 => k B2 H2 _ (i1.trans i2) S2 ⟨x, xs, rfl, r1.inc i2, r2⟩)
theorem DE_tup {ds : List D} {x1} (h : DA X es ρ μ ds μ1) (hl : ds.length ≤ 16777216 := by exact Nat.le_of_ble_eq_true rfl) : DE X (.Tuple es x1 pos) ρ μ (.tup ds) μ1 := fun B H σ Q S L k =>
  peW (pe_tup pa_w) (h B H σ _ S L fun B1 H1 xs i1 S1 r1 => ⟨by rw [r1.length, sizeLine_eq]; exact hl, fun p np => by
    obtain ⟨i2, S2⟩ := S1.newB (o := .tup xs) np
    exact k _ _ _ (i1.trans i2) S2 ⟨p, xs, rfl, upd_same, r1.inc i2⟩⟩)
theorem DN_lst {ds : List D} (h : DA X es ρ μ ds μ1) (hl : ds.length ≤ 16777216 := by exact Nat.le_of_ble_eq_true rfl) : DN X (.List es pos) ρ μ (.lst ds) μ1 := fun B H σ Q S L k =>
  peW (pe_lst pa_w) (h B H σ _ S L fun B1 H1 xs i1 S1 r1 => ⟨by rw [r1.length, sizeLine_eq]; exact hl, fun p np =>
    k B1 _ p i1 (S1.newM np ⟨xs, upd_same, r1⟩)⟩)
theorem DN_dic : DN X (.Dict [] [] pos) ρ μ (.dic []) μ := fun B H σ Q S L k =>
  peW pe_dnewT fun p np => k B _ p (Inc.refl B) (S.newM np ⟨[], upd_same, rfl⟩)
end
end Od
namespace Od
open PySem PySem.Spec PyProof.Rows L2
/-- an unknown: procedure, point, way -/
abbrev U := Int × Int × Int
@[reducible] def uD (u : U) : D := .tup [.int u.1, .int u.2.1, .int u.2.2]
def uK (u : U) : List Int := [u.1, u.2.1, u.2.2]
theorem uK_inj {u v : U} (h : uK u = uK v) : u = v := by
  obtain ⟨a, b, c⟩ := u
  obtain ⟨x, y, z⟩ := v
  simp [uK] at h
  obtain ⟨h1, h2, h3⟩ := h
  rw [h1, h2, h3]
section
variable {K : PySem.W.Frag} {B H : Hp} {μ : Mu}
theorem uD_key {u : U} {v : V} (r : Rep K B (uD u) v) : ∃ b, v = .ref b ∧ B b = some (.tup (((uK u).map (Sum.inl : Int → Key)).map kV)) := by
  obtain ⟨a, xs, e, h, q⟩ := r
  have q' : Reps K B ((uK u).map D.int) xs := q
  rw [q'.kints] at h
  exact ⟨a, e, h⟩
theorem uD_of_key {u : U} {b : Addr} (h : B b = some (.tup (((uK u).map (Sum.inl : Int → Key)).map kV))) : Rep K B (uD u) (.ref b) := ⟨b, _, rfl, h, Reps.ofKints (k := uK u)⟩
end
theorem atI_rep {K : PySem.W.Frag} {B : Hp} {ds : List D} {xs : List V} {i : Int} {d : D} (r : Reps K B ds xs) (h : atI ds i = some d) : ∃ v, atI xs i = some v ∧ Rep K B d v := by
  unfold atI at h ⊢
  rw [r.length]
  cases e : ixN ds.length i with
  | none => rw [e] at h; cases h
  | some j =>
    rw [e] at h
    exact r.get (i := j) h
section
variable {X : Cx} {e a b : Expr} {es : List Expr} {ρ : Rho} {μ μ1 μ2 μ3 : Mu} {d d1 d2 c : D} {pos : Pos} {ds : List D} {i : Int}
theorem vIxT {K : PySem.W.Frag} (h : atI ds i = some d) : VOp K (rIxT K) (.tup ds) (.int i) μ d μ := fun B H x y Q S r1 r2 k => by
  obtain ⟨p, xs, rfl, e1, r⟩ := r1
  obtain ⟨v, e2, r3⟩ := atI_rep r h
  exact ⟨p, xs, i, v, rfl, r2, SqT.of (S.sub _ _ e1), e2, k B H _ (Inc.refl B) S r3⟩
theorem vIxL {K : PySem.W.Frag} (h : atI ds i = some d) : VOp K (rIxL K) (.lst ds) (.int i) μ d μ := fun B H x y Q S r1 r2 k => by
  obtain ⟨p, xs, rfl, e1, r⟩ := r1
  obtain ⟨v, e2, r3⟩ := atI_rep r h
  exact ⟨p, xs, i, v, rfl, r2, SqL.of (S.sub _ _ e1), e2, k B H _ (Inc.refl B) S r3⟩
theorem vIxP {K : PySem.W.Frag} {p : Addr} {n : Nat} (hn : μ[n]? = some (p, .lst ds)) (h : atI ds i = some d) : VOp K (rIxL K) (.ptr p) (.int i) μ d μ := fun B H x y Q S r1 r2 k => by
  obtain ⟨_, xs, e1, r⟩ := S.own _ (List.mem_of_getElem? hn)
  obtain ⟨v, e2, r3⟩ := atI_rep r h
  exact ⟨p, xs, i, v, r1, r2, SqL.of e1, e2, k B H _ (Inc.refl B) S r3⟩
theorem DE_ix {r : R2} (hr : IxR X r) (v : VOp X.K r d1 d2 μ2 d μ3) (ha : DE X a ρ μ d1 μ1) (hb : DE X b ρ μ1 d2 μ2) (hs : PlainIx b := by exact fun _ _ => rfl) : DE X (.Subscript a b pos) ρ μ d μ3 := fun B H σ Q S L k =>
  peW (pe_ix hr pe_w pe_w hs) (tOp_of (ta := wE X a) (tb := wE X b) S L ha hb fun B2 H2 x y i S2 r1 r2 => v B2 H2 x y Q S2 r1 r2 (k.inc i))
theorem DE_ixT (ha : DE X a ρ μ (.tup ds) μ1) (hb : DE X b ρ μ1 (.int i) μ2) (h : atI ds i = some d := by rfl) (hs : PlainIx b := by exact fun _ _ => rfl) : DE X (.Subscript a b pos) ρ μ d μ2 := DE_ix ix_tup (vIxT h) ha hb hs
theorem DE_ixL (ha : DE X a ρ μ (.lst ds) μ1) (hb : DE X b ρ μ1 (.int i) μ2) (h : atI ds i = some d := by rfl) (hs : PlainIx b := by exact fun _ _ => rfl) : DE X (.Subscript a b pos) ρ μ d μ2 := DE_ix ix_list (vIxL h) ha hb hs
theorem DE_ixP {p : Addr} (n : Nat) (ha : DE X a ρ μ (.ptr p) μ1) (hb : DE X b ρ μ1 (.int i) μ2) (hn : μ2[n]? = some (p, .lst ds) := by rfl) (h : atI ds i = some d := by rfl) (hs : PlainIx b := by exact fun _ _ => rfl) : DE X (.Subscript a b pos) ρ μ d μ2 := DE_ix ix_list (vIxP hn h) ha hb hs
theorem DV_ixT (ha : DV X a ρ (.tup ds)) (hb : DV X b ρ (.int i)) (h : atI ds i = some d := by rfl) (hs : PlainIx b := by exact fun _ _ => rfl) : DV X (.Subscript a b pos) ρ d := fun B σ L => by
  obtain ⟨x, r1, f1⟩ := ha B σ L
  obtain ⟨y, r2, f2⟩ := hb B σ L
  obtain ⟨p, xs, rfl, e1, r⟩ := r1
  obtain ⟨v, e2, r3⟩ := atI_rep r h
  refine ⟨v, r3, fun B' H' Q w s q => peW (pe_ix ix_tup pe_w pe_w hs) (f1 B' H' _ w s (f2 B' H' _ w s ⟨p, xs, i, v, rfl, r2, SqT.of (s _ _ (w.t _ _ e1)), e2, q⟩))⟩
theorem DGet.u {K : PySem.W.Frag} {B H : Hp} {p : Addr} {ws : List (List Key × V)} {ks : List (List Int × D)} {u : U} {y : V} (e : Rd H p (.dT ws)) (r : RepK K B ks ws) (ry : Rep K B (uD u) y) (s : Inc B H) : ∃ o, DGet H p y o ∧ (match getK ks (uK u) with | some d => ∃ v, o = some v ∧ Rep K B d v | none => o = none) := by
  obtain ⟨b, rfl, hb⟩ := uD_key ry
  refine ⟨_, .inr ⟨ws, _, b, e, rfl, s _ _ hb, rfl⟩, ?_⟩
  exact r.val (uK u)
theorem dic_rd {K : PySem.W.Frag} {B H : Hp} {ks : List (List Int × D)} {x : V} (S : Sat K B H μ) (r : Rep K B (.dic ks) x) : ∃ p ws, x = .ref p ∧ Rd H p (.dT ws) ∧ RepK K B ks ws := by
  obtain ⟨p, ws, e, h, q⟩ := r
  exact ⟨p, ws, e, S.sub.rd h, q⟩
theorem own_dic {K : PySem.W.Frag} {B H : Hp} {ks : List (List Int × D)} {n : Nat} {p : Addr} (S : Sat K B H μ) (hn : μ[n]? = some (p, .dic ks)) : ∃ ws, H p = some (.dT ws) ∧ RepK K B ks ws := (S.own _ (List.mem_of_getElem? hn)).2
theorem own_lst {K : PySem.W.Frag} {B H : Hp} {ds : List D} {n : Nat} {p : Addr} (S : Sat K B H μ) (hn : μ[n]? = some (p, .lst ds)) : ∃ xs, H p = some (.lst xs) ∧ Reps K B ds xs := (S.own _ (List.mem_of_getElem? hn)).2
variable {ks : List (List Int × D)} {u : U} {p : Addr}
/-- where a dict may stand: frozen, or to be written -/
def DicAt (K : PySem.W.Frag) (μ : Mu) (d : D) (ks : List (List Int × D)) : Prop := d = .dic ks ∨ ∃ (p : Addr) (n : Nat), d = .ptr p ∧ μ[n]? = some (p, D.dic ks)
theorem DicAt.rd {K : PySem.W.Frag} {B H : Hp} {x : V} (h : DicAt K μ d ks) (S : Sat K B H μ) (r : Rep K B d x) : ∃ p ws, x = .ref p ∧ Rd H p (.dT ws) ∧ RepK K B ks ws := by
  rcases h with rfl | ⟨p, n, rfl, hn⟩
  · exact dic_rd S r
  · obtain ⟨ws, h1, h2⟩ := own_dic S hn
    exact ⟨p, ws, r, .inl h1, h2⟩
theorem DicAt.fz {K : PySem.W.Frag} : DicAt K μ (.dic ks) ks := .inl rfl
theorem DicAt.pt {K : PySem.W.Frag} (n : Nat) (h : μ[n]? = some (p, .dic ks) := by rfl) : DicAt K μ (.ptr p) ks := .inr ⟨p, n, rfl, h⟩
theorem DE_dget (hu : X.A.units + 1 < cLine) (ha : DE X a ρ μ d1 μ1) (hb : DE X b ρ μ1 (uD u) μ2) (hd : DicAt X.K μ2 d1 ks) (h : getK ks (uK u) = some d) (hs : NoSl b := by exact fun _ _ => rfl) : DE X (.Subscript a b pos) ρ μ d μ2 := fun B H σ Q S L k =>
  peW (pe_dget hu pe_w pe_w hs) (ha B H σ _ S L fun B1 H1 x i1 S1 r1 => hb B1 H1 σ _ S1 (L.inc i1) fun B2 H2 y i2 S2 r2 => by
    obtain ⟨p, ws, rfl, e1, rk⟩ := hd.rd S2 (r1.inc i2)
    obtain ⟨o, g, m⟩ := DGet.u e1 rk r2 S2.sub
    rw [h] at m
    obtain ⟨v, rfl, rv⟩ := m
    exact ⟨p, v, rfl, g, k B2 H2 v (i1.trans i2) S2 rv⟩)
theorem DV_dget (hu : X.A.units + 1 < cLine) (ha : DV X a ρ (.dic ks)) (hb : DV X b ρ (uD u)) (h : getK ks (uK u) = some d) (hs : NoSl b := by exact fun _ _ => rfl) : DV X (.Subscript a b pos) ρ d := fun B σ L => by
  obtain ⟨x, r1, f1⟩ := ha B σ L
  obtain ⟨y, r2, f2⟩ := hb B σ L
  obtain ⟨p, ws, rfl, e1, rk⟩ := r1
  obtain ⟨o, g, m⟩ := DGet.u e1 rk r2 (Inc.refl B)
  rw [h] at m
  obtain ⟨v, rfl, rv⟩ := m
  refine ⟨v, rv, fun B' H' Q w s q => peW (pe_dget hu pe_w pe_w hs) (f1 B' H' _ w s (f2 B' H' _ w s ?_))⟩
  obtain ⟨o', g', m'⟩ := DGet.u (K := X.K) (s.rd (w.d _ _ e1)) (RepK.wk w _ _ rk) (Rep.wk w _ _ r2) s
  rw [h] at m'
  obtain ⟨v', rfl, _⟩ := m'
  have ev : v' = v := by
    rcases g with ⟨kvs, kk, q1, q2, q3⟩ | ⟨kvs, kk, bb, q1, q2, q3, q4⟩
    · obtain ⟨c0, c1, c2⟩ := uD_key r2
      cases c1
      cases kk <;> cases q2
    · rcases g' with ⟨kvs', kk', q1', q2', q3'⟩ | ⟨kvs', kk', bb', q1', q2', q3', q4'⟩
      · subst q2
        cases kk' <;> cases q2'
      · subst q2
        cases q2'
        have z1 := s _ _ (w.t _ _ q3)
        rw [z1] at q3'
        have z2 : kk = kk' := kVs_inj (by injection q3' with q3'; injection q3')
        subst z2
        have z3 : Rd B' p (.dT kvs) := w.d _ _ q1
        have z4 := s.rd z3
        have z5 : kvs = kvs' := by
          rcases z4 with z4 | ⟨o1, z4⟩ <;> rcases q1' with q1' | ⟨o2, q1'⟩ <;> rw [z4] at q1' <;> cases q1' <;> rfl
        subst z5
        rw [← q4'] at q4
        exact (Option.some.inj q4).symm
  subst ev
  exact ⟨p, v', rfl, g', q⟩
theorem DE_din (hu : X.A.units + 1 < cLine) (ha : DE X a ρ μ (uD u) μ1) (hb : DE X b ρ μ1 d2 μ2) (hd : DicAt X.K μ2 d2 ks) (hm : behindInMarks .In b = false := by rfl) : DE X (.Compare a [.In] [b] pos) ρ μ (.bl (getK ks (uK u)).isSome) μ2 := fun B H σ Q S L k =>
  peW (pe_cmp (pc_din hu pe_w pe_w) hm) (ha B H σ _ S L fun B1 H1 y i1 S1 r1 => hb B1 H1 σ _ S1 (L.inc i1) fun B2 H2 x i2 S2 r2 => by
    obtain ⟨p, ws, rfl, e1, rk⟩ := hd.rd S2 r2
    obtain ⟨o, g, m⟩ := DGet.u e1 rk (r1.inc i2) S2.sub
    refine ⟨p, o, rfl, g, k B2 H2 _ (i1.trans i2) S2 ?_⟩
    show V.bl _ = V.bl _
    cases e : getK ks (uK u) with
    | none => rw [e] at m; rw [m]; rfl
    | some d => rw [e] at m; obtain ⟨v, rfl, _⟩ := m; rfl)
theorem DT_din (hu : X.A.units + 1 < cLine) (ha : DE X a ρ μ (uD u) μ1) (hb : DE X b ρ μ1 d2 μ2) (hd : DicAt X.K μ2 d2 ks) (hm : behindInMarks .In b = false := by rfl) : DT X (.Compare a [.In] [b] pos) ρ μ (getK ks (uK u)).isSome μ2 := fun B H σ Q S L k =>
  ptW (pt_cmp (pc_din hu pe_w pe_w) hm) (ha B H σ _ S L fun B1 H1 y i1 S1 r1 => hb B1 H1 σ _ S1 (L.inc i1) fun B2 H2 x i2 S2 r2 => by
    obtain ⟨p, ws, rfl, e1, rk⟩ := hd.rd S2 r2
    obtain ⟨o, g, m⟩ := DGet.u e1 rk (r1.inc i2) S2.sub
    refine ⟨p, o, rfl, g, _, rfl, ?_⟩
    have eo : o.isSome = (getK ks (uK u)).isSome := by
      cases e : getK ks (uK u) with
      | none => rw [e] at m; rw [m]; rfl
      | some d => rw [e] at m; obtain ⟨v, rfl, _⟩ := m; rfl
    rw [eo]
    exact k B2 H2 (i1.trans i2) S2)
theorem DT_dnotin (hu : X.A.units + 1 < cLine) (ha : DE X a ρ μ (uD u) μ1) (hb : DE X b ρ μ1 d2 μ2) (hd : DicAt X.K μ2 d2 ks) (hm : behindInMarks .NotIn b = false := by rfl) : DT X (.Compare a [.NotIn] [b] pos) ρ μ (!(getK ks (uK u)).isSome) μ2 := fun B H σ Q S L k =>
  ptW (pt_cmp (pc_dnotin hu pe_w pe_w) hm) (ha B H σ _ S L fun B1 H1 y i1 S1 r1 => hb B1 H1 σ _ S1 (L.inc i1) fun B2 H2 x i2 S2 r2 => by
    obtain ⟨p, ws, rfl, e1, rk⟩ := hd.rd S2 r2
    obtain ⟨o, g, m⟩ := DGet.u e1 rk (r1.inc i2) S2.sub
    refine ⟨p, o, rfl, g, _, rfl, ?_⟩
    have eo : o.isSome = (getK ks (uK u)).isSome := by
      cases e : getK ks (uK u) with
      | none => rw [e] at m; rw [m]; rfl
      | some d => rw [e] at m; obtain ⟨v, rfl, _⟩ := m; rfl
    rw [eo]
    exact k B2 H2 (i1.trans i2) S2)
/-- d.get(k, z) -/
theorem DE_dgetOr {f : Expr} {apos cpos : Pos} {dz : D} (hu : X.A.units + 1 < cLine) (ha : DE X a ρ μ d1 μ) (hb : DE X b ρ μ (uD u) μ) (hz : DE X f ρ μ dz μ) (hd : DicAt X.K μ d1 ks)
    (m : M2 X a "get" apos b f cpos := by exact ⟨rfl, rfl, rfl, rfl, rfl⟩) : DE X (.Call (.Attribute a "get" apos) [b, f] [] cpos) ρ μ ((getK ks (uK u)).getD dz) μ := fun B H σ Q S L k =>
  peW (pe_dget2 hu pe_w pe_w pe_w m) (ha B H σ _ S L fun B1 H1 x i1 S1 r1 => by
    obtain ⟨p, ws, rfl, e1, rk⟩ := hd.rd S1 r1
    refine ⟨p, rfl, .inr ⟨ws, e1⟩, hb B1 H1 σ _ S1 (L.inc i1) fun B2 H2 y i2 S2 r2 => hz B2 H2 σ _ S2 (L.inc (i1.trans i2)) fun B3 H3 z i3 S3 r3 => ?_⟩
    obtain ⟨p', ws', e', e1', rk'⟩ := hd.rd S3 ((r1.inc i2).inc i3)
    cases e'
    obtain ⟨o, g, mm⟩ := DGet.u e1' rk' (r2.inc i3) S3.sub
    refine ⟨o, g, k B3 H3 _ ((i1.trans i2).trans i3) S3 ?_⟩
    cases e : getK ks (uK u) with
    | none => rw [e] at mm; rw [mm]; exact r3
    | some d => rw [e] at mm; obtain ⟨v, rfl, rv⟩ := mm; exact rv)
def VCall (K : PySem.W.Frag) (r : List V → Hp → VK → Prop) (ds : List D) (μ : Mu) (d : D) (μ' : Mu) : Prop := ∀ (B H : Hp) (xs : List V) (Q : VK), Sat K B H μ → Reps K B ds xs → Kd K B μ' d Q → r xs H Q
def VCallN (K : PySem.W.Frag) (r : List V → Hp → VK → Prop) (ds : List D) (μ : Mu) (d : D) (μ' : Mu) : Prop := ∀ (B H : Hp) (xs : List V) (Q : VK), Sat K B H μ → Reps K B ds xs → Kn K B μ' d Q → r xs H Q
variable {x : Str} {cp cpos : Pos} {id T : String} {r : List V → Hp → VK → Prop}
theorem DE_callB (hc : CallR X (.builtin id) r) (v : VCall X.K r ds μ1 d μ2) (hm : X.mg x = none) (hv : bootBuiltins x = some (.builtin id)) (ha : DA X (e :: es) ρ μ ds μ1) (hg : Gl X x := by rfl) (hn : x ≠ "__name__" := by decide) (hdb : (x == ("__debug__" : Str)) = false := by decide)
    (he : starEach (e :: es) X.env = (false, eval e X.env) :: starEach es X.env := by rfl) (hpl : (backTo pos (starEach es X.env)).any (·.1) = false := by rfl) : DE X (.Call (.Name x cp) (e :: es) [] pos) ρ μ d μ2 := fun B H σ Q S L k =>
  peW (pe_callB hc hg hm hv pa_w hn hdb he hpl) (ha B H σ _ S L fun B1 H1 xs i1 S1 r1 => v B1 H1 xs Q S1 r1 (k.inc i1))
theorem DN_callB (hc : CallR X (.builtin id) r) (v : VCallN X.K r ds μ1 d μ2) (hm : X.mg x = none) (hv : bootBuiltins x = some (.builtin id)) (ha : DA X (e :: es) ρ μ ds μ1) (hg : Gl X x := by rfl) (hn : x ≠ "__name__" := by decide) (hdb : (x == ("__debug__" : Str)) = false := by decide)
    (he : starEach (e :: es) X.env = (false, eval e X.env) :: starEach es X.env := by rfl) (hpl : (backTo pos (starEach es X.env)).any (·.1) = false := by rfl) : DN X (.Call (.Name x cp) (e :: es) [] pos) ρ μ d μ2 := fun B H σ Q S L k =>
  peW (pe_callB hc hg hm hv pa_w hn hdb he hpl) (ha B H σ _ S L fun B1 H1 xs i1 S1 r1 => v B1 H1 xs Q S1 r1 (k.inc i1))
theorem DE_callTy (hc : CallR X (.type T) r) (v : VCall X.K r ds μ1 d μ2) (hm : X.mg x = none) (hv : bootBuiltins x = some (.type T)) (ha : DA X (e :: es) ρ μ ds μ1) (hg : Gl X x := by rfl) (hn : x ≠ "__name__" := by decide) (hdb : (x == ("__debug__" : Str)) = false := by decide)
    (he : starEach (e :: es) X.env = (false, eval e X.env) :: starEach es X.env := by rfl) (hpl : (backTo pos (starEach es X.env)).any (·.1) = false := by rfl) : DE X (.Call (.Name x cp) (e :: es) [] pos) ρ μ d μ2 := fun B H σ Q S L k =>
  peW (pe_callTy hc hg hm hv pa_w hn hdb he hpl) (ha B H σ _ S L fun B1 H1 xs i1 S1 r1 => v B1 H1 xs Q S1 r1 (k.inc i1))
theorem DN_callTy (hc : CallR X (.type T) r) (v : VCallN X.K r ds μ1 d μ2) (hm : X.mg x = none) (hv : bootBuiltins x = some (.type T)) (ha : DA X (e :: es) ρ μ ds μ1) (hg : Gl X x := by rfl) (hn : x ≠ "__name__" := by decide) (hdb : (x == ("__debug__" : Str)) = false := by decide)
    (he : starEach (e :: es) X.env = (false, eval e X.env) :: starEach es X.env := by rfl) (hpl : (backTo pos (starEach es X.env)).any (·.1) = false := by rfl) : DN X (.Call (.Name x cp) (e :: es) [] pos) ρ μ d μ2 := fun B H σ Q S L k =>
  peW (pe_callTy hc hg hm hv pa_w hn hdb he hpl) (ha B H σ _ S L fun B1 H1 xs i1 S1 r1 => v B1 H1 xs Q S1 r1 (k.inc i1))
theorem reps1 {K : PySem.W.Frag} {B : Hp} {xs : List V} (h : Reps K B [d] xs) : ∃ x, xs = [x] ∧ Rep K B d x := by
  obtain ⟨x, r, rfl, h1, h2⟩ := h
  cases h2
  exact ⟨x, rfl, h1⟩
theorem reps2 {K : PySem.W.Frag} {B : Hp} {xs : List V} (h : Reps K B [d1, d2] xs) : ∃ x y, xs = [x, y] ∧ Rep K B d1 x ∧ Rep K B d2 y := by
  obtain ⟨x, r, rfl, h1, h2⟩ := h
  obtain ⟨y, rfl, h3⟩ := reps1 h2
  exact ⟨x, y, rfl, h1, h3⟩
/-- where a list or tuple may stand -/
def SeqD (μ : Mu) (d : D) (ds : List D) : Prop := d = .tup ds ∨ d = .gtup ds ∨ d = .lst ds ∨ ∃ (p : Addr) (n : Nat), d = .ptr p ∧ μ[n]? = some (p, D.lst ds)
theorem SeqD.tu : SeqD μ (.tup ds) ds := .inl rfl
theorem SeqD.gt : SeqD μ (.gtup ds) ds := .inr (.inl rfl)
theorem SeqD.li : SeqD μ (.lst ds) ds := .inr (.inr (.inl rfl))
theorem SeqD.pt (n : Nat) (h : μ[n]? = some (p, .lst ds) := by rfl) : SeqD μ (.ptr p) ds := .inr (.inr (.inr ⟨p, n, rfl, h⟩))
theorem SeqD.at {K : PySem.W.Frag} {B H : Hp} {x : V} (h : SeqD μ d ds) (S : Sat K B H μ) (r : Rep K B d x) : ∃ p xs, x = .ref p ∧ (SqL K H p xs ∨ SqT K H p xs) ∧ Reps K B ds xs := by
  rcases h with rfl | rfl | rfl | ⟨p, n, rfl, hn⟩
  · obtain ⟨p, xs, e, h, q⟩ := r
    exact ⟨p, xs, e, .inr (SqT.of (S.sub _ _ h)), q⟩
  · obtain ⟨p, xs, o, e, h, _, q⟩ := r
    exact ⟨p, xs, e, .inr (.inl (.inr ⟨o, S.sub _ _ h⟩)), q⟩
  · obtain ⟨p, xs, e, h, q⟩ := r
    exact ⟨p, xs, e, .inl (SqL.of (S.sub _ _ h)), q⟩
  · obtain ⟨xs, h, q⟩ := own_lst S hn
    exact ⟨p, xs, r, .inl (SqL.of h), q⟩
theorem DE_len (hm : X.mg "len" = none) (ha : DE X a ρ μ d1 μ1) (hd : SeqD μ1 d1 ds) (hg : Gl X "len" := by rfl) (he : starEach [a] X.env = (false, eval a X.env) :: starEach [] X.env := by rfl) : DE X (.Call (.Name "len" cp) [a] [] pos) ρ μ (.int (ds.length : Int)) μ1 :=
  DE_callB call_len_seq (ds := [d1]) (fun B H xs Q S r k => by
    obtain ⟨x, rfl, rx⟩ := reps1 r
    obtain ⟨p, ys, rfl, h, q⟩ := hd.at S rx
    exact ⟨p, ys, rfl, h, k B H _ (Inc.refl B) S (by rw [q.length]; rfl)⟩) hm PySem.boot_len (DA_cons ha DA_nil he) hg (he := he)
theorem DE_lenD (hm : X.mg "len" = none) (ha : DE X a ρ μ (.ptr p) μ1) (n : Nat) (hn : μ1[n]? = some (p, .dic ks)) (hg : Gl X "len" := by rfl) (he : starEach [a] X.env = (false, eval a X.env) :: starEach [] X.env := by rfl) : DE X (.Call (.Name "len" cp) [a] [] pos) ρ μ (.int (ks.length : Int)) μ1 :=
  DE_callB call_len_dT (ds := [.ptr p]) (fun B H xs Q S r k => by
    obtain ⟨x, rfl, rx⟩ := reps1 r
    obtain ⟨ws, h, q⟩ := own_dic S hn
    exact ⟨p, ws, by rw [show x = .ref p from rx], h, k B H _ (Inc.refl B) S (by rw [q.length]; rfl)⟩) hm PySem.boot_len (DA_cons ha DA_nil he) hg (he := he)
theorem boot_abs' : bootBuiltins "abs" = some (.builtin "abs") := by decide +kernel
theorem boot_int' : bootBuiltins "int" = some (.type "int") := by decide +kernel
theorem boot_list' : bootBuiltins "list" = some (.type "list") := by decide +kernel
theorem boot_tuple' : bootBuiltins "tuple" = some (.type "tuple") := by decide +kernel
theorem boot_sum' : bootBuiltins "sum" = some (.builtin "sum") := by decide +kernel
theorem boot_max' : bootBuiltins "max" = some (.builtin "max") := by decide +kernel
theorem boot_any' : bootBuiltins "any" = some (.builtin "any") := by decide +kernel
theorem boot_all' : bootBuiltins "all" = some (.builtin "all") := by decide +kernel
theorem boot_isi' : bootBuiltins "isinstance" = some (.builtin "isinstance") := by decide +kernel
theorem DE_abs (hm : X.mg "abs" = none) (ha : DE X a ρ μ (.int i) μ1) (hg : Gl X "abs" := by rfl) (he : starEach [a] X.env = (false, eval a X.env) :: starEach [] X.env := by rfl) : DE X (.Call (.Name "abs" cp) [a] [] pos) ρ μ (.int (if i < 0 then -i else i)) μ1 :=
  DE_callB call_abs (ds := [.int i]) (fun B H xs Q S r k => by
    obtain ⟨x, rfl, rx⟩ := reps1 r
    exact ⟨i, by rw [show x = .int i from rx], k B H _ (Inc.refl B) S rfl⟩) hm boot_abs' (DA_cons ha DA_nil he) hg (he := he)
theorem DE_intI (hm : X.mg "int" = none) (ha : DE X a ρ μ (.int i) μ1) (hg : Gl X "int" := by rfl) (he : starEach [a] X.env = (false, eval a X.env) :: starEach [] X.env := by rfl) : DE X (.Call (.Name "int" cp) [a] [] pos) ρ μ (.int i) μ1 :=
  DE_callTy call_int1 (ds := [.int i]) (fun B H xs Q S r k => by
    obtain ⟨x, rfl, rx⟩ := reps1 r
    exact .inl ⟨i, by rw [show x = .int i from rx], k B H _ (Inc.refl B) S rfl⟩) hm boot_int' (DA_cons ha DA_nil he) hg (he := he)
theorem DE_intB {t : Bool} (hm : X.mg "int" = none) (ha : DE X a ρ μ (.bl t) μ1) (hg : Gl X "int" := by rfl) (he : starEach [a] X.env = (false, eval a X.env) :: starEach [] X.env := by rfl) : DE X (.Call (.Name "int" cp) [a] [] pos) ρ μ (.int (if t then 1 else 0)) μ1 :=
  DE_callTy call_int1 (ds := [.bl t]) (fun B H xs Q S r k => by
    obtain ⟨x, rfl, rx⟩ := reps1 r
    exact .inr ⟨t, by rw [show x = .bl t from rx], k B H _ (Inc.refl B) S rfl⟩) hm boot_int' (DA_cons ha DA_nil he) hg (he := he)
theorem DN_list (hm : X.mg "list" = none) (ha : DE X a ρ μ d1 μ1) (hd : SeqD μ1 d1 ds) (hg : Gl X "list" := by rfl) (he : starEach [a] X.env = (false, eval a X.env) :: starEach [] X.env := by rfl) : DN X (.Call (.Name "list" cp) [a] [] pos) ρ μ (.lst ds) μ1 :=
  DN_callTy call_list_of (ds := [d1]) (fun B H xs Q S r k => by
    obtain ⟨x, rfl, rx⟩ := reps1 r
    obtain ⟨p, ys, rfl, h, q⟩ := hd.at S rx
    exact ⟨p, ys, rfl, h, fun l nl => k B _ l (Inc.refl B) (S.newM nl ⟨ys, upd_same, q⟩)⟩) hm boot_list' (DA_cons ha DA_nil he) hg (he := he)
theorem DN_listS {ns : List Int} (hm : X.mg "list" = none) (ha : DE X a ρ μ (.slst ns) μ1) (hg : Gl X "list" := by rfl) (he : starEach [a] X.env = (false, eval a X.env) :: starEach [] X.env := by rfl) : DN X (.Call (.Name "list" cp) [a] [] pos) ρ μ (.lst (ns.map .int)) μ1 :=
  DN_callTy call_list_of (ds := [.slst ns]) (fun B H xs Q S r k => by
    obtain ⟨x, rfl, rx⟩ := reps1 r
    obtain ⟨p, rfl, h⟩ := rx
    exact ⟨p, _, rfl, .inl (SqL.wk S.sub.wk h), fun l nl => k B _ l (Inc.refl B) (S.newM nl ⟨_, upd_same, Reps.ofInts⟩)⟩) hm boot_list' (DA_cons ha DA_nil he) hg (he := he)
/-- tuple(a list) -/
theorem DE_tupL (hm : X.mg "tuple" = none) (ha : DE X a ρ μ (.lst ds) μ1) (hg : Gl X "tuple" := by rfl) (he : starEach [a] X.env = (false, eval a X.env) :: starEach [] X.env := by rfl) : DE X (.Call (.Name "tuple" cp) [a] [] pos) ρ μ (.tup ds) μ1 :=
  DE_callTy call_tuple_of (ds := [.lst ds]) (fun B H xs Q S r k => by
    obtain ⟨x, rfl, rx⟩ := reps1 r
    obtain ⟨p, ys, rfl, h, q⟩ := rx
    exact ⟨p, ys, rfl, .inl ⟨SqL.of (S.sub _ _ h), fun l nl => by
      obtain ⟨i2, S2⟩ := S.newB (o := .tup ys) nl
      exact k _ _ _ i2 S2 ⟨l, ys, rfl, upd_same, q.inc i2⟩⟩⟩) hm boot_tuple' (DA_cons ha DA_nil he) hg (he := he)
theorem DE_tupP (hm : X.mg "tuple" = none) (ha : DE X a ρ μ (.ptr p) μ1) (n : Nat) (hn : μ1[n]? = some (p, .lst ds) := by rfl) (hg : Gl X "tuple" := by rfl) (he : starEach [a] X.env = (false, eval a X.env) :: starEach [] X.env := by rfl) : DE X (.Call (.Name "tuple" cp) [a] [] pos) ρ μ (.tup ds) μ1 :=
  DE_callTy call_tuple_of (ds := [.ptr p]) (fun B H xs Q S r k => by
    obtain ⟨x, rfl, rx⟩ := reps1 r
    obtain ⟨ys, h, q⟩ := own_lst S hn
    exact ⟨p, ys, by rw [show x = .ref p from rx], .inl ⟨SqL.of h, fun l nl => by
      obtain ⟨i2, S2⟩ := S.newB (o := .tup ys) nl
      exact k _ _ _ i2 S2 ⟨l, ys, rfl, upd_same, q.inc i2⟩⟩⟩) hm boot_tuple' (DA_cons ha DA_nil he) hg (he := he)
theorem DE_sum {ns : List Int} (hm : X.mg "sum" = none) (ha : DE X a ρ μ (.lst (ns.map .int)) μ1) (hc : X.calm = true := by rfl) (hg : Gl X "sum" := by rfl) (he : starEach [a] X.env = (false, eval a X.env) :: starEach [] X.env := by rfl) : DE X (.Call (.Name "sum" cp) [a] [] pos) ρ μ (.int ns.sum) μ1 :=
  DE_callB (cr_sum hc) (ds := [.lst (ns.map .int)]) (fun B H xs Q S r k => by
    obtain ⟨x, rfl, rx⟩ := reps1 r
    obtain ⟨p, ys, rfl, h, q⟩ := rx
    rw [q.ints] at h
    exact ⟨p, ns, rfl, SqL.of (S.sub _ _ h), k B H _ (Inc.refl B) S rfl⟩) hm boot_sum' (DA_cons ha DA_nil he) hg (he := he)
theorem DE_max {ns : List Int} {m : Int} (hm : X.mg "max" = none) (ha : DE X a ρ μ (.lst (ns.map .int)) μ1) (h1 : m ∈ ns) (h2 : ∀ y ∈ ns, y ≤ m) (hc : X.calm = true := by rfl) (hg : Gl X "max" := by rfl) (he : starEach [a] X.env = (false, eval a X.env) :: starEach [] X.env := by rfl) : DE X (.Call (.Name "max" cp) [a] [] pos) ρ μ (.int m) μ1 :=
  DE_callB (cr_max hc) (ds := [.lst (ns.map .int)]) (fun B H xs Q S r k => by
    obtain ⟨x, rfl, rx⟩ := reps1 r
    obtain ⟨p, ys, rfl, h, q⟩ := rx
    rw [q.ints] at h
    refine ⟨p, ns, rfl, SqL.of (S.sub _ _ h), List.length_pos_of_mem h1, fun m' h3 h4 => ?_⟩
    have e : m' = m := Int.le_antisymm (h2 m' h3) (h4 m h1)
    rw [e]
    exact k B H _ (Inc.refl B) S rfl) hm boot_max' (DA_cons ha DA_nil he) hg (he := he)
theorem DE_any_ {bs : List Bool} (hm : X.mg "any" = none) (ha : DE X a ρ μ (.lst (bs.map .bl)) μ1) (hc : X.calm = true := by rfl) (hg : Gl X "any" := by rfl) (he : starEach [a] X.env = (false, eval a X.env) :: starEach [] X.env := by rfl) : DE X (.Call (.Name "any" cp) [a] [] pos) ρ μ (.bl (bs.any fun z => z)) μ1 :=
  DE_callB (cr_any hc) (ds := [.lst (bs.map .bl)]) (fun B H xs Q S r k => by
    obtain ⟨x, rfl, rx⟩ := reps1 r
    obtain ⟨p, ys, rfl, h, q⟩ := rx
    rw [q.bls] at h
    exact ⟨p, bs, rfl, SqL.of (S.sub _ _ h), k B H _ (Inc.refl B) S rfl⟩) hm boot_any' (DA_cons ha DA_nil he) hg (he := he)
theorem DE_all_ {bs : List Bool} (hm : X.mg "all" = none) (ha : DE X a ρ μ (.lst (bs.map .bl)) μ1) (hc : X.calm = true := by rfl) (hg : Gl X "all" := by rfl) (he : starEach [a] X.env = (false, eval a X.env) :: starEach [] X.env := by rfl) : DE X (.Call (.Name "all" cp) [a] [] pos) ρ μ (.bl (bs.all fun z => z)) μ1 :=
  DE_callB (cr_all hc) (ds := [.lst (bs.map .bl)]) (fun B H xs Q S r k => by
    obtain ⟨x, rfl, rx⟩ := reps1 r
    obtain ⟨p, ys, rfl, h, q⟩ := rx
    rw [q.bls] at h
    exact ⟨p, bs, rfl, SqL.of (S.sub _ _ h), k B H _ (Inc.refl B) S rfl⟩) hm boot_all' (DA_cons ha DA_nil he) hg (he := he)
/-- math.gcd -/
theorem DE_gcd {j : Int} (hm : X.mg "gcd" = some (.builtin "math.gcd")) (ha : DE X a ρ μ (.int i) μ1) (hb : DE X b ρ μ1 (.int j) μ2) (hg : Gl X "gcd" := by rfl) (he : starEach [a, b] X.env = (false, eval a X.env) :: starEach [b] X.env := by rfl) (he2 : starEach [b] X.env = (false, eval b X.env) :: starEach [] X.env := by rfl)
    (hpl : (backTo pos (starEach [b] X.env)).any (·.1) = false := by rfl) : DE X (.Call (.Name "gcd" cp) [a, b] [] pos) ρ μ (.int ((Nat.gcd i.natAbs j.natAbs : Nat) : Int)) μ2 := fun B H σ Q S L k =>
  peW (pe_callBfun cr_gcd hg hm (pa_w (es := [a, b])) (by decide) he hpl) (DA_cons ha (DA_cons hb DA_nil he2) he B H σ _ S L fun B1 H1 xs i1 S1 r1 => by
    obtain ⟨x, y, rfl, rx, ry⟩ := reps2 r1
    exact ⟨i, j, by rw [show x = .int i from rx, show y = .int j from ry], k B1 H1 _ i1 S1 rfl⟩)
end
def rgD (n : Nat) : List D := (List.range n).map fun (k : Nat) => D.int (k : Int)
theorem rgV_reps {K : PySem.W.Frag} {B : Hp} {n : Nat} : Reps K B (rgD n) (rgV 0 n) := by
  have e : rgV 0 n = ((List.range n).map fun (k : Nat) => (k : Int)).map V.int := by
    unfold rgV
    rw [List.map_map]
    have : ((n : Int) - 0).toNat = n := by omega
    rw [this]
    apply List.map_congr_left
    intro k _
    show V.int (0 + (k : Int)) = V.int k
    rw [Int.zero_add]
  have e2 : rgD n = ((List.range n).map fun (k : Nat) => (k : Int)).map D.int := by unfold rgD; rw [List.map_map]; rfl
  rw [e, e2]
  exact Reps.ofInts
section
variable {X : Cx} {e a b : Expr} {ρ : Rho} {μ μ1 : Mu} {pos cp cp2 p2 : Pos}
/-- list(range(n)) -/
theorem DN_listRg {n : Nat} (hm : X.mg "list" = none) (hm2 : X.mg "range" = none) (ha : DE X a ρ μ (.int (n : Int)) μ1) (hl : n ≤ 16777216) (hc : X.calm = true := by rfl) (hg : Gl X "list" := by rfl) (hg2 : Gl X "range" := by rfl)
    (na : starEach [a] X.env = (false, eval a X.env) :: starEach [] X.env := by rfl) (na2 : starEach [.Call (.Name "range" cp2) [a] [] p2] X.env = (false, eval (.Call (.Name "range" cp2) [a] [] p2) X.env) :: starEach [] X.env := by rfl) :
    DN X (.Call (.Name "list" cp) [.Call (.Name "range" cp2) [a] [] p2] [] pos) ρ μ (.lst (rgD n)) μ1 := fun B H σ Q S L k =>
  peW (pe_listRg hc hg hm (prg_1 hg2 hm2 pe_w na) na2) (ha B H σ _ S L fun B1 H1 v i1 S1 r1 => ⟨n, r1, RgOk.of_le (by omega) (by omega) (by omega) (by omega), fun q nq => k B1 _ q i1 (S1.newM nq ⟨_, upd_same, rgV_reps⟩)⟩)
end
end Od
namespace Od
open PySem PySem.Spec PyProof.Rows L2
mutual
def py : D → Option PyData
  | .non => some .none
  | .bl b => some (.bool b)
  | .int i => some (.int i)
  | .tup ds => (pys ds).map .tuple
  | .gtup ds => (pys ds).map .tuple
  | .lst ds => (pys ds).map .list
  | _ => none
def pys : List D → Option (List PyData)
  | [] => some []
  | d :: ds => match py d, pys ds with
    | some p, some ps => some (p :: ps)
    | _, _ => none
end
section
variable {K : PySem.W.Frag} {B H : Hp}
mutual
theorem dp_of (s : Inc B H) : ∀ (d : D) (p : PyData) (v : V), py d = some p → Rep K B d v → Dp K H v p
  | .non, _, _, e, r => by
    simp only [py] at e; cases e; cases (show _ = V.non from r); exact .non
  | .bl b, _, _, e, r => by
    simp only [py] at e; cases e; cases (show _ = V.bl b from r); exact .bl b
  | .int b, _, _, e, r => by
    simp only [py] at e; cases e; cases (show _ = V.int b from r); exact .int b
  | .tup ds, p, _, e, r => by
    simp only [py] at e
    cases h : pys ds with
    | none => rw [h] at e; cases e
    | some ps =>
      rw [h] at e; cases e
      obtain ⟨a, xs, rfl, hb, q⟩ := r
      exact .tup (SqT.of (s _ _ hb)) (dps_of s ds ps xs h q)
  | .gtup ds, p, _, e, r => by
    simp only [py] at e
    cases h : pys ds with
    | none => rw [h] at e; cases e
    | some ps =>
      rw [h] at e; cases e
      obtain ⟨a, xs, o, rfl, hb, _, q⟩ := r
      exact .tup (.inl (.inr ⟨o, s _ _ hb⟩)) (dps_of s ds ps xs h q)
  | .lst ds, p, _, e, r => by
    simp only [py] at e
    cases h : pys ds with
    | none => rw [h] at e; cases e
    | some ps =>
      rw [h] at e; cases e
      obtain ⟨a, xs, rfl, hb, q⟩ := r
      exact .lst (SqL.of (s _ _ hb)) (dps_of s ds ps xs h q)
  | .str _, _, _, e, _ => by simp only [py] at e; cases e
  | .dic _, _, _, e, _ => by simp only [py] at e; cases e
  | .ptr _, _, _, e, _ => by simp only [py] at e; cases e
  | .any, _, _, e, _ => by simp only [py] at e; cases e
  | .grf _ _, _, _, e, _ => by simp only [py] at e; cases e
  | .slst _, _, _, e, _ => by simp only [py] at e; cases e
theorem dps_of (s : Inc B H) : ∀ (ds : List D) (ps : List PyData) (vs : List V), pys ds = some ps → Reps K B ds vs → DpAll K H vs ps
  | [], ps, _, e, r => by
    simp only [pys] at e; cases e; cases r; exact .nil
  | d :: ds, ps, _, e, r => by
    simp only [pys] at e
    obtain ⟨x, q, rfl, r1, r2⟩ := r
    cases h1 : py d with
    | none => rw [h1] at e; cases e
    | some p1 =>
      cases h2 : pys ds with
      | none => rw [h1, h2] at e; cases e
      | some ps2 =>
        rw [h1, h2] at e; cases e
        exact .cons (dp_of s d p1 x h1 r1) (dps_of s ds ps2 q h2 r2)
end
end
def pU (u : U) : PyData := .tuple [.int u.1, .int u.2.1, .int u.2.2]
theorem py_uD (u : U) : py (uD u) = some (pU u) := by simp [py, pys, pU]
theorem pys_map {α : Type} {f : α → D} {g : α → PyData} (h : ∀ a, py (f a) = some (g a)) : ∀ l : List α, pys (l.map f) = some (l.map g)
  | [] => by simp [pys]
  | a :: l => by simp [pys, h a, pys_map h l]
theorem pU_shaped (u : U) : SeqAt.shaped (pU u) = true := by
  simp [SeqAt.shaped, pU, PyData.canLay0, PyData.canLayAll0, PyData.depth, PyData.depthAll]
theorem pU_eqv (u v : U) : PyData.eqv (pU u) (pU v) = decide (u = v) := by
  obtain ⟨a, b, c⟩ := u
  obtain ⟨x, y, z⟩ := v
  simp only [pU, PyData.eqv, PyData.eqvAll, Bool.and_true, Prod.mk.injEq]
  rw [Bool.eq_iff_iff]
  simp
theorem pUs_lay : ∀ us : List U, PyData.canLayAll0 (us.map pU) = true
  | [] => by simp [PyData.canLayAll0]
  | u :: us => by simp [PyData.canLayAll0, pUs_lay us, pU, PyData.canLay0]
theorem pUs_depth : ∀ us : List U, PyData.depthAll (us.map pU) ≤ 1
  | [] => by simp [PyData.depthAll]
  | u :: us => by
    have := pUs_depth us
    simp only [List.map_cons, PyData.depthAll, pU, PyData.depth]
    simp only [Nat.max_le]
    exact ⟨by simp, this⟩
theorem pUs_shapedL (us : List U) : SeqAt.shaped (.list (us.map pU)) = true := by
  have := pUs_depth us
  simp only [SeqAt.shaped, PyData.canLay0, pUs_lay, PyData.depth, Bool.true_and]
  exact decide_eq_true (by omega)
theorem pUs_shapedT (us : List U) : SeqAt.shaped (.tuple (us.map pU)) = true := by
  have := pUs_depth us
  simp only [SeqAt.shaped, PyData.canLay0, pUs_lay, PyData.depth, Bool.true_and]
  exact decide_eq_true (by omega)
theorem pUs_any (u : U) (us : List U) : ((us.map pU).any fun z => PyData.eqv z (pU u)) = decide (u ∈ us) := by
  induction us with
  | nil => simp
  | cons a us ih =>
    simp only [List.map_cons, List.any_cons, ih, pU_eqv]
    rw [Bool.eq_iff_iff]
    simp
    exact ⟨fun h => h.imp Eq.symm id, fun h => h.imp Eq.symm id⟩
section
variable {X : Cx} {e a b : Expr} {es : List Expr} {ρ : Rho} {μ μ1 μ2 μ3 : Mu} {d d1 d2 c : D} {pos : Pos} {ds : List D} {i : Int} {u v : U} {us : List U} {p : Addr}
theorem vEqD {K : PySem.W.Frag} {p q : PyData} (h1 : py d1 = some p) (h2 : py d2 = some q) (s1 : SeqAt.shaped p = true) (s2 : SeqAt.shaped q = true) : VOp K (rEqD K) d1 d2 μ (.bl (PyData.eqv p q)) μ := fun B H x y Q S r1 r2 k =>
  ⟨p, q, dp_of S.sub _ _ _ h1 r1, dp_of S.sub _ _ _ h2 r2, s1, s2, k B H _ (Inc.refl B) S rfl⟩
theorem vNeD {K : PySem.W.Frag} {p q : PyData} (h1 : py d1 = some p) (h2 : py d2 = some q) (s1 : SeqAt.shaped p = true) (s2 : SeqAt.shaped q = true) : VOp K (rNeD K) d1 d2 μ (.bl (!PyData.eqv p q)) μ := fun B H x y Q S r1 r2 k =>
  ⟨p, q, dp_of S.sub _ _ _ h1 r1, dp_of S.sub _ _ _ h2 r2, s1, s2, k B H _ (Inc.refl B) S rfl⟩
theorem vEqU {K : PySem.W.Frag} : VOp K (rEqD K) (uD u) (uD v) μ (.bl (decide (u = v))) μ := by
  rw [← pU_eqv]
  exact vEqD (py_uD u) (py_uD v) (pU_shaped u) (pU_shaped v)
theorem vNeU {K : PySem.W.Frag} : VOp K (rNeD K) (uD u) (uD v) μ (.bl (!decide (u = v))) μ := by
  rw [← pU_eqv]
  exact vNeD (py_uD u) (py_uD v) (pU_shaped u) (pU_shaped v)
theorem DE_eqU (hu : X.A.units + 64 < cLine) (ha : DE X a ρ μ (uD u) μ1) (hb : DE X b ρ μ1 (uD v) μ2) : DE X (.Compare a [.Eq] [b] pos) ρ μ (.bl (decide (u = v))) μ2 := DE_cmp (op_eqD hu) vEqU ha hb
theorem DT_eqU (hu : X.A.units + 64 < cLine) (ha : DE X a ρ μ (uD u) μ1) (hb : DE X b ρ μ1 (uD v) μ2) : DT X (.Compare a [.Eq] [b] pos) ρ μ (decide (u = v)) μ2 := DT_cmp (op_eqD hu) vEqU ha hb
theorem DE_neU (hu : X.A.units + 64 < cLine) (ha : DE X a ρ μ (uD u) μ1) (hb : DE X b ρ μ1 (uD v) μ2) : DE X (.Compare a [.NotEq] [b] pos) ρ μ (.bl (!decide (u = v))) μ2 := DE_cmp (op_neD hu) vNeU ha hb
theorem DT_neU (hu : X.A.units + 64 < cLine) (ha : DE X a ρ μ (uD u) μ1) (hb : DE X b ρ μ1 (uD v) μ2) : DT X (.Compare a [.NotEq] [b] pos) ρ μ (!decide (u = v)) μ2 := DT_cmp (op_neD hu) vNeU ha hb
/-- x in a list or a tuple of data -/
def rInS (K : PySem.W.Frag) (neg : Bool) : R2 := fun x y H Q => ∃ d ds, Dp K H x d ∧ (Dp K H y (.list ds) ∨ Dp K H y (.tuple ds)) ∧ SeqAt.shaped d = true ∧ PyData.canLayAll0 ds = true ∧ Q (.bl (if neg then !ds.any fun z => PyData.eqv z d else ds.any fun z => PyData.eqv z d)) H
theorem op_inS (hu : X.A.units + 65 < cLine) : OpR X (compareOp .In) (rInS X.K false) := by
  intro pins s σ H x y v u Q I rx ry h
  obtain ⟨d, ds, hd, he | he, sd, se, q⟩ := h
  all_goals
    obtain ⟨as, r1⟩ := Dp.reads I d x v hd rx
    obtain ⟨bs, r2⟩ := Dp.reads I _ y u he ry
  · exact SeqAt.in_list_reads r2 r1 se (SeqAt.canLay_of_shaped sd) (room_in_shaped sd hu) ⟨.bl _, H, I, rfl, q⟩
  · exact SeqAt.in_tuple_reads r2 r1 se (SeqAt.canLay_of_shaped sd) (room_in_shaped sd hu) ⟨.bl _, H, I, rfl, q⟩
theorem op_notInS (hu : X.A.units + 65 < cLine) : OpR X (compareOp .NotIn) (rInS X.K true) := by
  intro pins s σ H x y v u Q I rx ry h
  obtain ⟨d, ds, hd, he | he, sd, se, q⟩ := h
  all_goals
    obtain ⟨as, r1⟩ := Dp.reads I d x v hd rx
    obtain ⟨bs, r2⟩ := Dp.reads I _ y u he ry
  · exact SeqAt.notIn_list_reads r2 r1 se (SeqAt.canLay_of_shaped sd) (room_in_shaped sd hu) ⟨.bl _, H, I, rfl, q⟩
  · exact SeqAt.notIn_tuple_reads r2 r1 se (SeqAt.canLay_of_shaped sd) (room_in_shaped sd hu) ⟨.bl _, H, I, rfl, q⟩
theorem dp_seq {K : PySem.W.Frag} {B H : Hp} {y : V} {ps : List PyData} (S : Sat K B H μ) (hd : SeqD μ d2 ds) (hp : pys ds = some ps) (r : Rep K B d2 y) : Dp K H y (.list ps) ∨ Dp K H y (.tuple ps) := by
  obtain ⟨p, xs, rfl, h | h, q⟩ := hd.at S r
  · exact .inl (.lst h (dps_of S.sub ds ps xs hp q))
  · exact .inr (.tup h (dps_of S.sub ds ps xs hp q))
theorem vInU {K : PySem.W.Frag} {neg : Bool} (hd : SeqD μ d2 (us.map uD)) : VOp K (rInS K neg) (uD u) d2 μ (.bl (if neg then !decide (u ∈ us) else decide (u ∈ us))) μ := fun B H x y Q S r1 r2 k =>
  ⟨pU u, us.map pU, dp_of S.sub _ _ _ (py_uD u) r1, dp_seq S hd (pys_map py_uD us) r2, pU_shaped u, pUs_lay us, by
    rw [pUs_any]
    exact k B H _ (Inc.refl B) S rfl⟩
theorem DE_inU (hu : X.A.units + 65 < cLine) (ha : DE X a ρ μ (uD u) μ1) (hb : DE X b ρ μ1 d2 μ2) (hd : SeqD μ2 d2 (us.map uD)) (hm : behindInMarks .In b = false := by rfl) : DE X (.Compare a [.In] [b] pos) ρ μ (.bl (decide (u ∈ us))) μ2 := DE_cmp (op_inS hu) (vInU (neg := false) hd) ha hb hm
theorem DT_inU (hu : X.A.units + 65 < cLine) (ha : DE X a ρ μ (uD u) μ1) (hb : DE X b ρ μ1 d2 μ2) (hd : SeqD μ2 d2 (us.map uD)) (hm : behindInMarks .In b = false := by rfl) : DT X (.Compare a [.In] [b] pos) ρ μ (decide (u ∈ us)) μ2 := DT_cmp (op_inS hu) (vInU (neg := false) hd) ha hb hm
theorem DT_notinU (hu : X.A.units + 65 < cLine) (ha : DE X a ρ μ (uD u) μ1) (hb : DE X b ρ μ1 d2 μ2) (hd : SeqD μ2 d2 (us.map uD)) (hm : behindInMarks .NotIn b = false := by rfl) : DT X (.Compare a [.NotIn] [b] pos) ρ μ (!decide (u ∈ us)) μ2 := DT_cmp (op_notInS hu) (vInU (neg := true) hd) ha hb hm
theorem DE_notinU (hu : X.A.units + 65 < cLine) (ha : DE X a ρ μ (uD u) μ1) (hb : DE X b ρ μ1 d2 μ2) (hd : SeqD μ2 d2 (us.map uD)) (hm : behindInMarks .NotIn b = false := by rfl) : DE X (.Compare a [.NotIn] [b] pos) ρ μ (.bl (!decide (u ∈ us))) μ2 := DE_cmp (op_notInS hu) (vInU (neg := true) hd) ha hb hm
variable {apos cpos : Pos} {n : Nat}
theorem DE_append (n : Nat) (ha : DE X a ρ μ (.ptr p) μ1) (hb : DE X b ρ μ1 d μ2) (hn : μ2[n]? = some (p, .lst ds) := by rfl) (hl : ds.length < 16777216) (hbase : attributeBase a "append" X.env (eval a X.env) = eval a X.env := by rfl)
    (hfew : ((backTo cpos (starEach [b] X.env)).all (fun x => !x.1) && (backToKw cpos (keywordEach [] X.env)).all (fun x => x.1.isSome)
      && decide (([b] : List Expr).length + ([] : List Keyword).length + (if ([] : List Keyword).isEmpty then 0 else 1) < 30)) = true := by rfl)
    (hline : (apos.endLine == cpos.line) = true := by rfl) (hs : starEach [b] X.env = (false, eval b X.env) :: starEach [] X.env := by rfl) (hplain : (backTo cpos (starEach [] X.env)).any (·.1) = false := by rfl)
    (hn1 : ∃ es, μ1[n]? = some (p, D.lst es) := by exact ⟨_, rfl⟩) :
    DE X (.Call (.Attribute a "append" apos) [b] [] cpos) ρ μ .non (μ2.set n (p, .lst (ds ++ [d]))) := fun B H σ Q S L k => by
  refine peW (pe_bm PySem.F.plainAttrs_list PySem.F.slot_list_append PySem.F.type_list_append mt_append pe_w (pa_w (es := [b])) hbase hfew hline hs hplain) (ha B H σ _ S L fun B1 H1 x i1 S1 r1 => ?_)
  cases (show x = .ref p from r1)
  obtain ⟨es, hn1⟩ := hn1
  obtain ⟨ys, h1, _⟩ := own_lst S1 hn1
  refine ⟨.inl ⟨rfl, _, SqL.of h1⟩, DA_cons hb DA_nil hs B1 H1 σ _ S1 (L.inc i1) fun B2 H2 xs i2 S2 r2 => ?_⟩
  obtain ⟨y, rfl, ry⟩ := reps1 r2
  obtain ⟨zs, h2, q2⟩ := own_lst S2 hn
  refine ⟨p, zs, y, rfl, rfl, h2, by rw [q2.length, sizeLine_eq]; exact hl, k B2 _ _ (i1.trans i2) (S2.write hn ⟨_, upd_same, q2.append (Reps.one ry)⟩) rfl⟩
theorem DE_extend (n : Nat) (ha : DE X a ρ μ (.ptr p) μ1) (hb : DE X b ρ μ1 (.lst es') μ2) (hn : μ2[n]? = some (p, .lst ds) := by rfl) (hl : ds.length + es'.length ≤ 16777216) (hbase : attributeBase a "extend" X.env (eval a X.env) = eval a X.env := by rfl)
    (hfew : ((backTo cpos (starEach [b] X.env)).all (fun x => !x.1) && (backToKw cpos (keywordEach [] X.env)).all (fun x => x.1.isSome)
      && decide (([b] : List Expr).length + ([] : List Keyword).length + (if ([] : List Keyword).isEmpty then 0 else 1) < 30)) = true := by rfl)
    (hline : (apos.endLine == cpos.line) = true := by rfl) (hs : starEach [b] X.env = (false, eval b X.env) :: starEach [] X.env := by rfl) (hplain : (backTo cpos (starEach [] X.env)).any (·.1) = false := by rfl)
    (hn1 : ∃ es, μ1[n]? = some (p, D.lst es) := by exact ⟨_, rfl⟩) :
    DE X (.Call (.Attribute a "extend" apos) [b] [] cpos) ρ μ .non (μ2.set n (p, .lst (ds ++ es'))) := fun B H σ Q S L k => by
  refine peW (pe_bm PySem.F.plainAttrs_list PySem.F.slot_list_extend PySem.F.type_list_extend mt_extend pe_w (pa_w (es := [b])) hbase hfew hline hs hplain) (ha B H σ _ S L fun B1 H1 x i1 S1 r1 => ?_)
  cases (show x = .ref p from r1)
  obtain ⟨es, hn1⟩ := hn1
  obtain ⟨ys, h1, _⟩ := own_lst S1 hn1
  refine ⟨.inl ⟨rfl, _, SqL.of h1⟩, DA_cons hb DA_nil hs B1 H1 σ _ S1 (L.inc i1) fun B2 H2 xs i2 S2 r2 => ?_⟩
  obtain ⟨y, rfl, b', zs', rfl, eb, qb⟩ := reps1 r2
  obtain ⟨zs, h2, q2⟩ := own_lst S2 hn
  refine ⟨p, b', zs, zs', rfl, rfl, h2, S2.sub _ _ eb, by rw [q2.length, qb.length, sizeLine_eq]; exact hl, k B2 _ _ (i1.trans i2) (S2.write hn ⟨_, upd_same, q2.append qb⟩) rfl⟩
theorem DE_pop (n : Nat) (ha : DE X a ρ μ (.ptr p) μ1) (hn : μ1[n]? = some (p, .lst ds) := by rfl) (hl : ds[ds.length - 1]? = some d) (hbase : attributeBase a "pop" X.env (eval a X.env) = eval a X.env := by rfl) (hline : (apos.endLine == cpos.line) = true := by rfl) :
    DE X (.Call (.Attribute a "pop" apos) [] [] cpos) ρ μ d (μ1.set n (p, .lst ds.dropLast)) := fun B H σ Q S L k => by
  refine peW (pe_bm0 PySem.F.plainAttrs_list PySem.F.slot_list_pop PySem.F.type_list_pop mt_pop pe_w hbase hline) (ha B H σ _ S L fun B1 H1 x i1 S1 r1 => ?_)
  cases (show x = .ref p from r1)
  obtain ⟨ys, h1, q1⟩ := own_lst S1 hn
  obtain ⟨y, h2, q2⟩ := q1.get hl
  refine ⟨.inl ⟨rfl, _, SqL.of h1⟩, p, ys, y, rfl, rfl, h1, by rw [q1.length]; exact h2, k B1 _ _ i1 (S1.write hn ⟨_, upd_same, q1.dropLast⟩) q2⟩
/-- a list that stands as it is: frozen, or to be written -/
def LstD (μ : Mu) (d : D) (ds : List D) : Prop := d = .lst ds ∨ ∃ (p : Addr) (n : Nat), d = .ptr p ∧ μ[n]? = some (p, D.lst ds)
theorem LstD.li : LstD μ (.lst ds) ds := .inl rfl
theorem LstD.pt (n : Nat) (h : μ[n]? = some (p, .lst ds) := by rfl) : LstD μ (.ptr p) ds := .inr ⟨p, n, rfl, h⟩
theorem LstD.at {K : PySem.W.Frag} {B H : Hp} {x : V} (h : LstD μ d ds) (S : Sat K B H μ) (r : Rep K B d x) : ∃ p xs, x = .ref p ∧ H p = some (.lst xs) ∧ Reps K B ds xs := by
  rcases h with rfl | ⟨p, n, rfl, hn⟩
  · obtain ⟨p, xs, e, h, q⟩ := r
    exact ⟨p, xs, e, S.sub _ _ h, q⟩
  · obtain ⟨xs, h, q⟩ := own_lst S hn
    exact ⟨p, xs, r, h, q⟩
theorem DN_cat {es' : List D} (ha : DE X a ρ μ d1 μ1) (hb : DE X b ρ μ1 d2 μ2) (h1 : LstD μ2 d1 ds) (h2 : LstD μ2 d2 es') (hl : ds.length + es'.length ≤ 16777216) : DN X (.BinOp a .Add b pos) ρ μ (.lst (ds ++ es')) μ2 :=
  DN_op op_cat (fun B H x y Q S r1 r2 k => by
    obtain ⟨p, xs, rfl, e1, q1⟩ := h1.at S r1
    obtain ⟨q, ys, rfl, e2, q2⟩ := h2.at S r2
    exact ⟨p, q, xs, ys, rfl, rfl, e1, e2, by rw [q1.length, q2.length, sizeLine_eq]; exact hl, fun l nl => k B _ l (Inc.refl B) (S.newM nl ⟨_, upd_same, q1.append q2⟩)⟩) ha hb
theorem cutV_nat {α : Type} (xs : List V) (n : Nat) : cutV xs none (some (n : Int)) = xs.take n := by
  unfold cutV
  rw [HT.sIx_none, HT.sIx_nat, Nat.sub_zero, List.drop_zero, List.take_eq_take_iff]
  omega
theorem cutV_from (xs : List V) (n : Nat) : cutV xs (some (n : Int)) none = xs.drop n := by
  unfold cutV
  rw [HT.sIx_none, HT.sIx_nat]
  by_cases h : n ≤ xs.length
  · rw [Nat.min_eq_left h]
    exact List.take_of_length_le (by simp)
  · rw [Nat.min_eq_right (by omega), List.drop_length, List.drop_eq_nil_of_le (by omega)]
    simp
variable {lo hi : Expr} {p2 : Pos}
/-- xs[:n] -/
theorem DN_take {m : Nat} (ha : DE X a ρ μ d1 μ1) (hb : DE X hi ρ μ1 (.int (m : Int)) μ2) (h1 : LstD μ2 d1 ds) : DN X (.Subscript a (.Slice none (some hi) none p2) pos) ρ μ (.lst (ds.take m)) μ2 := fun B H σ Q S L k =>
  peW (pe_slice sl_list pe_w po_none (po_some pe_w)) (ha B H σ _ S L fun B1 H1 x i1 S1 r1 => hb B1 H1 σ _ S1 (L.inc i1) fun B2 H2 y i2 S2 r2 => by
    obtain ⟨p, xs, rfl, e1, q1⟩ := h1.at S2 (r1.inc i2)
    refine ⟨m, r2, p, xs, rfl, SqL.of e1, fun l nl => k B2 _ l (i1.trans i2) (S2.newM nl ⟨_, upd_same, ?_⟩)⟩
    rw [cutV_nat (α := Unit)]
    exact q1.take m)
/-- xs[n:] -/
theorem DN_drop {m : Nat} (ha : DE X a ρ μ d1 μ1) (hb : DE X lo ρ μ1 (.int (m : Int)) μ2) (h1 : LstD μ2 d1 ds) : DN X (.Subscript a (.Slice (some lo) none none p2) pos) ρ μ (.lst (ds.drop m)) μ2 := fun B H σ Q S L k =>
  peW (pe_slice sl_list pe_w (po_some pe_w) po_none) (ha B H σ _ S L fun B1 H1 x i1 S1 r1 => hb B1 H1 σ _ S1 (L.inc i1) fun B2 H2 y i2 S2 r2 => by
    obtain ⟨p, xs, rfl, e1, q1⟩ := h1.at S2 (r1.inc i2)
    refine ⟨m, r2, p, xs, rfl, SqL.of e1, fun l nl => k B2 _ l (i1.trans i2) (S2.newM nl ⟨_, upd_same, ?_⟩)⟩
    rw [cutV_from]
    exact q1.drop m)
/-- u[:2] of an unknown: its place -/
theorem DE_place (ha : DE X a ρ μ (uD u) μ1) (hb : DE X hi ρ μ1 (.int 2) μ2) : DE X (.Subscript a (.Slice none (some hi) none p2) pos) ρ μ (.tup [.int u.1, .int u.2.1]) μ2 := fun B H σ Q S L k =>
  peW (pe_slice sl_tup pe_w po_none (po_some pe_w)) (ha B H σ _ S L fun B1 H1 x i1 S1 r1 => hb B1 H1 σ _ S1 (L.inc i1) fun B2 H2 y i2 S2 r2 => by
    obtain ⟨p, xs, rfl, e1, q1⟩ := r1
    have q1' : Reps X.K B1 ([u.1, u.2.1, u.2.2].map D.int) xs := q1
    have ex := q1'.ints
    subst ex
    refine ⟨2, r2, p, _, rfl, SqT.of (S2.sub _ _ (i2 _ _ e1)), ?_⟩
    have ec : cutV ([u.1, u.2.1, u.2.2].map V.int) none (some 2) = [V.int u.1, V.int u.2.1] := by
      have := cutV_nat (α := Unit) ([u.1, u.2.1, u.2.2].map V.int) 2
      exact this
    rw [ec]
    refine ⟨fun z => (by
      have z2 : HT.sIx 3 3 (some ((2 : Nat) : Int)) = 3 := z.2
      rw [HT.sIx_nat] at z2
      exact absurd z2 (by decide)), fun l nl => ?_⟩
    obtain ⟨i3, S3⟩ := S2.newB (o := .tup [V.int u.1, V.int u.2.1]) nl
    exact k _ _ _ ((i1.trans i2).trans i3) S3 ⟨l, _, rfl, upd_same, ⟨_, _, rfl, rfl, _, _, rfl, rfl, rfl⟩⟩)
variable {C : Addr} {f : Str}
theorem DV_fld (ha : DV X a ρ (.grf C d)) (hc : Cls X.K C) (hn : NoAttr X.K C "procedures") (hb : attributeBase a "procedures" X.env (eval a X.env) = eval a X.env := by rfl) : DV X (.Attribute a "procedures" pos) ρ d := fun B σ L => by
  obtain ⟨x, r1, f1⟩ := ha B σ L
  obtain ⟨p, dx, y, rfl, e1, ry⟩ := r1
  exact ⟨y, ry, fun B' H' Q w s q => peW (pe_fld pe_w hb) (f1 B' H' _ w s ⟨p, C, dx, _, y, rfl, s _ _ (w.i _ _ _ _ e1), hc, hn, rfl, q⟩)⟩
end
end Od
namespace Od
open PySem PySem.Spec PyProof.Rows L2
inductive Out where
  | nx (ρ : Rho) (μ : Mu) | rt (d : D) (μ : Mu) | bk (ρ : Rho) (μ : Mu) | ct (ρ : Rho) (μ : Mu)
def OutK (K : PySem.W.Frag) (B : Hp) (Dn : Ends) : Out → Prop
  | .nx ρ μ => ∀ (B' H' : Hp) (σ' : L2.St), Inc B B' → Sat K B' H' μ → Slots K B' ρ σ' → Dn.nx σ' H'
  | .rt d μ => ∀ (B' H' : Hp) (v : V), Inc B B' → Sat K B' H' μ → Rep K B' d v → Dn.rt v H'
  | .bk ρ μ => ∀ (B' H' : Hp) (σ' : L2.St), Inc B B' → Sat K B' H' μ → Slots K B' ρ σ' → Dn.bk σ' H'
  | .ct ρ μ => ∀ (B' H' : Hp) (σ' : L2.St), Inc B B' → Sat K B' H' μ → Slots K B' ρ σ' → Dn.ct σ' H'
theorem OutK.inc {K : PySem.W.Frag} {B B' : Hp} {Dn : Ends} (i : Inc B B') : ∀ {o : Out}, OutK K B Dn o → OutK K B' Dn o
  | .nx _ _, h => fun B2 H2 σ j => h B2 H2 σ (i.trans j)
  | .rt _ _, h => fun B2 H2 σ j => h B2 H2 σ (i.trans j)
  | .bk _ _, h => fun B2 H2 σ j => h B2 H2 σ (i.trans j)
  | .ct _ _, h => fun B2 H2 σ j => h B2 H2 σ (i.trans j)
section
variable (X : Cx)
def DS (st : Stmt) (ρ : Rho) (μ : Mu) (P : Out → Prop) : Prop := ∀ (B H : Hp) (σ : L2.St) (Dn : Ends), Sat X.K B H μ → Slots X.K B ρ σ → (∀ o, P o → OutK X.K B Dn o) → wS X st Dn σ H
def DSs (sts : List Stmt) (ρ : Rho) (μ : Mu) (P : Out → Prop) : Prop := ∀ (B H : Hp) (σ : L2.St) (Dn : Ends), Sat X.K B H μ → Slots X.K B ρ σ → (∀ o, P o → OutK X.K B Dn o) → wSs X sts Dn σ H
def Seq (rest : List Stmt) (P : Out → Prop) : Out → Prop
  | .nx ρ μ => DSs X rest ρ μ P
  | o => P o
/-- a target takes d: the slots at is -/
def DG (tg : Expr) (d : D) (ρ ρ' : Rho) (is : List Nat) : Prop := ∀ (B H : Hp) (σ : L2.St) (v : V) (μ : Mu) (Q : L2.St → Hp → Prop), Rep X.K B d v → Slots X.K B ρ σ → Sat X.K B H μ →
  (∀ σ', Slots X.K B ρ' σ' → σ'.length = σ.length → (∀ j, j ∉ is → σ'[j]? = σ[j]?) → Q σ' H) → wG X tg v σ H Q
def DGs (tgs : List Expr) (ds : List D) (ρ ρ' : Rho) (is : List Nat) : Prop := ∀ (B H : Hp) (σ : L2.St) (vs : List V) (μ : Mu) (Q : L2.St → Hp → Prop), Reps X.K B ds vs → Slots X.K B ρ σ → Sat X.K B H μ →
  (∀ σ', Slots X.K B ρ' σ' → σ'.length = σ.length → (∀ j, j ∉ is → σ'[j]? = σ[j]?) → Q σ' H) →
    ∀ (pins : List (Addr × Obj)) (s : Shared) (us : List Value), Inv X pins σ H s → Vals vs us → wpAny (model X.prog X.w) X.A (assignInOrder ((assignEach tgs X.env).map (·.2)) us) (fun _ s' => ∃ σ' H', Inv X pins σ' H' s' ∧ Q σ' H') X.xe s
end
section
variable {X : Cx} {e a b c tg iter : Expr} {es tgs : List Expr} {st : Stmt} {rest sts : List Stmt} {ρ ρ' ρ1 ρ2 : Rho} {μ μ1 μ2 μ3 : Mu} {d d1 d2 : D} {pos : Pos} {ds : List D} {P P' : Out → Prop} {x y : Str} {px py' : Pos}
theorem DSs_nil (h : P (.nx ρ μ)) : DSs X [] ρ μ P := fun B H σ Dn S L k => pssW pss_nil (k _ h B H σ (Inc.refl B) S L)
theorem DSs_cons (h : DS X st ρ μ (Seq X rest P)) : DSs X (st :: rest) ρ μ P := fun B H σ Dn S L k => by
  refine pssW (pss_cons ps_w pss_w) (h B H σ { Dn with nx := wSs X rest Dn } S L fun o p => ?_)
  cases o with
  | nx ρ' μ' => exact fun B' H' σ' i S' L' => (show DSs X rest ρ' μ' P from p) B' H' σ' Dn S' L' fun o q => (k o q).inc i
  | rt d μ' => exact k (.rt d μ') p
  | bk ρ' μ' => exact k (.bk ρ' μ') p
  | ct ρ' μ' => exact k (.ct ρ' μ') p
theorem DSs.imp (h : DSs X sts ρ μ P) (f : ∀ o, P o → P' o) : DSs X sts ρ μ P' := fun B H σ Dn S L k => h B H σ Dn S L fun o p => k o (f o p)
/-- a slot's owned thing stays as it is from now on -/
theorem DSs_freeze (i : Nat) {p : Addr} (μa : Mu) {μb : Mu} (hr : ρ[i]? = some (some (.ptr p)) := by rfl) (h : DSs X sts (ρ.set i (some d)) (μa ++ μb) P) : DSs X sts ρ (μa ++ (p, d) :: μb) P := fun B H σ Dn S L k => by
  obtain ⟨B', i', S', r⟩ := S.freeze
  exact h B' H σ Dn S' ((L.inc i').reput hr fun v rv => by cases (show v = .ref p from rv); exact r) fun o q => (k o q).inc i'
theorem DSs_forget (i : Nat) (h : DSs X sts (ρ.set i none) μ P) : DSs X sts ρ μ P := fun B H σ Dn S L k => h B H σ Dn S (L.forget i) k
theorem DSs_drop (h : DSs X sts ρ μ1 P) (s : μ1.Sublist μ) : DSs X sts ρ μ P := fun B H σ Dn S L k => h B H σ Dn (S.sublist s) L k
theorem DS_set (i : Nat) (he : DE X e ρ μ d μ1) (h : P (.nx (ρ.set i (some d)) μ1)) (hN : X.N.Nodup) (hi : X.N[i]? = some x := by rfl) (hx : Loc X.env.scope x := by first | exact Or.inl rfl | exact Or.inr rfl) (hs : swapsWith e (some (.Name x px)) pos.line X.env = pure false := by rfl)
    (hf : X.fn x = true ∨ X.env.scope.names.lookup x = some .local := by first | exact Or.inl rfl | exact Or.inr rfl) : DS X (.Assign [.Name x px] e pos) ρ μ P := fun B H σ Dn S L k =>
  psW (ps_set hN hi hx pe_w hs hf) (he B H σ _ S L fun B1 H1 v i1 S1 r1 => k _ h B1 H1 _ i1 S1 ((L.inc i1).set r1 i))
theorem DS_setN (i : Nat) (he : DN X e ρ μ d μ1) (h : ∀ p : Addr, P (.nx (ρ.set i (some (.ptr p))) ((p, d) :: μ1))) (hN : X.N.Nodup) (hi : X.N[i]? = some x := by rfl) (hx : Loc X.env.scope x := by first | exact Or.inl rfl | exact Or.inr rfl) (hs : swapsWith e (some (.Name x px)) pos.line X.env = pure false := by rfl)
    (hf : X.fn x = true ∨ X.env.scope.names.lookup x = some .local := by first | exact Or.inl rfl | exact Or.inr rfl) : DS X (.Assign [.Name x px] e pos) ρ μ P := fun B H σ Dn S L k =>
  psW (ps_set hN hi hx pe_w hs hf) (he B H σ _ S L fun B1 H1 p i1 S1 => k _ (h p) B1 H1 _ i1 S1 ((L.inc i1).set (d := .ptr p) (v := .ref p) rfl i))
theorem DS_expr (he : DE X e ρ μ d μ1) (h : P (.nx ρ μ1)) (hs : swapsWith e none pos.line X.env = pure false := by rfl) : DS X (.Expr e pos) ρ μ P := fun B H σ Dn S L k =>
  psW (ps_expr pe_w hs) (he B H σ _ S L fun B1 H1 v i1 S1 r1 => k _ h B1 H1 σ i1 S1 (L.inc i1))
theorem DS_ret (he : DE X e ρ μ d μ1) (h : P (.rt d μ1)) : DS X (.Return (some e) pos) ρ μ P := fun B H σ Dn S L k =>
  psW (ps_ret pe_w) (he B H σ _ S L fun B1 H1 v i1 S1 r1 => k _ h B1 H1 v i1 S1 r1)
theorem DS_retN (h : P (.rt .non μ)) : DS X (.Return none pos) ρ μ P := fun B H σ Dn S L k => psW ps_retN (k _ h B H .non (Inc.refl B) S rfl)
theorem DS_if {t : Bool} {sa sb : List Stmt} (hc : DT X c ρ μ t μ1) (ha : t = true → DSs X sa ρ μ1 P) (hb : t = false → DSs X sb ρ μ1 P) : DS X (.If c sa sb pos) ρ μ P := fun B H σ Dn S L k =>
  psW (ps_if pt_w pss_w pss_w) (hc B H σ _ S L fun B1 H1 i1 S1 => by
    cases t with
    | true => exact ha rfl B1 H1 σ Dn S1 (L.inc i1) fun o p => (k o p).inc i1
    | false => exact hb rfl B1 H1 σ Dn S1 (L.inc i1) fun o p => (k o p).inc i1)
theorem DS_brk (h : P (.bk ρ μ)) : DS X (.Break pos) ρ μ P := fun B H σ Dn S L k => psW ps_break (k _ h B H σ (Inc.refl B) S L)
theorem DS_pass (h : P (.nx ρ μ)) : DS X (.Pass pos) ρ μ P := fun B H σ Dn S L k => psW ps_pass (k _ h B H σ (Inc.refl B) S L)
theorem DG_name (i : Nat) (hN : X.N.Nodup) (hi : X.N[i]? = some x := by rfl) (hx : Loc X.env.scope x := by first | exact Or.inl rfl | exact Or.inr rfl)
    (hf : X.fn x = true ∨ X.env.scope.names.lookup x = some .local := by first | exact Or.inl rfl | exact Or.inr rfl) : DG X (.Name x px) d ρ (ρ.set i (some d)) [i] := fun B H σ v μ Q r L S q =>
  pgW (pg_name hN hi hx hf) (q _ (L.set r i) (by simp) fun j hj => List.getElem?_set_ne (by simp at hj; exact fun z => hj z.symm))
theorem DGs_nil : DGs X [] [] ρ ρ [] := fun B H σ vs μ Q r L S q pins s us I rv => by
  cases r
  exact pgs_nil.run pins s σ H [] us Q I rv ⟨rfl, q σ L rfl fun _ _ => rfl⟩
theorem DGs_cons {is js : List Nat} (h1 : DG X tg d ρ ρ1 is) (h2 : DGs X tgs ds ρ1 ρ2 js) (hs : (assignEach (tg :: tgs) X.env).map (·.2) = assign tg X.env :: (assignEach tgs X.env).map (·.2) := by rfl) : DGs X (tg :: tgs) (d :: ds) ρ ρ2 (is ++ js) := fun B H σ vs μ Q r L S q pins s us I rv => by
  obtain ⟨v, vr, rfl, r1, r2⟩ := r
  cases rv with
  | cons u1 u2 =>
    rw [hs]
    have g := h1 B H σ v μ (fun σ1 H1 => ∀ (pins : List (Addr × Obj)) (s : Shared) (us : List Value), Inv X pins σ1 H1 s → Vals vr us → wpAny (model X.prog X.w) X.A (assignInOrder ((assignEach tgs X.env).map (·.2)) us) (fun _ s' => ∃ σ' H', Inv X pins σ' H' s' ∧ Q σ' H') X.xe s) r1 L S
      fun σ1 L1 e1 k1 => h2 B H σ1 vr μ Q r2 L1 S fun σ2 L2 e2 k2 => q σ2 L2 (e2.trans e1) fun j hj => by
        rw [List.mem_append, not_or] at hj
        exact (k2 j hj.2).trans (k1 j hj.1)
    refine assignInOrder_cons (thn (pg_w.run pins s _ _ _ _ _ I u1 g) fun _ s1 ⟨σ1, H1, I1, q1⟩ => ?_)
    exact q1 pins s1 _ I1 u2
/-- (x, y, ..) = a tuple -/
theorem DG_tup {kk : Nat} {is : List Nat} (h : DGs X tgs ds ρ ρ' is) (hc : X.calm = true := by rfl) (hn : (assignEach tgs X.env).length = ds.length := by rfl) (hst : (assignEach tgs X.env).findIdx? (·.1) = none := by rfl) : DG X (.Tuple tgs kk px) (.tup ds) ρ ρ' is := fun B H σ v μ Q r L S q => by
  obtain ⟨a, xs, rfl, e1, r1⟩ := r
  have pgs : PGs X tgs (fun vs σ H Q => ∀ (pins : List (Addr × Obj)) (s : Shared) (us : List Value), Inv X pins σ H s → Vals vs us → wpAny (model X.prog X.w) X.A (assignInOrder ((assignEach tgs X.env).map (·.2)) us) (fun _ s' => ∃ σ' H', Inv X pins σ' H' s' ∧ Q σ' H') X.xe s) :=
    ⟨fun pins s σ H vs us Q I r h => h pins s us I r⟩
  exact pgW (pg_tup (n := ds.length) hc pgs hn hst) ⟨a, xs, rfl, SqT.of (S.sub _ _ e1), r1.length, h B H σ xs μ Q r1 L S q⟩
theorem DS_asg {is : List Nat} (he : DE X e ρ μ d μ1) (hg : DG X tg d ρ ρ' is) (h : P (.nx ρ' μ1)) (hs : swapsWithSole [tg] e pos.line X.env = pure false := by rfl) (hw : swappedStores [tg] e X.env = pure none := by rfl)
    (h1 : (assignEach [tg] X.env).map (·.2) = [assign tg X.env] := by rfl) : DS X (.Assign [tg] e pos) ρ μ P := fun B H σ Dn S L k =>
  psW (ps_asg pe_w pg_w hs hw h1) (he B H σ _ S L fun B1 H1 v i1 S1 r1 => hg B1 H1 σ v μ1 _ r1 (L.inc i1) S1 fun σ' L' _ _ => k _ h B1 H1 σ' i1 S1 L')
/-- x, y = a, b -/
theorem DS_par (i j : Nat) {pt pt2 : Pos} {kt k2 : Nat} (ha : DE X a ρ μ d1 μ1) (hb : DE X b ρ μ1 d2 μ2) (h : P (.nx ((ρ.set i (some d1)).set j (some d2)) μ2)) (hN : X.N.Nodup) (hij : i ≠ j) (hc : X.calm = true := by rfl) (hi : X.N[i]? = some x := by rfl) (hj : X.N[j]? = some y := by rfl)
    (hx : X.env.scope.names.lookup x = some .local := by rfl) (hy : X.env.scope.names.lookup y = some .local := by rfl)
    (hw : swappedStores [.Tuple [.Name x px, .Name y py'] kt pt] (.Tuple [a, b] k2 pt2) X.env = pure (some [x, y]) := by rfl)
    (hs : swapsWithSole [.Tuple [.Name x px, .Name y py'] kt pt] (.Tuple [a, b] k2 pt2) pos.line X.env = pure false := by rfl)
    (h1 : starEach [a, b] X.env = (false, eval a X.env) :: starEach [b] X.env := by rfl) (h2 : starEach [b] X.env = (false, eval b X.env) :: starEach [] X.env := by rfl) :
    DS X (.Assign [.Tuple [.Name x px, .Name y py'] kt pt] (.Tuple [a, b] k2 pt2) pos) ρ μ P := fun B H σ Dn S L k =>
  psW (ps_par hc hN hi hj hij hx hy (pa_w (es := [a, b])) hw hs) (DA_cons ha (DA_cons hb DA_nil h2) h1 B H σ _ S L fun B1 H1 vs i1 S1 r1 => by
    obtain ⟨v, w, rfl, r2, r3⟩ := reps2 r1
    exact ⟨v, w, rfl, k _ h B1 H1 _ i1 S1 (((L.inc i1).set r2 i).set r3 j)⟩)
/-- d[u] = v, d to be written -/
theorem DS_put (n : Nat) {p : Addr} {u : U} {ks : List (List Int × D)} (hu : X.A.units + 1 < cLine) (hv : DE X e ρ μ d μ1) (ha : DE X a ρ μ1 (.ptr p) μ2) (hb : DE X b ρ μ2 (uD u) μ3) (hl : ks.length < 16777216) (h : P (.nx ρ (μ3.set n (p, .dic (putD ks (uK u) d)))))
    (hn : μ3[n]? = some (p, .dic ks) := by rfl) (hs : swapsWith e (some (.Subscript a b px)) pos.line X.env = pure false := by rfl) : DS X (.Assign [.Subscript a b px] e pos) ρ μ P := fun B H σ Dn S L k =>
  psW (ps_dput hu pe_w pe_w pe_w hs) (hv B H σ _ S L fun B1 H1 v i1 S1 r1 => ha B1 H1 σ _ S1 (L.inc i1) fun B2 H2 x i2 S2 r2 => hb B2 H2 σ _ S2 (L.inc (i1.trans i2)) fun B3 H3 y i3 S3 r3 => by
    cases (show x = .ref p from r2)
    obtain ⟨ws, h1, q1⟩ := own_dic S3 hn
    obtain ⟨q, rfl, hq⟩ := uD_key r3
    refine ⟨p, _, rfl, DPut.t h1 (S3.sub _ _ hq) (by rw [q1.length, sizeLine_eq]; exact hl), k _ h B3 _ σ ((i1.trans i2).trans i3) (S3.write hn ⟨_, upd_same, q1.put (uK u) ((r1.inc i2).inc i3)⟩) (L.inc ((i1.trans i2).trans i3))⟩)
/-- xs[i] = v, xs to be written -/
theorem DS_setL (n : Nat) {p : Addr} {i : Int} {j : Nat} (hv : DE X e ρ μ d μ1) (ha : DE X a ρ μ1 (.ptr p) μ2) (hb : DE X b ρ μ2 (.int i) μ3) (hj : ixN ds.length i = some j) (h : P (.nx ρ (μ3.set n (p, .lst (ds.set j d)))))
    (hn : μ3[n]? = some (p, .lst ds) := by rfl) (hs : swapsWithSole [.Subscript a b px] e pos.line X.env = pure false := by rfl) (hw : swappedStores [.Subscript a b px] e X.env = pure none := by rfl)
    (h1 : (assignEach [.Subscript a b px] X.env).map (·.2) = [assign (.Subscript a b px) X.env] := by rfl)
    (ha' : ∀ v, assign (.Subscript a b px) X.env v = (do
      let ov ← holding [v] (eval a X.env)
      let iv ← holding [v, ov] (eval b X.env)
      standAt px
      holding [v, ov, iv] (setItem ov iv v)
      release [v, ov, iv] []) := by intro _; rfl) : DS X (.Assign [.Subscript a b px] e pos) ρ μ P := fun B H σ Dn S L k =>
  psW (ps_asg pe_w (pg_sub pe_w pe_w set_list ha') hs hw h1) (hv B H σ _ S L fun B1 H1 v i1 S1 r1 => ha B1 H1 σ _ S1 (L.inc i1) fun B2 H2 x i2 S2 r2 => hb B2 H2 σ _ S2 (L.inc (i1.trans i2)) fun B3 H3 y i3 S3 r3 => by
    cases (show x = .ref p from r2)
    obtain ⟨xs, h1, q1⟩ := own_lst S3 hn
    exact ⟨p, xs, i, j, rfl, r3, h1, by rw [q1.length]; exact hj, k _ h B3 _ σ ((i1.trans i2).trans i3) (S3.write hn ⟨_, upd_same, q1.set j ((r1.inc i2).inc i3)⟩) (L.inc ((i1.trans i2).trans i3))⟩)
def LoopP (I : Rho → Mu → Prop) (P : Out → Prop) : Out → Prop
  | .nx ρ μ => I ρ μ
  | .ct ρ μ => I ρ μ
  | .bk ρ μ => P (.nx ρ μ)
  | .rt d μ => P (.rt d μ)
/-- I: the word by a measure -/
theorem DS_while {body : List Stmt} (I : Nat → Rho → Mu → Prop) (m0 : Nat) (h0 : I m0 ρ μ) (hs : ∀ m ρ μ, I m ρ μ → ∃ t μ', DT X c ρ μ t μ' ∧ (t = true → DSs X body ρ μ' (LoopP (fun ρ' μ' => ∃ m', m' < m ∧ I m' ρ' μ') P)) ∧ (t = false → P (.nx ρ μ')))
    (hp : PassesOwn (model X.prog X.w) X.A X.env X.xe := by exact PassesOwn.never) : DS X (.While c body [] pos) ρ μ P := fun B H σ Dn S L k => by
  refine psW (ps_while hp pt_w pss_w) ⟨fun m σ H => ∃ B' ρ' μ', Inc B B' ∧ Sat X.K B' H μ' ∧ Slots X.K B' ρ' σ ∧ I m ρ' μ', ⟨m0, B, ρ, μ, Inc.refl B, S, L, h0⟩, ?_⟩
  rintro m σ1 H1 ⟨B1, ρ1, μ1, i1, S1, L1, w1⟩
  obtain ⟨t, μ', ht, h1, h2⟩ := hs m ρ1 μ1 w1
  refine ht B1 H1 σ1 _ S1 L1 fun B2 H2 i2 S2 => ?_
  cases t with
  | false =>
    rw [if_neg Bool.false_ne_true]
    exact k _ (h2 rfl) B2 H2 σ1 (i1.trans i2) S2 (L1.inc i2)
  | true =>
    rw [if_pos rfl]
    refine ⟨fun σ' H' => ∃ m', m' < m ∧ ∃ B' ρ' μ', Inc B B' ∧ Sat X.K B' H' μ' ∧ Slots X.K B' ρ' σ' ∧ I m' ρ' μ', fun σ' H' ⟨m', hm, q⟩ => ⟨m', hm, q⟩, ?_⟩
    refine h1 rfl B2 H2 σ1 _ S2 (L1.inc i2) fun o q => ?_
    cases o with
    | nx ρ' μ' => exact fun B3 H3 σ3 i3 S3 L3 => let ⟨m', hm, q⟩ := q; ⟨m', hm, B3, ρ', μ', (i1.trans i2).trans i3, S3, L3, q⟩
    | ct ρ' μ' => exact fun B3 H3 σ3 i3 S3 L3 => let ⟨m', hm, q⟩ := q; ⟨m', hm, B3, ρ', μ', (i1.trans i2).trans i3, S3, L3, q⟩
    | bk ρ' μ' => exact (k (.nx ρ' μ') q).inc (i1.trans i2)
    | rt d μ' => exact (k (.rt d μ') q).inc (i1.trans i2)
def Feeds (K : PySem.W.Frag) (B : Hp) (J : It) (items : List D) (C : Mu → Prop) : Prop := ∀ (i : Nat) (B' H : Hp) (μ : Mu), Inc B B' → Sat K B' H μ → C μ →
  (∀ d, items[i]? = some d → J.go i H ∧ ∀ x H', J.yld i H x H' → ∃ B'', Inc B' B'' ∧ Sat K B'' H' μ ∧ Rep K B'' d x) ∧ (items.length = i → J.stop i H)
end
/-- a source: its items, what must hold of the owned things while it is walked -/
def DI (X : Cx) (tg iter : Expr) (ρ : Rho) (μ : Mu) (items : List D) (C : Mu → Prop) (μ' : Mu) : Prop := ∀ (B H : Hp) (σ : L2.St) (R : It → Hp → Prop), Sat X.K B H μ → Slots X.K B ρ σ →
  (∀ (B' H' : Hp) (J : It), Inc B B' → Sat X.K B' H' μ' → items.length ≤ 16777216 → Feeds X.K B' J items C → R J H') → wI X tg iter σ H R
section
variable {X : Cx} {e a b c tg iter : Expr} {body : List Stmt} {ρ ρ' ρ1 ρ2 : Rho} {μ μ0 μ1 μ2 μ3 : Mu} {d d1 d2 : D} {pos : Pos} {ds items : List D} {P P' : Out → Prop} {C : Mu → Prop}
theorem DS_for (hI : DI X tg iter ρ μ items C μ0) (I : Nat → Rho → Mu → Prop) (h0 : I 0 ρ μ0) (hC : ∀ i ρ μ, I i ρ μ → C μ)
    (hs : ∀ i d ρ μ, items[i]? = some d → I i ρ μ → ∃ ρ' is, DG X tg d ρ ρ' is ∧ DSs X body ρ' μ (LoopP (I (i + 1)) P)) (hd : ∀ ρ μ, I items.length ρ μ → P (.nx ρ μ))
    (hp : PassesOwn (model X.prog X.w) X.A X.env X.xe := by exact PassesOwn.never) (hc : X.calm = true := by rfl) (hfs : ∀ x, foldedSetIterable iter X.env x = pure x := by intro _; rfl) : DS X (.For tg iter body [] pos) ρ μ P := fun B H σ Dn S L k => by
  refine psW (ps_for hp hc pi_w pg_w pss_w hfs) (hI B H σ _ S L fun B1 H1 J i1 S1 hl F => ?_)
  refine ⟨fun i m σ H => ∃ B' ρ' μ', Inc B1 B' ∧ Sat X.K B' H μ' ∧ Slots X.K B' ρ' σ ∧ I i ρ' μ' ∧ m = items.length - i ∧ i ≤ items.length, ⟨_, B1, ρ, μ0, Inc.refl B1, S1, L.inc i1, h0, rfl, Nat.zero_le _⟩, ?_⟩
  rintro i m σ2 H2 ⟨B2, ρ2, μ2, i2, S2, L2', w2, rfl, hi⟩
  obtain ⟨f1, f2⟩ := F i B2 H2 μ2 i2 S2 (hC i ρ2 μ2 w2)
  by_cases hlt : i < items.length
  · obtain ⟨g, y⟩ := f1 _ (List.getElem?_eq_getElem hlt)
    obtain ⟨ρ3, is, hg, hb⟩ := hs i _ ρ2 μ2 (List.getElem?_eq_getElem hlt) w2
    refine .inr ⟨g, fun σ' H' => ∃ B' ρ' μ', Inc B1 B' ∧ Sat X.K B' H' μ' ∧ Slots X.K B' ρ' σ' ∧ I (i + 1) ρ' μ', fun σ' H' ⟨B', ρ', μ', q1, q2, q3, q4⟩ => ⟨items.length - (i + 1), by omega, B', ρ', μ', q1, q2, q3, q4, rfl, hlt⟩, fun x H' yy => ?_⟩
    obtain ⟨B3, i3, S3, r3⟩ := y x H' yy
    refine hg B3 H' σ2 x μ2 _ r3 (L2'.inc i3) S3 fun σ4 L4 _ _ => hb B3 H' σ4 _ S3 L4 fun o q => ?_
    cases o with
    | nx ρ' μ' => exact fun B4 H4 σ4 i4 S4 L4 => ⟨B4, ρ', μ', (i2.trans i3).trans i4, S4, L4, q⟩
    | ct ρ' μ' => exact fun B4 H4 σ4 i4 S4 L4 => ⟨B4, ρ', μ', (i2.trans i3).trans i4, S4, L4, q⟩
    | bk ρ' μ' => exact (k (.nx ρ' μ') q).inc ((i1.trans i2).trans i3)
    | rt d μ' => exact (k (.rt d μ') q).inc ((i1.trans i2).trans i3)
  · have e : i = items.length := by omega
    subst e
    exact .inl ⟨f2 rfl, k _ (hd ρ2 μ2 w2) B2 H2 σ2 (i1.trans i2) S2 L2'⟩
/-- with the length's bound -/
theorem pi_listB {l : Expr} {tl : TE} (hl : PE X l tl) : PI X tg l (fun σ H R => tl σ H fun x H1 => ∃ a xs, x = .ref a ∧ SqL X.K H1 a xs ∧ (xs.length ≤ sizeLine → R (Itl X.K a) H1)) := by
  refine ⟨fun pins s σ H R I h => ?_⟩
  refine thn (hl.run pins s σ H _ I h) fun v s1 ⟨x, H1, I1, r1, a, xs, ex, hq, q⟩ => ?_
  subst ex
  cases r1
  obtain ⟨its, rv, pl, hz⟩ := I1.list hq
  refine wpAny_pyIter_list pl.isList ?_
  exact pi_one I1 _ (turn_list a _) ⟨_, Heap.get?_push_size _ rfl, rfl, rfl⟩ (q hz)
theorem pi_tupB {l : Expr} {tl : TE} (hl : PE X l tl) : PI X tg l (fun σ H R => tl σ H fun x H1 => ∃ a xs, x = .ref a ∧ SqT X.K H1 a xs ∧ (xs.length ≤ sizeLine → R (Itt X.K a) H1)) := by
  refine ⟨fun pins s σ H R I h => ?_⟩
  refine thn (hl.run pins s σ H _ I h) fun v s1 ⟨x, H1, I1, r1, a, xs, ex, hq, q⟩ => ?_
  subst ex
  cases r1
  obtain ⟨its, rv, pl, hz⟩ := I1.tuple hq
  refine wpAny_pyIter_tuple (show s1.heap.IsTuple a its.toArray from pl) ?_
  exact pi_one I1 _ (turn_tuple a _) ⟨_, Heap.get?_push_size _ rfl, rfl, rfl⟩ (q hz)
theorem feeds_l {K : PySem.W.Frag} {B : Hp} {p : Addr} {xs : List V} (h : B p = some (.lst xs)) (r : Reps K B ds xs) : Feeds K B (Itl K p) ds fun _ => True := fun i B' H μ i1 S _ => by
  have hq : SqL K H p xs := SqL.of (S.sub _ _ (i1 _ _ h))
  refine ⟨fun d e => ?_, fun hl => ⟨xs, hq, by rw [r.length]; exact Nat.le_of_eq hl⟩⟩
  obtain ⟨x, e1, r1⟩ := r.get e
  refine ⟨⟨xs, x, hq, e1⟩, fun y H' ⟨e2, f⟩ => ?_⟩
  subst e2
  have := f xs hq
  rw [e1] at this; cases this
  exact ⟨B', Inc.refl B', S, r1.inc i1⟩
theorem feeds_p {K : PySem.W.Frag} {B : Hp} {p : Addr} : Feeds K B (Itl K p) ds fun μ => ∃ n : Nat, μ[n]? = some (p, D.lst ds) := fun i B' H μ i1 S ⟨n, hn⟩ => by
  obtain ⟨xs, h, r⟩ := own_lst S hn
  have hq : SqL K H p xs := SqL.of h
  refine ⟨fun d e => ?_, fun hl => ⟨xs, hq, by rw [r.length]; exact Nat.le_of_eq hl⟩⟩
  obtain ⟨x, e1, r1⟩ := r.get e
  refine ⟨⟨xs, x, hq, e1⟩, fun y H' ⟨e2, f⟩ => ?_⟩
  subst e2
  have := f xs hq
  rw [e1] at this; cases this
  exact ⟨B', Inc.refl B', S, r1⟩
theorem feeds_t {K : PySem.W.Frag} {B : Hp} {p : Addr} {xs : List V} (h : SqT K B p xs) (r : Reps K B ds xs) : Feeds K B (Itt K p) ds fun _ => True := fun i B' H μ i1 S _ => by
  have hq : SqT K H p xs := by
    rcases h with h | h
    · exact .inl (S.sub.rd (i1.rd h))
    · exact .inr h
  refine ⟨fun d e => ?_, fun hl => ⟨xs, hq, by rw [r.length]; exact Nat.le_of_eq hl⟩⟩
  obtain ⟨x, e1, r1⟩ := r.get e
  refine ⟨⟨xs, x, hq, e1⟩, fun y H' ⟨e2, f⟩ => ?_⟩
  subst e2
  have := f xs hq
  rw [e1] at this; cases this
  exact ⟨B', Inc.refl B', S, r1.inc i1⟩
theorem le_of_line {n m : Nat} (h : n ≤ sizeLine) (e : n = m) : m ≤ 16777216 := by rw [sizeLine_eq] at h; omega
theorem DI_lst (he : DE X iter ρ μ (.lst ds) μ1) : DI X tg iter ρ μ ds (fun _ => True) μ1 := fun B H σ R S L k =>
  piW (pi_listB pe_w) (he B H σ _ S L fun B1 H1 v i1 S1 r1 => by
    obtain ⟨p, xs, rfl, e1, q⟩ := r1
    exact ⟨p, xs, rfl, SqL.of (S1.sub _ _ e1), fun hz => k B1 H1 _ i1 S1 (le_of_line hz q.length) (feeds_l e1 q)⟩)
theorem DI_ptr {p : Addr} (n : Nat) (he : DE X iter ρ μ (.ptr p) μ1) (hn : μ1[n]? = some (p, .lst ds) := by rfl) : DI X tg iter ρ μ ds (fun μ => ∃ n : Nat, μ[n]? = some (p, D.lst ds)) μ1 := fun B H σ R S L k =>
  piW (pi_listB pe_w) (he B H σ _ S L fun B1 H1 v i1 S1 r1 => by
    cases (show v = .ref p from r1)
    obtain ⟨xs, h, q⟩ := own_lst S1 hn
    exact ⟨p, xs, rfl, SqL.of h, fun hz => k B1 H1 _ i1 S1 (le_of_line hz q.length) feeds_p⟩)
theorem DI_tup (he : DE X iter ρ μ (.tup ds) μ1) : DI X tg iter ρ μ ds (fun _ => True) μ1 := fun B H σ R S L k =>
  piW (pi_tupB pe_w) (he B H σ _ S L fun B1 H1 v i1 S1 r1 => by
    obtain ⟨p, xs, rfl, e1, q⟩ := r1
    exact ⟨p, xs, rfl, SqT.of (S1.sub _ _ e1), fun hz => k B1 H1 _ i1 S1 (le_of_line hz q.length) (feeds_t (SqT.of e1) q)⟩)
theorem DI_gtup (he : DE X iter ρ μ (.gtup ds) μ1) : DI X tg iter ρ μ ds (fun _ => True) μ1 := fun B H σ R S L k =>
  piW (pi_tupB pe_w) (he B H σ _ S L fun B1 H1 v i1 S1 r1 => by
    obtain ⟨p, xs, o, rfl, e1, _, q⟩ := r1
    exact ⟨p, xs, rfl, .inl (.inr ⟨o, S1.sub _ _ e1⟩), fun hz => k B1 H1 _ i1 S1 (le_of_line hz q.length) (feeds_t (.inl (.inr ⟨o, e1⟩)) q)⟩)
theorem DI_range {n : Nat} {cp pos : Pos} (hm : X.mg "range" = none) (he : DE X a ρ μ (.int (n : Int)) μ1) (hl : n ≤ 16777216) (hg : Gl X "range" := by rfl) (hs : starEach [a] X.env = [(false, eval a X.env)] := by rfl) :
    DI X tg (.Call (.Name "range" cp) [a] [] pos) ρ μ (rgD n) (fun _ => True) μ1 := fun B H σ R S L k =>
  piW (pi_range1 hg hm (pa_w (es := [a])) hs) (DA_cons he DA_nil hs B H σ _ S L fun B1 H1 vs i1 S1 r1 => by
    obtain ⟨x, rfl, rx⟩ := reps1 r1
    refine ⟨n, by rw [show x = .int n from rx], by omega, by omega, k B1 H1 _ i1 S1 (by simp [rgD]; exact hl) fun i B' H μ i1 S _ => ⟨fun d e => ?_, fun hl => ?_⟩⟩
    · unfold rgD at e
      rw [List.getElem?_map] at e
      cases h : (List.range n)[i]? with
      | none => rw [h] at e; cases e
      | some j =>
        rw [h] at e
        obtain ⟨h1, h2⟩ := List.getElem?_eq_some_iff.mp h
        rw [List.getElem_range] at h2
        have hi : i < n := by simpa using h1
        refine ⟨by show i < (n : Int).toNat; omega, fun x H' ⟨e1, e2⟩ => ?_⟩
        subst e1 e2
        refine ⟨B', Inc.refl B', S, ?_⟩
        cases e
        subst h2
        show V.int (0 + (i : Int)) = V.int i
        rw [Int.zero_add]
    · show (n : Int).toNat ≤ i
      unfold rgD at hl
      rw [List.length_map, List.length_range] at hl
      omega)
/-- range(a, b) -/
theorem DI_range2 {m n : Nat} {cp pos : Pos} (hm : X.mg "range" = none) (ha : DE X a ρ μ (.int (m : Int)) μ1) (hb : DE X b ρ μ1 (.int (n : Int)) μ2) (hl : n ≤ 16777216) (hmn : m ≤ n) (hg : Gl X "range" := by rfl) (hs : starEach [a, b] X.env = [(false, eval a X.env), (false, eval b X.env)] := by rfl) (hs2 : starEach [b] X.env = [(false, eval b X.env)] := by rfl) :
    DI X tg (.Call (.Name "range" cp) [a, b] [] pos) ρ μ ((List.range (n - m)).map fun (k : Nat) => D.int ((m + k : Nat) : Int)) (fun _ => True) μ2 := fun B H σ R S L k =>
  piW (pi_range2 hg hm (pa_w (es := [a, b])) hs hs2) (DA_cons ha (DA_cons hb DA_nil hs2) (by rw [hs, hs2]) B H σ _ S L fun B1 H1 vs i1 S1 r1 => by
    obtain ⟨x, y, rfl, rx, ry⟩ := reps2 r1
    refine ⟨m, n, by rw [show x = .int m from rx, show y = .int n from ry], ⟨by omega, by omega, by omega, by omega⟩, k B1 H1 _ i1 S1 (by simp; omega) fun i B' H μ i1 S _ => ⟨fun d e => ?_, fun hl => ?_⟩⟩
    · rw [List.getElem?_map] at e
      cases h : (List.range (n - m))[i]? with
      | none => rw [h] at e; cases e
      | some j =>
        rw [h] at e
        obtain ⟨h1, h2⟩ := List.getElem?_eq_some_iff.mp h
        rw [List.getElem_range] at h2
        have hi : i < n - m := by simpa using h1
        refine ⟨by show i < ((n : Int) - (m : Int)).toNat; omega, fun x H' ⟨e1, e2⟩ => ?_⟩
        subst e1 e2
        refine ⟨B', Inc.refl B', S, ?_⟩
        cases e
        subst h2
        show V.int ((m : Int) + (i : Int)) = V.int ((m + i : Nat) : Int)
        rw [Int.natCast_add]
    · show ((n : Int) - (m : Int)).toNat ≤ i
      rw [List.length_map, List.length_range] at hl
      omega)
end
end Od
namespace Od
open PySem PySem.Spec PyProof.Rows L2
section
variable {X : Cx} {pins : List (Addr × Obj)} {σ : L2.St} {H : Hp} {s : Shared}
/-- a walk that gives new tuples, over the abstract heap -/
theorem walksT_item {it : Addr} {fp FP wr : List Addr} {i n : Nat} {Pt : Nat → Array Value → Prop} {S : Nat → Heap → Prop} {Mid : Nat → Addr → Heap → Prop} {elts : List Expr} {kk : Nat} {tpos : Pos} {E : Value → Shared → Prop} {Rp : List V → Prop}
    (I : Inv X pins σ H s) (hf : ∀ b ∈ fp, FpOk X pins H b) (hlt : ∀ b ∈ fp, b < s.heap.objs.size) (W : WalksT X.prog X.w X.A it FP wr n Pt S Mid) (hw : ∀ b ∈ wr, b ∈ fp) (hi : i < n) (st : S i s.heap)
    (hP : ∀ vals, Pt i vals → ∃ xs, Vals xs vals.toList ∧ xs.length ≤ sizeLine ∧ Rp xs) :
    wpAny (model X.prog X.w) X.A (pyNext (.ref it)) (fun r s1 => ∃ u, r = some u ∧ wpAny (model X.prog X.w) X.A (letOwnedTupleGo (.Tuple elts kk tpos) (.ref it) u)
      (fun _ s2 => ∃ T xs, u = .ref T ∧ H T = none ∧ Inv X pins σ (upd H T (.tup xs)) s2 ∧ Rp xs ∧ S (i + 1) s2.heap ∧ ∀ b ∈ fp, upd H T (.tup xs) b = none) E s1) E s := by
  refine W.item i s _ E hi st fun T vals h' tk pt hT tup mid kp => ⟨.ref T, rfl, ?_⟩
  refine W.go elts kk tpos i T _ _ E mid fun h'' st' kp2 => ?_
  obtain ⟨xs, rv, hz, rp⟩ := hP vals pt
  have nT : H T = none := I.hok.fresh hT
  have na : T ∉ wr := W.apart i T _ mid
  obtain ⟨o, ho, hc, m, hd⟩ := tup
  refine ⟨T, xs, rfl, nT, I.turnedNew (t' := tk) (ch := wr) (fun b o hb e => kp2 b o hb (kp b o hb e)) (fun b hb => hf b (hw b hb)) hT (show ObjOk X.prog X.w _ h'' T (.tup xs) from ⟨hz, vals.toList, rv, o, kp2 T o na ho, hc, m, by simpa using hd⟩), rp, st', fun b hb => ?_⟩
  rw [upd_ne (Nat.ne_of_lt (Nat.lt_of_lt_of_le (hlt b hb) hT))]
  exact (hf b hb).1
theorem walksT_done {it : Addr} {fp FP wr : List Addr} {n : Nat} {Pt : Nat → Array Value → Prop} {S : Nat → Heap → Prop} {Mid : Nat → Addr → Heap → Prop} {E : Value → Shared → Prop}
    (I : Inv X pins σ H s) (hf : ∀ b ∈ fp, FpOk X pins H b) (W : WalksT X.prog X.w X.A it FP wr n Pt S Mid) (hw : ∀ b ∈ wr, b ∈ fp) (st : S n s.heap) :
    wpAny (model X.prog X.w) X.A (pyNext (.ref it)) (fun r s1 => r = none ∧ Inv X pins σ H s1) E s :=
  W.done s _ E st fun h' tk kp => ⟨rfl, I.turnedL (t' := tk) (ch := wr) (fun b o hb e => kp b o hb e) fun b hb => hf b (hw b hb)⟩
end
theorem meets_enumT (l : Addr) (items : Array Value) (n : Nat) (dct : Option Addr) (sl : Array (Option Value)) :
    Meets (Builtin.«enumerate.__new__» ⟨[.type "enumerate", .ref l], []⟩) (fun _ R s => s.heap.get? l = some { cls := .type "tuple", dict := dct, data := .seq items n, slots := sl } ∧
      R (.ok (.ret (.ref (s.heap.push { cls := .type "tuple_iterator", data := .fields #[.ref l, .int 0 0] }).objs.size)))
        { s with heap := (s.heap.push { cls := .type "tuple_iterator", data := .fields #[.ref l, .int 0 0] }).push { cls := .type "enumerate", data := .fields #[.none, .bool false, .ref s.heap.objs.size, rawInt 0, .none, .none] } }) :=
  .of_wp fun prog w A R s h => by
    obtain ⟨hp, g, d, tk, os⟩ := s; obtain ⟨hT0, h⟩ := h
    have hsub := sub_enumerate
    have hT : Heap.IsTuple (Shared.heap ⟨hp, g, d, tk, os⟩) l items := ⟨_, hT0, rfl, n, rfl⟩
    wp_walk using AutoSeq1.wpAny_loadPart' hT0
    refine wpAny_stack_any fun st => wpAny_pure ?_
    split
    · rename_i c _ _ _ _ _
      cases (c == Value.type "enumerate")
      · wp_walk using AutoSeq1.wpAny_loadPart' hT0, wpAny_pyIter_tuple hT
        exact ⟨_, rfl, h⟩
      · wp_walk using AutoSeq1.wpAny_loadPart' hT0, wpAny_pyIter_tuple hT
        exact ⟨_, rfl, h⟩
    · wp_walk using AutoSeq1.wpAny_loadPart' hT0, wpAny_pyIter_tuple hT
      exact ⟨_, rfl, h⟩
theorem call_enumT {prog : Program} {w : World} {A : Around} {E : Value → Shared → Prop} {s : Shared} {l : Addr} {items : Array Value} {Q : Value → Shared → Prop} (hL : IsTup s.heap l items)
    (h : ∀ h', IsEnum h' (s.heap.objs.size + 1) s.heap.objs.size 0 .none → h'.IsTupleIter s.heap.objs.size l 0 → h'.objs.size = s.heap.objs.size + 2 →
      (∀ b o, s.heap.get? b = some o → h'.get? b = some o) → Q (.ref (s.heap.objs.size + 1)) { s with heap := h' }) :
    wpAny (model prog w) A (call (.type "enumerate") [.ref l]) Q E s := by
  obtain ⟨⟨c, dct, dt, sl⟩, hl, hc, n, hd⟩ := hL
  replace hc : c = .type "tuple" := hc
  replace hd : dt = .seq items n := hd
  subst hc hd
  refine callType_new F.called_enumerate (by decide) (F.typeCall_enumerate_1 _) (F.newCall_enumerate_1 _) (fun obj => F.args_object_init_2 obj _) F.entry_enumerate_new
    (meets_enumT l items n dct sl) ⟨hl, ?_⟩
  have hz : (s.heap.push { cls := .type "tuple_iterator", data := .fields #[.ref l, .int 0 0] }).objs.size = s.heap.objs.size + 1 := Heap.size_push ..
  show _ ∧ _
  rw [hz]
  have he : IsEnum ((s.heap.push { cls := .type "tuple_iterator", data := .fields #[.ref l, .int 0 0] }).push
      { cls := .type "enumerate", data := .fields #[.none, .bool false, .ref s.heap.objs.size, rawInt 0, .none, .none] }) (s.heap.objs.size + 1) s.heap.objs.size 0 .none := by
    have := Heap.get?_push_size (s.heap.push { cls := .type "tuple_iterator", data := .fields #[.ref l, .int 0 0] })
      (o := { cls := .type "enumerate", data := .fields #[.none, .bool false, .ref s.heap.objs.size, rawInt 0, .none, .none] }) rfl
    rw [hz] at this; exact this
  exact ⟨⟨_, he, rfl⟩, h _ he ⟨_, Heap.get?_push_of_some _ (Heap.get?_push_size _ rfl), rfl, rfl⟩ (by rw [Heap.size_push, hz]) fun b o x => Heap.get?_push_of_some _ (Heap.get?_push_of_some _ x)⟩
/-- the tuple at a, each item in a new pair behind its place -/
def ItE (K : PySem.W.Frag) (a : Addr) : It :=
  ⟨fun i H => ∃ (xs : List V) (x : V), SqT K H a xs ∧ xs[i]? = some x, fun i H v H' => ∃ T x, v = .ref T ∧ H T = none ∧ H' = upd H T (.tup [.int (i : Nat), x]) ∧ ∀ xs, SqT K H a xs → xs[i]? = some x, fun i H => ∃ xs : List V, SqT K H a xs ∧ xs.length ≤ i⟩
theorem turn_enumT {P : Program} {w : World} {K : PySem.W.Frag} {elts : List Expr} {kk : Nat} {tpos : Pos} (a e it : Addr) :
    Turn P w K (.Tuple elts kk tpos) (ItE K a) [e, it] e (fun i h => (∃ old, IsEnum h e it (0 + ((i : Nat) : Int)) old) ∧ h.IsTupleIter it a i ∧ e ≠ it ∧ a ≠ e ∧ a ≠ it) where
  mem := by simp
  obj := fun i h st b hb => by
    obtain ⟨⟨old, he⟩, ⟨o, ho, hc, hd⟩, _⟩ := st
    have e' : b = e ∨ b = it := by simpa using hb
    rcases e' with z | z
    · rw [z]; exact ⟨_, he, fun v q => nomatch q⟩
    · rw [z]; exact ⟨o, ho, fun v q => by rw [hd] at q; cases q⟩
  keep := fun i h h' st k => let ⟨⟨old, he⟩, hi, hne⟩ := st; ⟨⟨old, k e (by simp) _ he⟩, hi.at fun o q => k it (by simp) o q, hne⟩
  item := by
    intro X hP hw hK hc i pins s σ H E I hf st hg
    subst hP hw hK
    obtain ⟨⟨old, he⟩, hit, n1, n2, n3⟩ := st
    obtain ⟨xs, x, hq, hx⟩ := hg
    obtain ⟨its, rv, p, hz⟩ := I.tuple hq
    have pT : s.heap.IsTuple a its.toArray := p
    have W := WalksT.enumFrom (prog := X.prog) (w := X.w) (A := X.A) 0 (Draws.tuple (A := X.A.in1) (I.ok.hd hc) it a n3 its.toArray) e n1 (by simp [n1, n2.symm]) (by simp)
    have hel : e < s.heap.objs.size := Heap.lt_size he
    have hil : it < s.heap.objs.size := by obtain ⟨_, q, _⟩ := hit; exact Heap.lt_size q
    have hl := rv.length
    have hi : i < its.toArray.size := by
      have := (List.getElem?_eq_some_iff.mp hx).1
      simp; omega
    refine thn (walksT_item (E := E) (Rp := fun ys => ys = [.int (i : Nat), x]) I hf (fun b hb => by
      have e' : b = e ∨ b = it := by simpa using hb
      rcases e' with z | z
      · rw [z]; exact hel
      · rw [z]; exact hil) W (fun b hb => hb) hi ⟨⟨old, he⟩, hit, pT⟩ fun vals pt => ?_) fun r s1 ⟨u, hr, h2⟩ => ⟨u, hr, thn h2 fun _ s2 ⟨T, ys, e1, e2, I2, e3, st2, f2⟩ => ?_⟩
    · obtain ⟨t, y, hy, rfl⟩ := pt
      obtain ⟨z, hz1, hz2⟩ := rv.get hx
      have ey : z = y := by
        have hy' : its[i]? = some y := by simpa using hy
        rw [hz1] at hy'; exact Option.some.inj hy'
      subst ey
      exact ⟨_, .cons (show RelV (.int ((i : Nat) : Int)) _ from ⟨t, by rw [Int.zero_add]⟩) (.cons hz2 .nil), by show 2 ≤ sizeLine; decide, rfl⟩
    · subst e1 e3
      refine ⟨.ref T, _, I2, rfl, ⟨T, x, rfl, e2, rfl, fun ys hy => by rw [I.tuple_inj hy hq]; exact hx⟩, ⟨st2.1, st2.2.1, n1, n2, n3⟩, f2⟩
  done := by
    intro X hP hw hK hc i pins s σ H E I hf st hg
    subst hP hw hK
    obtain ⟨⟨old, he⟩, hit, n1, n2, n3⟩ := st
    obtain ⟨xs, hq, hx⟩ := hg
    obtain ⟨its, rv, p, hz⟩ := I.tuple hq
    have pT : s.heap.IsTuple a its.toArray := p
    have hl := rv.length
    refine wpAny_pyNext_enum_endT (I.ok.hd hc) he hit pT (by simp; omega) fun h' eb => ⟨rfl, ?_⟩
    obtain ⟨f0, f1, f2, f3, f4, f5⟩ := hf it (by simp)
    exact I.turned (t' := s.toks) (fun b o hb q => eb b o hb q) f0 f1 f3 f4 f5
  self := fun A i s Q E st h => let ⟨⟨_, he⟩, _⟩ := st; wpAny_pyIter_enum he h
where
  wpAny_pyNext_enum_endT {prog : Program} {w : World} {A : Around} {E : Value → Shared → Prop} {s : Shared} {e it l : Addr} {i : Nat} {c : Int} {items : Array Value} {old : Value} {Q : Option Value → Shared → Prop} (hh : A.handled = none)
      (he : IsEnum s.heap e it c old) (hit : s.heap.IsTupleIter it l i) (hl : s.heap.IsTuple l items) (hx : items[i]? = none) (hQ : ∀ h', Heap.ExtBut it s.heap h' → Q none { s with heap := h' }) : wpAny (model prog w) A (pyNext (.ref e)) Q E s := by
    have hT : s.TypeIs (.ref e) "enumerate" := ⟨_, he, rfl⟩
    unfold pyNext
    refine wpAny_bind (wpAny_attempt (wpAny_callSpecial?_slot (name := Str.ofString "__next__") hT F.slot_enumerate_next
      (wpAny_call_entry F.slot_enumerate_next hT F.entry_enumerate_next ?_ (F.args_enumerate_next_1 _))))
    show wpAny _ _ (field (.ref e) 2 >>= _) _ _ _
    refine wpAny_bind (wpAny_field he rfl (x := .ref it) rfl ?_)
    refine wpAny_bind (wpAny_nextOf_tuple_end (A := A.in1) hh hit hl hx fun h' x he' hx' => ?_)
    obtain ⟨o, ho, hc⟩ := hx'
    refine wpAny_bind (wpAny_isInstance (T := "StopIteration") (b := true) ⟨o, ho, hc⟩ isSubtype_stop ?_)
    exact wpAny_pure (hQ _ he')
def pairs (ds es : List D) : List D := List.zipWith (fun a b => D.tup [a, b]) ds es
def enumD (ds : List D) : List D := pairs (rgD ds.length) ds
section
variable {X : Cx} {e a b tg iter : Expr} {ρ : Rho} {μ μ1 μ2 : Mu} {d d1 d2 : D} {pos cp : Pos} {ds es : List D}
theorem pi_enumT {ta : TA} {elts : List Expr} {kk : Nat} {tpos : Pos} (hg : Gl X "enumerate") (hm : X.mg "enumerate" = none) (ha : PA X [e] ta) (hs : starEach [e] X.env = [(false, eval e X.env)] := by rfl) :
    PI X (.Tuple elts kk tpos) (.Call (.Name "enumerate" cp) [e] [] pos) (fun σ H R => ta σ H fun vs H1 => ∃ a xs, vs = [.ref a] ∧ SqT X.K H1 a xs ∧ (xs.length ≤ sizeLine → R (ItE X.K a) H1)) := by
  refine ⟨fun pins s σ H R I h => ?_⟩
  refine Call_ (ld_blt I hg hm boot_enumerate (PyProof.Rows.callWith_type1 (thn (ha.run pos pins s σ H _ I h) fun us s1 ⟨vs, H1, I1, r1, a, xs, ex, hq, q⟩ => ?_) hs rfl))
  subst ex
  cases r1 with
  | cons r rr =>
    cases rr
    cases r
    obtain ⟨its, rv, p', hz⟩ := I1.tuple hq
    have hal : a < s1.heap.objs.size := p'.lt
    refine call_enumT p' fun h' he hit hsz hk => wpAny_pyIter_enum he ?_
    have I2 : Inv X pins σ H1 { s1 with heap := h' } := I1.kept (t' := s1.toks) hk
    refine ⟨s1.heap.objs.size + 1, [s1.heap.objs.size + 1, s1.heap.objs.size], _, _, H1, rfl, I2, turn_enumT a (s1.heap.objs.size + 1) s1.heap.objs.size, ⟨⟨.none, he⟩, hit, Nat.succ_ne_self _, Nat.ne_of_lt (Nat.lt_succ_of_lt hal), Nat.ne_of_lt hal⟩, fun b hb => ?_, q hz⟩
    have e' : b = s1.heap.objs.size + 1 ∨ b = s1.heap.objs.size := by simpa using hb
    have hle : s1.heap.objs.size ≤ b := by rcases e' with z | z <;> rw [z] <;> first | exact Nat.le_refl _ | exact Nat.le_succ _
    exact I1.fpOk hle (I1.hok.fresh hle)
theorem pairs_get {i : Nat} {x : D} (h : (pairs ds es)[i]? = some x) : ∃ u v, ds[i]? = some u ∧ es[i]? = some v ∧ x = .tup [u, v] := by
  unfold pairs at h
  rw [List.getElem?_zipWith] at h
  cases h1 : ds[i]? with
  | none => rw [h1] at h; cases h
  | some u =>
    cases h2 : es[i]? with
    | none => rw [h1, h2] at h; cases h
    | some v => rw [h1, h2] at h; cases h; exact ⟨u, v, rfl, rfl, rfl⟩
theorem rgD_get {n i : Nat} {x : D} (h : (rgD n)[i]? = some x) : x = .int i ∧ i < n := by
  unfold rgD at h
  rw [List.getElem?_map] at h
  cases h1 : (List.range n)[i]? with
  | none => rw [h1] at h; cases h
  | some j =>
    rw [h1] at h
    obtain ⟨h2, h3⟩ := List.getElem?_eq_some_iff.mp h1
    rw [List.getElem_range] at h3
    cases h
    exact ⟨by rw [h3], by simpa using h2⟩
/-- a new pair of parts that are there -/
theorem new_pair {K : PySem.W.Frag} {B H : Hp} {T : Addr} {x y : V} {u v : D} {μ : Mu} (S : Sat K B H μ) (nT : H T = none) (r1 : Rep K B u x) (r2 : Rep K B v y) : ∃ B'', Inc B B'' ∧ Sat K B'' (upd H T (.tup [x, y])) μ ∧ Rep K B'' (.tup [u, v]) (.ref T) := by
  obtain ⟨i, S2⟩ := S.newB (o := .tup [x, y]) nT
  exact ⟨_, i, S2, T, _, rfl, upd_same, x, _, rfl, r1.inc i, y, _, rfl, r2.inc i, rfl⟩
theorem DI_enum {tgs : List Expr} {kk : Nat} {tpos : Pos} (hm : X.mg "enumerate" = none) (ha : DE X a ρ μ (.tup ds) μ1) (hg : Gl X "enumerate" := by rfl) (hs : starEach [a] X.env = [(false, eval a X.env)] := by rfl) :
    DI X (.Tuple tgs kk tpos) (.Call (.Name "enumerate" cp) [a] [] pos) ρ μ (enumD ds) (fun _ => True) μ1 := fun B H σ R S L k =>
  piW (pi_enumT hg hm (pa_w (es := [a])) hs) (DA_cons ha DA_nil hs B H σ _ S L fun B1 H1 vs i1 S1 r1 => by
    obtain ⟨x, rfl, p, xs, rfl, e1, q⟩ := reps1 r1
    refine ⟨p, xs, rfl, SqT.of (S1.sub _ _ e1), fun hz => k B1 H1 _ i1 S1 ?_ fun i B' H μ i2 S2 _ => ?_⟩
    · have := le_of_line hz q.length
      simp [enumD, pairs, rgD]; omega
    · have hq : SqT X.K H p xs := SqT.of (S2.sub _ _ (i2 _ _ e1))
      refine ⟨fun d e => ?_, fun hl => ⟨xs, hq, by rw [q.length]; simp [enumD, pairs, rgD] at hl; omega⟩⟩
      obtain ⟨u, v, h1, h2, rfl⟩ := pairs_get e
      obtain ⟨rfl, _⟩ := rgD_get h1
      obtain ⟨y, h3, h4⟩ := q.get h2
      refine ⟨⟨xs, y, hq, h3⟩, fun z H' ⟨T, y', e2, nT, e3, f⟩ => ?_⟩
      subst e2 e3
      have := f xs hq
      rw [h3] at this; cases this
      exact new_pair S2 nT rfl (h4.inc i2))
def SqA (K : PySem.W.Frag) (t : Bool) (H : Hp) (a : Addr) (xs : List V) : Prop := if t then SqT K H a xs else SqL K H a xs
def ItZ (K : PySem.W.Frag) (t u : Bool) (a b : Addr) : It :=
  ⟨fun i H => ∃ (xs ys : List V) (x y : V), SqA K t H a xs ∧ SqA K u H b ys ∧ xs[i]? = some x ∧ ys[i]? = some y,
    fun i H v H' => ∃ T x y, v = .ref T ∧ H T = none ∧ H' = upd H T (.tup [x, y]) ∧ (∀ xs, SqA K t H a xs → xs[i]? = some x) ∧ ∀ ys, SqA K u H b ys → ys[i]? = some y,
    fun i H => ∃ xs ys : List V, SqA K t H a xs ∧ SqA K u H b ys ∧ xs.length = ys.length ∧ xs.length = i⟩
def IsIt (t : Bool) (h : Heap) (it a : Addr) (i : Nat) : Prop := if t then h.IsTupleIter it a i else h.IsListIter it a i
def IsSq (t : Bool) (h : Heap) (a : Addr) (vs : Array Value) : Prop := if t then h.IsTuple a vs else h.IsList a vs
theorem draws_any {prog : Program} {w : World} {A : Around} (t : Bool) (hh : A.handled = none) (it l : Addr) (hne : l ≠ it) (items : Array Value) :
    Draws prog w A it [it, l] items.size (fun i v => items[i]? = some v) (fun i h => IsIt t h it l i ∧ IsSq t h l items) := by
  cases t
  · exact Draws.list hh it l hne items
  · exact Draws.tuple hh it l hne items
theorem sq_any {X : Cx} {pins : List (Addr × Obj)} {σ : L2.St} {H : Hp} {s : Shared} {t : Bool} {a : Addr} {xs : List V} (I : Inv X pins σ H s) (h : SqA X.K t H a xs) : ∃ its : List Value, Vals xs its ∧ IsSq t s.heap a its.toArray ∧ xs.length ≤ sizeLine := by
  cases t
  · obtain ⟨its, rv, p, hz⟩ := I.list h
    exact ⟨its, rv, p.isList, hz⟩
  · obtain ⟨its, rv, p, hz⟩ := I.tuple h
    exact ⟨its, rv, p, hz⟩
theorem sq_inj {X : Cx} {pins : List (Addr × Obj)} {σ : L2.St} {H : Hp} {s : Shared} {t : Bool} {a : Addr} {xs ys : List V} (I : Inv X pins σ H s) (h : SqA X.K t H a xs) (h' : SqA X.K t H a ys) : xs = ys := by
  cases t
  · exact I.list_inj h h'
  · exact I.tuple_inj h h'
theorem isIt_at {t : Bool} {h h' : Heap} {it a : Addr} {i : Nat} (x : IsIt t h it a i) (k : ∀ o, h.get? it = some o → h'.get? it = some o) : IsIt t h' it a i := by
  cases t
  · exact Heap.IsListIter.at x k
  · exact Heap.IsTupleIter.at x k
theorem isIt_obj {t : Bool} {h : Heap} {it a : Addr} {i : Nat} (x : IsIt t h it a i) : ∃ o, h.get? it = some o ∧ ∀ v, o.data ≠ .cell v := by
  cases t
  · obtain ⟨o, ho, hc, hd⟩ := x
    exact ⟨o, ho, fun v q => by rw [hd] at q; cases q⟩
  · obtain ⟨o, ho, hc, hd⟩ := x
    exact ⟨o, ho, fun v q => by rw [hd] at q; cases q⟩
theorem turn_zipA {P : Program} {w : World} {K : PySem.W.Frag} {elts : List Expr} {kk : Nat} {tpos : Pos} (t u : Bool) (a b z TI TO i1 i2 : Addr) (Z : ZipSep2 z TI TO i1 i2 [i1, a] [i2, b]) :
    Turn P w K (.Tuple elts kk tpos) (ItZ K t u a b) [z, TI, TO, i1, i2] z (fun i h => IsZip h z TI TO .none ∧ IsTupOf2 h TI (.ref i1) (.ref i2) ∧ (∃ a1 a2, IsTupOf2 h TO a1 a2) ∧ IsIt t h i1 a i ∧ IsIt u h i2 b i ∧ a ≠ i1 ∧ b ≠ i2) where
  mem := by simp
  obj := fun i h st c hc => by
    exact objs ⟨st.1, st.2.1, st.2.2.1, st.2.2.2.1, st.2.2.2.2.1⟩ c hc
  keep := fun i h h' st k => by
    obtain ⟨h1, h2, ⟨a1, a2, h3⟩, h4, h5, n1, n2⟩ := st
    exact ⟨k z (by simp) _ h1, k TI (by simp) _ h2, ⟨a1, a2, k TO (by simp) _ h3⟩, isIt_at h4 fun o q => k i1 (by simp) o q, isIt_at h5 fun o q => k i2 (by simp) o q, n1, n2⟩
  item := by
    intro X hP hw hK hc i pins s σ H E I hf st hg
    subst hP hw hK
    obtain ⟨h1, h2, h3, h4, h5, n1, n2⟩ := id st
    obtain ⟨xs, ys, x, y, qx, qy, hx, hy⟩ := hg
    obtain ⟨its, rv, p1, hz1⟩ := sq_any I qx
    obtain ⟨jts, rw', p2, hz2⟩ := sq_any I qy
    have W := WalksT.zipD2 (prog := X.prog) (w := X.w) (A := X.A) Z (draws_any (A := X.A.in1) t (I.ok.hd hc) i1 a n1 its.toArray) (draws_any (A := X.A.in1) u (I.ok.hd hc) i2 b n2 jts.toArray)
    have hl := rv.length
    have hl2 := rw'.length
    have hi : i < min its.toArray.size jts.toArray.size := by
      have := (List.getElem?_eq_some_iff.mp hx).1
      have := (List.getElem?_eq_some_iff.mp hy).1
      simp; omega
    refine thn (walksT_item (E := E) (Rp := fun vs => vs = [x, y]) I hf (fun c hc => by
      obtain ⟨o, e, _⟩ := objs ⟨h1, h2, h3, h4, h5⟩ c hc
      exact Heap.lt_size e) W (fun c hc => by
        have e' : c = z ∨ c = TO ∨ c = i1 ∨ c = i2 := by simpa using hc
        rcases e' with e | e | e | e <;> simp [e]) hi ⟨h1, h2, h3, ⟨h4, p1⟩, ⟨h5, p2⟩⟩ fun vals pt => ?_) fun r s1 ⟨v, hr, q2⟩ => ⟨v, hr, thn q2 fun _ s2 ⟨T, vs, e1, e2, I2, e3, st2, f2⟩ => ?_⟩
    · obtain ⟨x', y', hx', hy', rfl⟩ := pt
      obtain ⟨c1, c2, c3⟩ := rv.get hx
      obtain ⟨d1, d2, d3⟩ := rw'.get hy
      have ex : c1 = x' := by
        have hx2 : its[i]? = some x' := by simpa using hx'
        rw [c2] at hx2; exact Option.some.inj hx2
      have ey : d1 = y' := by
        have hy2 : jts[i]? = some y' := by simpa using hy'
        rw [d2] at hy2; exact Option.some.inj hy2
      subst ex ey
      exact ⟨_, .cons c3 (.cons d3 .nil), by show 2 ≤ sizeLine; decide, rfl⟩
    · subst e1 e3
      obtain ⟨g1, g2, g3, g4, g5⟩ := st2
      exact ⟨.ref T, _, I2, rfl, ⟨T, x, y, rfl, e2, rfl, fun vs hv => by rw [sq_inj I hv qx]; exact hx, fun vs hv => by rw [sq_inj I hv qy]; exact hy⟩, ⟨g1, g2, g3, g4.1, g5.1, n1, n2⟩, f2⟩
  done := by
    intro X hP hw hK hc i pins s σ H E I hf st hg
    subst hP hw hK
    obtain ⟨h1, h2, h3, h4, h5, n1, n2⟩ := id st
    obtain ⟨xs, ys, qx, qy, hlen, hle⟩ := hg
    obtain ⟨its, rv, p1, hz1⟩ := sq_any I qx
    obtain ⟨jts, rw', p2, hz2⟩ := sq_any I qy
    have W := WalksT.zipD2 (prog := X.prog) (w := X.w) (A := X.A) Z (draws_any (A := X.A.in1) t (I.ok.hd hc) i1 a n1 its.toArray) (draws_any (A := X.A.in1) u (I.ok.hd hc) i2 b n2 jts.toArray)
    have hl := rv.length
    have hl2 := rw'.length
    have hi : i = min its.toArray.size jts.toArray.size := by
      simp; omega
    refine walksT_done (E := E) I hf W (fun c hc => by
        have e' : c = z ∨ c = TO ∨ c = i1 ∨ c = i2 := by simpa using hc
        rcases e' with e | e | e | e <;> simp [e]) ?_
    rw [← hi]
    exact ⟨h1, h2, h3, ⟨h4, p1⟩, ⟨h5, p2⟩⟩
  self := fun A i s Q E st h => wpAny_pyIter_zip st.1 h
where
  objs {t u : Bool} {h : Heap} {a b z TI TO i1 i2 : Addr} {i : Nat} (st : IsZip h z TI TO .none ∧ IsTupOf2 h TI (.ref i1) (.ref i2) ∧ (∃ a1 a2, IsTupOf2 h TO a1 a2) ∧ IsIt t h i1 a i ∧ IsIt u h i2 b i) : ∀ c ∈ [z, TI, TO, i1, i2], ∃ o, h.get? c = some o ∧ ∀ v, o.data ≠ .cell v := fun c hc => by
    obtain ⟨h1, h2, ⟨a1, a2, h3⟩, h4, h5⟩ := st
    have e' : c = z ∨ c = TI ∨ c = TO ∨ c = i1 ∨ c = i2 := by simpa using hc
    rcases e' with e | e | e | e | e
    · rw [e]; exact ⟨_, h1, fun v q => nomatch q⟩
    · rw [e]; exact ⟨_, h2, fun v q => nomatch q⟩
    · rw [e]; exact ⟨_, h3, fun v q => nomatch q⟩
    · rw [e]; exact isIt_obj h4
    · rw [e]; exact isIt_obj h5
theorem pi_zipTL {ta : TA} {elts : List Expr} {kk : Nat} {tpos : Pos} (t u : Bool) (hg : Gl X "zip") (hm : X.mg "zip" = none) (ha : PA X [a, b] ta) (hs : starEach [a, b] X.env = (false, eval a X.env) :: starEach [b] X.env := by rfl) (hpl : (backTo pos (starEach [b] X.env)).any (·.1) = false := by rfl) :
    PI X (.Tuple elts kk tpos) (.Call (.Name "zip" cp) [a, b] [] pos) (fun σ H R => ta σ H fun vs H1 => ∃ a b xs ys, vs = [.ref a, .ref b] ∧ SqA X.K t H1 a xs ∧ SqA X.K u H1 b ys ∧ (xs.length ≤ sizeLine → R (ItZ X.K t u a b) H1)) := by
  refine ⟨fun pins s σ H R I h => ?_⟩
  refine Call_ (ld_blt I hg hm PyProof.Rows.boot_zip (PyProof.Rows.callWith_type1 (thn (ha.run pos pins s σ H _ I h) fun us s1 ⟨vs, H1, I1, r1, p, q, xs, ys, ex, qx, qy, kk⟩ => ?_) hs hpl))
  subst ex
  obtain ⟨u1, u2, rfl, ra, rb⟩ := vals2 r1
  cases ra
  cases rb
  obtain ⟨its, rv, p1, hz1⟩ := sq_any I1 qx
  obtain ⟨jts, rw', p2, hz2⟩ := sq_any I1 qy
  have lt_any : ∀ {t : Bool} {c : Addr} {vs : Array Value}, IsSq t s1.heap c vs → c < s1.heap.objs.size := fun {t c vs} z => by
    cases t
    · obtain ⟨o, e, _⟩ := z; exact Heap.lt_size e
    · obtain ⟨o, e, _⟩ := z; exact Heap.lt_size e
  have hal := lt_any p1
  have hbl := lt_any p2
  have begins : ∀ (t : Bool) (c : Addr) (vs : Array Value), ∃ o, Begins (.ref c) o (fun h => IsSq t h c vs) ∧ ∀ (h : Heap) (it : Addr), h.get? it = some o → IsIt t h it c 0 := fun t c vs => by
    cases t
    · exact ⟨_, begins_list c vs, fun h it e => ⟨_, e, rfl, rfl⟩⟩
    · exact ⟨_, begins_tuple c vs, fun h it e => ⟨_, e, rfl, rfl⟩⟩
  obtain ⟨o1, b1, g1⟩ := begins t p its.toArray
  obtain ⟨o2, b2, g2⟩ := begins u q jts.toArray
  refine zip_begins2 b1 b2 p1 p2 fun h' hz hTI hTO e1 e2 hsz hk => wpAny_pyIter_zip hz ?_
  have I2 : Inv X pins σ H1 { s1 with heap := h' } := I1.kept (t' := s1.toks) hk
  have Z := zip_sep2 (N := s1.heap.objs.size) (fp1 := [p]) (fp2 := [q]) (by simpa using hal) (by simpa using hbl)
  refine ⟨s1.heap.objs.size + 4, [s1.heap.objs.size + 4, s1.heap.objs.size + 2, s1.heap.objs.size + 3, s1.heap.objs.size, s1.heap.objs.size + 1], _, _, H1, rfl, I2,
    turn_zipA t u p q (s1.heap.objs.size + 4) (s1.heap.objs.size + 2) (s1.heap.objs.size + 3) s1.heap.objs.size (s1.heap.objs.size + 1) Z,
    ⟨hz, hTI, ⟨_, _, hTO⟩, g1 _ _ e1, g2 _ _ e2, Nat.ne_of_lt hal, Nat.ne_of_lt (Nat.lt_succ_of_lt hbl)⟩, fun c hc => ?_, kk hz1⟩
  have hle : s1.heap.objs.size ≤ c := by
    have e' : c = s1.heap.objs.size + 4 ∨ c = s1.heap.objs.size + 2 ∨ c = s1.heap.objs.size + 3 ∨ c = s1.heap.objs.size ∨ c = s1.heap.objs.size + 1 := by simpa using hc
    rcases e' with e | e | e | e | e <;> rw [e] <;> first | exact Nat.le_refl _ | exact Nat.le_add_right _ _
  exact I1.fpOk hle (I1.hok.fresh hle)
/-- how a sequence stands, by its form: a tuple (true), a list (false) -/
def SqD (t : Bool) (d : D) (ds : List D) : Prop := if t then d = .tup ds ∨ d = .gtup ds else d = .lst ds
theorem SqD.at {K : PySem.W.Frag} {B : Hp} {t : Bool} {x : V} (h : SqD t d ds) (r : Rep K B d x) : ∃ p xs, x = .ref p ∧ SqA K t B p xs ∧ Reps K B ds xs := by
  cases t
  · cases (show d = .lst ds from h)
    obtain ⟨p, xs, e, h, q⟩ := r
    exact ⟨p, xs, e, SqL.of h, q⟩
  · rcases (show d = .tup ds ∨ d = .gtup ds from h) with rfl | rfl
    · obtain ⟨p, xs, e, h, q⟩ := r
      exact ⟨p, xs, e, SqT.of h, q⟩
    · obtain ⟨p, xs, o, e, h, _, q⟩ := r
      exact ⟨p, xs, e, .inl (.inr ⟨o, h⟩), q⟩
theorem SqA.inc {K : PySem.W.Frag} {B H : Hp} {t : Bool} {p : Addr} {xs : List V} (s : Inc B H) (h : SqA K t B p xs) : SqA K t H p xs := by
  cases t
  · exact SqL.wk s.wk h
  · rcases (show SqT K B p xs from h) with h | h
    · exact .inl (s.rd h)
    · exact .inr h
theorem DI_zip {tgs : List Expr} {kk : Nat} {tpos : Pos} (t u : Bool) (hm : X.mg "zip" = none) (ha : DE X a ρ μ d1 μ1) (hb : DE X b ρ μ1 d2 μ2) (h1 : SqD t d1 ds) (h2 : SqD u d2 es) (hl : ds.length = es.length) (hg : Gl X "zip" := by rfl)
    (hs : starEach [a, b] X.env = (false, eval a X.env) :: starEach [b] X.env := by rfl) (hs2 : starEach [b] X.env = (false, eval b X.env) :: starEach [] X.env := by rfl) (hpl : (backTo pos (starEach [b] X.env)).any (·.1) = false := by rfl) :
    DI X (.Tuple tgs kk tpos) (.Call (.Name "zip" cp) [a, b] [] pos) ρ μ (pairs ds es) (fun _ => True) μ2 := fun B H σ R S L k =>
  piW (pi_zipTL t u hg hm (pa_w (es := [a, b])) hs hpl) (DA_cons ha (DA_cons hb DA_nil hs2) hs B H σ _ S L fun B1 H1 vs i1 S1 r1 => by
    obtain ⟨x, y, rfl, rx, ry⟩ := reps2 r1
    obtain ⟨p, xs, rfl, qx, rx⟩ := h1.at rx
    obtain ⟨q, ys, rfl, qy, ry⟩ := h2.at ry
    have e1 := rx.length
    have e2 := ry.length
    refine ⟨p, q, xs, ys, rfl, qx.inc S1.sub, qy.inc S1.sub, fun hz => k B1 H1 _ i1 S1 ?_ fun i B' H μ i2 S2 _ => ?_⟩
    · have := le_of_line hz e1
      simp [pairs]; omega
    · have hx := qx.inc (i2.trans S2.sub)
      have hy := qy.inc (i2.trans S2.sub)
      refine ⟨fun d e => ?_, fun hl => ⟨xs, ys, hx, hy, by omega, by simp [pairs] at hl; omega⟩⟩
      obtain ⟨c1, c2, h3, h4, rfl⟩ := pairs_get e
      obtain ⟨v1, f1, f2⟩ := rx.get h3
      obtain ⟨v2, f3, f4⟩ := ry.get h4
      refine ⟨⟨xs, ys, v1, v2, hx, hy, f1, f3⟩, fun z H' ⟨T, x', y', g1, nT, g2, g3, g4⟩ => ?_⟩
      subst g1 g2
      have h5 := g3 xs hx
      rw [f1] at h5; cases h5
      have h6 := g4 ys hy
      rw [f3] at h6; cases h6
      exact new_pair S2 nT (f2.inc i2) (f4.inc i2))
theorem iter_keysB (he : PE X e (wE X e)) : PI X tg e (fun σ H R => wE X e σ H fun x H1 => ∃ d o kvs, x = .ref d ∧ H1 d = some (.frz o (.dT kvs)) ∧ (kvs.length ≤ sizeLine → R (Itkt d o kvs) H1)) := by
  refine ⟨fun pins s σ H R I h => ?_⟩
  have P : PI X tg e (iKeys (fun σ H Q => wE X e σ H fun x H1 => ∃ d o kvs, x = .ref d ∧ H1 d = some (.frz o (.dT kvs)) ∧ (kvs.length ≤ sizeLine → Q x H1))) := pi_keys ⟨fun pins s σ H Q I h => by
    refine thn (he.run pins s _ _ _ I h) fun v s1 ⟨x, H1, I1, r1, d, o, kvs, ex, e1, q⟩ => ?_
    have hz : kvs.length ≤ sizeLine := by
      obtain ⟨_, z, _⟩ := (show ObjOk X.prog X.w H1 s1.heap d (.frz o (.dT kvs)) from I1.hok d _ e1)
      exact z
    exact ⟨x, H1, I1, r1, q hz⟩⟩
  refine P.run pins s σ H R I ?_
  have mono : ∀ {Q Q' : VK}, (∀ x H, Q x H → Q' x H) → wE X e σ H Q → wE X e σ H Q' := fun hq h => peW (t := fun σ H Q => ∃ Q2 : VK, (∀ x H, Q2 x H → Q x H) ∧ wE X e σ H Q2) ⟨fun pins s σ H Q I ⟨Q2, hq, h⟩ => thn (he.run pins s _ _ _ I h) fun v s1 ⟨x, H1, I1, r1, q⟩ => ⟨x, H1, I1, r1, hq _ _ q⟩⟩ ⟨_, hq, h⟩
  exact mono (fun x H1 ⟨d, o, kvs, ex, e1, q⟩ => ⟨d, o, kvs, ex, e1, fun hz => ⟨d, o, ex, .inr ⟨kvs, e1, q hz⟩⟩⟩) h
end
end Od
namespace Od
open PySem PySem.Spec PyProof.Rows L2
theorem Wk.trans {A B C : Hp} (h : Wk A B) (g : Wk B C) : Wk A C :=
  ⟨fun a xs e => g.t _ _ (h.t _ _ e), fun a xs e => g.l _ _ (h.l _ _ e), fun a xs e => g.r _ _ (h.r _ _ e), fun a ws e => g.d _ _ (h.d _ _ e), fun a C dx fs e => g.i _ _ _ _ (h.i _ _ _ _ e), fun a o xs e => g.g _ _ _ (h.g _ _ _ e)⟩
section
variable {K : PySem.W.Frag} {B H : Hp} {μ : Mu} {p : Addr} {ws : List (List Key × V)} {od : Obj}
theorem inc_lock (S : Sat K B H μ) (e : B p = some (.dT ws)) : Sat K (upd B p (.frz od (.dT ws))) (upd H p (.frz od (.dT ws))) μ := by
  refine ⟨fun b u h => ?_, S.nd, fun q hq => ?_⟩
  · by_cases hb : b = p
    · subst hb; rw [upd_same] at h ⊢; exact h
    · rw [upd_ne hb] at h ⊢; exact S.sub _ _ h
  · obtain ⟨h1, h2⟩ := S.own q hq
    have ne : q.1 ≠ p := fun z => by rw [z, e] at h1; cases h1
    exact ⟨by rw [upd_ne ne]; exact h1, h2.wk (Wk.lock e) (upd_ne ne)⟩
theorem inc_unlock (S : Sat K B H μ) (e : B p = some (.frz od (.dT ws))) : Sat K (upd B p (.dT ws)) (upd H p (.dT ws)) μ := by
  refine ⟨fun b u h => ?_, S.nd, fun q hq => ?_⟩
  · by_cases hb : b = p
    · subst hb; rw [upd_same] at h ⊢; exact h
    · rw [upd_ne hb] at h ⊢; exact S.sub _ _ h
  · obtain ⟨h1, h2⟩ := S.own q hq
    have ne : q.1 ≠ p := fun z => by rw [z, e] at h1; cases h1
    exact ⟨by rw [upd_ne ne]; exact h1, h2.wk (Wk.unlock e) (upd_ne ne)⟩
/-- behind the lock all that was held is held again -/
theorem inc_back {B' : Hp} (e : B p = some (.dT ws)) (i : Inc (upd B p (.frz od (.dT ws))) B') : Inc B (upd B' p (.dT ws)) := fun b u h => by
  by_cases hb : b = p
  · subst hb; rw [upd_same, ← h, e]
  · rw [upd_ne hb]; exact i _ _ (by rw [upd_ne hb]; exact h)
end
section
variable {X : Cx} {e a b c tg iter : Expr} {st : Stmt} {body : List Stmt} {ρ ρ' ρ1 ρ2 : Rho} {μ μ0 μ1 μ2 μ3 : Mu} {d d1 d2 : D} {pos : Pos} {ds items : List D} {P P' : Out → Prop} {C : Mu → Prop} {ks : List (List Int × D)}
/-- a statement under the lock of the dict that iter names -/
theorem DS_lock (hv : DV X iter ρ (.dic ks))
    (h : ∀ (B H : Hp) (σ : L2.St) (Dn : Ends) (p : Addr) (o : Obj) (ws : List (List Key × V)), Sat X.K B H μ → Slots X.K B ρ σ → B p = some (.frz o (.dT ws)) → RepK X.K B ks ws →
      (∀ (B' H' : Hp) (Q : VK), Inc B B' → Inc B' H' → Q (.ref p) H' → wE X iter σ H' Q) → (∀ o, P o → OutK X.K B Dn o) → wS X st Dn σ H) : DS X st ρ μ P := fun B H σ Dn S L k => by
  obtain ⟨v, ⟨p, ws, rfl, hr, rk⟩, f⟩ := hv B σ L
  rcases hr with e | ⟨o, e⟩
  · refine psW (ps_lock ps_w) ⟨p, .dT ws, S.sub _ _ e, True.intro, fun od => ?_⟩
    have wl : Wk B (upd B p (.frz od (.dT ws))) := Wk.lock e
    refine h (upd B p (.frz od (.dT ws))) _ σ _ p od ws (inc_lock S e) (L.wk wl) upd_same (RepK.wk wl _ _ rk) (fun B' H' Q i1 i2 q => f B' H' Q (wl.trans i1.wk) i2 q) fun o q => ?_
    have back : ∀ {B' H' : Hp} {μ' : Mu}, Inc (upd B p (.frz od (.dT ws))) B' → Sat X.K B' H' μ' → H' p = some (.frz od (.dT ws)) ∧ Inc B (upd B' p (.dT ws)) ∧ Sat X.K (upd B' p (.dT ws)) (upd H' p (.dT ws)) μ' ∧ Wk B' (upd B' p (.dT ws)) := fun {B' H' μ'} i S' => by
      have eb : B' p = some (.frz od (.dT ws)) := i _ _ upd_same
      exact ⟨S'.sub _ _ eb, inc_back e i, inc_unlock S' eb, Wk.unlock eb⟩
    cases o with
    | nx ρ' μ' => exact fun B' H' σ' i S' L' => let ⟨b1, b2, b3, b4⟩ := back i S'; ⟨b1, k _ q _ _ σ' b2 b3 (L'.wk b4)⟩
    | bk ρ' μ' => exact fun B' H' σ' i S' L' => let ⟨b1, b2, b3, b4⟩ := back i S'; ⟨b1, k _ q _ _ σ' b2 b3 (L'.wk b4)⟩
    | ct ρ' μ' => exact fun B' H' σ' i S' L' => let ⟨b1, b2, b3, b4⟩ := back i S'; ⟨b1, k _ q _ _ σ' b2 b3 (L'.wk b4)⟩
    | rt d μ' => exact fun B' H' v i S' r => let ⟨b1, b2, b3, b4⟩ := back i S'; ⟨b1, k _ q _ _ v b2 b3 (Rep.wk b4 _ _ r)⟩
  · exact h B H σ Dn p o ws S L e rk (fun B' H' Q i1 i2 q => f B' H' Q i1.wk i2 q) k
/-- an expression under the lock: a new thing -/
theorem DN_lock (hv : DV X iter ρ (.dic ks))
    (h : ∀ (B H : Hp) (σ : L2.St) (Q : VK) (p : Addr) (o : Obj) (ws : List (List Key × V)), Sat X.K B H μ → Slots X.K B ρ σ → B p = some (.frz o (.dT ws)) → RepK X.K B ks ws →
      (∀ (B' H' : Hp) (Q : VK), Inc B B' → Inc B' H' → Q (.ref p) H' → wE X iter σ H' Q) → Kn X.K B μ1 d Q → wE X e σ H Q) : DN X e ρ μ d μ1 := fun B H σ Q S L k => by
  obtain ⟨v, ⟨p, ws, rfl, hr, rk⟩, f⟩ := hv B σ L
  rcases hr with e | ⟨o, e⟩
  · refine peW (pe_lock pe_w) ⟨p, .dT ws, S.sub _ _ e, True.intro, fun od => ?_⟩
    have wl : Wk B (upd B p (.frz od (.dT ws))) := Wk.lock e
    refine h (upd B p (.frz od (.dT ws))) _ σ _ p od ws (inc_lock S e) (L.wk wl) upd_same (RepK.wk wl _ _ rk) (fun B' H' Q i1 i2 q => f B' H' Q (wl.trans i1.wk) i2 q) fun B' H' a i S' => ?_
    have eb : B' p = some (.frz od (.dT ws)) := i _ _ upd_same
    exact ⟨S'.sub _ _ eb, k _ _ a (inc_back e i) (inc_unlock S' eb)⟩
  · exact h B H σ Q p o ws S L e rk (fun B' H' Q i1 i2 q => f B' H' Q i1.wk i2 q) k
/-- the keys as items -/
def keysD (ks : List (List Int × D)) : List D := ks.map fun p => D.tup (p.1.map D.int)
theorem feeds_k {K : PySem.W.Frag} {B : Hp} {p : Addr} {o : Obj} {ws : List (List Key × V)} (h : B p = some (.frz o (.dT ws))) (r : RepK K B ks ws) : Feeds K B (Itkt p o ws) (keysD ks) fun _ => True := fun i B' H μ i1 S _ => by
  have hq : H p = some (.frz o (.dT ws)) := S.sub _ _ (i1 _ _ h)
  refine ⟨fun d e => ?_, fun hl => ⟨hq, by rw [r.length]; simp [keysD] at hl; omega⟩⟩
  unfold keysD at e
  rw [List.getElem?_map] at e
  cases hk : ks[i]? with
  | none => rw [hk] at e; cases e
  | some kd =>
    rw [hk] at e; cases e
    obtain ⟨k, d0⟩ := kd
    obtain ⟨x, e1, _⟩ := r.get hk
    refine ⟨⟨hq, (List.getElem?_eq_some_iff.mp e1).1⟩, fun y H' ⟨e2, k', v', q, e3, e4, e5⟩ => ?_⟩
    subst e2 e4
    rw [e1] at e3; cases e3
    -- the key's own tuple is held
    have key : ∀ Bz : Hp, Bz q = some (.tup ((k.map (Sum.inl : Int → Key)).map kV)) → Rep K Bz (.tup (k.map D.int)) (.ref q) := fun Bz hz => ⟨q, _, rfl, hz, Reps.ofKints⟩
    cases hb : B' q with
    | some u =>
      have := S.sub _ _ hb
      rw [e5] at this; cases this
      exact ⟨B', Inc.refl B', S, key B' hb⟩
    | none =>
      have i2 := Inc.new (o := .tup ((k.map (Sum.inl : Int → Key)).map kV)) hb
      refine ⟨_, i2, ⟨fun b u h => ?_, S.nd, fun z hz => ?_⟩, key _ upd_same⟩
      · by_cases hbq : b = q
        · subst hbq; rw [upd_same] at h; cases h; exact e5
        · rw [upd_ne hbq] at h; exact S.sub _ _ h
      · obtain ⟨h1, h2⟩ := S.own z hz
        obtain ⟨u, h3, m⟩ := h2.some
        have ne : z.1 ≠ q := fun w => by rw [w, e5] at h3; cases h3; exact m
        exact ⟨by rw [upd_ne ne]; exact h1, h2.inc i2 rfl⟩
/-- a source at one state -/
def DIat (X : Cx) (tg iter : Expr) (B H : Hp) (σ : L2.St) (items : List D) (C : Mu → Prop) (μ' : Mu) : Prop := ∀ (R : It → Hp → Prop),
  (∀ (B' H' : Hp) (J : It), Inc B B' → Sat X.K B' H' μ' → items.length ≤ 16777216 → Feeds X.K B' J items C → R J H') → wI X tg iter σ H R
theorem DI_keys {B H : Hp} {σ : L2.St} {p : Addr} {o : Obj} {ws : List (List Key × V)} (S : Sat X.K B H μ) (e : B p = some (.frz o (.dT ws))) (r : RepK X.K B ks ws)
    (f : ∀ (B' H' : Hp) (Q : VK), Inc B B' → Inc B' H' → Q (.ref p) H' → wE X iter σ H' Q) : DIat X tg iter B H σ (keysD ks) (fun _ => True) μ := fun R k =>
  piW (iter_keysB pe_w) (f B H _ (Inc.refl B) S.sub ⟨p, o, ws, rfl, S.sub _ _ e, fun hz => k B H _ (Inc.refl B) S (le_of_line hz (by rw [r.length]; simp [keysD])) (feeds_k e r)⟩)
theorem for_core {B H : Hp} {σ : L2.St} {Dn : Ends} (L : Slots X.K B ρ σ) (k : ∀ o, P o → OutK X.K B Dn o) (hI : DIat X tg iter B H σ items C μ0) (I : Nat → Rho → Mu → Prop) (h0 : I 0 ρ μ0) (hC : ∀ i ρ μ, I i ρ μ → C μ)
    (hs : ∀ i d ρ μ, items[i]? = some d → I i ρ μ → ∃ ρ' is, DG X tg d ρ ρ' is ∧ DSs X body ρ' μ (LoopP (I (i + 1)) P)) (hd : ∀ ρ μ, I items.length ρ μ → P (.nx ρ μ))
    (hp : PassesOwn (model X.prog X.w) X.A X.env X.xe) (hc : X.calm = true) (hfs : ∀ x, foldedSetIterable iter X.env x = pure x) : wS X (.For tg iter body [] pos) Dn σ H := by
  refine psW (ps_for hp hc pi_w pg_w pss_w hfs) (hI _ fun B1 H1 J i1 S1 hl F => ?_)
  refine ⟨fun i m σ H => ∃ B' ρ' μ', Inc B1 B' ∧ Sat X.K B' H μ' ∧ Slots X.K B' ρ' σ ∧ I i ρ' μ' ∧ m = items.length - i ∧ i ≤ items.length, ⟨_, B1, ρ, μ0, Inc.refl B1, S1, L.inc i1, h0, rfl, Nat.zero_le _⟩, ?_⟩
  rintro i m σ2 H2 ⟨B2, ρ2, μ2, i2, S2, L2', w2, rfl, hi⟩
  obtain ⟨f1, f2⟩ := F i B2 H2 μ2 i2 S2 (hC i ρ2 μ2 w2)
  by_cases hlt : i < items.length
  · obtain ⟨g, y⟩ := f1 _ (List.getElem?_eq_getElem hlt)
    obtain ⟨ρ3, is, hg, hb⟩ := hs i _ ρ2 μ2 (List.getElem?_eq_getElem hlt) w2
    refine .inr ⟨g, fun σ' H' => ∃ B' ρ' μ', Inc B1 B' ∧ Sat X.K B' H' μ' ∧ Slots X.K B' ρ' σ' ∧ I (i + 1) ρ' μ', fun σ' H' ⟨B', ρ', μ', q1, q2, q3, q4⟩ => ⟨items.length - (i + 1), by omega, B', ρ', μ', q1, q2, q3, q4, rfl, hlt⟩, fun x H' yy => ?_⟩
    obtain ⟨B3, i3, S3, r3⟩ := y x H' yy
    refine hg B3 H' σ2 x μ2 _ r3 (L2'.inc i3) S3 fun σ4 L4 _ _ => hb B3 H' σ4 _ S3 L4 fun o q => ?_
    cases o with
    | nx ρ' μ' => exact fun B4 H4 σ4 i4 S4 L4 => ⟨B4, ρ', μ', (i2.trans i3).trans i4, S4, L4, q⟩
    | ct ρ' μ' => exact fun B4 H4 σ4 i4 S4 L4 => ⟨B4, ρ', μ', (i2.trans i3).trans i4, S4, L4, q⟩
    | bk ρ' μ' => exact (k (.nx ρ' μ') q).inc ((i1.trans i2).trans i3)
    | rt d μ' => exact (k (.rt d μ') q).inc ((i1.trans i2).trans i3)
  · have e : i = items.length := by omega
    subst e
    exact .inl ⟨f2 rfl, k _ (hd ρ2 μ2 w2) B2 H2 σ2 (i1.trans i2) S2 L2'⟩
/-- for k in d -/
theorem DS_forD (hv : DV X iter ρ (.dic ks)) (I : Nat → Rho → Mu → Prop) (h0 : I 0 ρ μ)
    (hs : ∀ i k d ρ μ, ks[i]? = some (k, d) → I i ρ μ → ∃ ρ' is, DG X tg (.tup (k.map .int)) ρ ρ' is ∧ DSs X body ρ' μ (LoopP (I (i + 1)) P)) (hd : ∀ ρ μ, I ks.length ρ μ → P (.nx ρ μ))
    (hp : PassesOwn (model X.prog X.w) X.A X.env X.xe := by exact PassesOwn.never) (hc : X.calm = true := by rfl) (hfs : ∀ x, foldedSetIterable iter X.env x = pure x := by intro _; rfl) : DS X (.For tg iter body [] pos) ρ μ P :=
  DS_lock hv fun B H σ Dn p o ws S L e r f k => for_core (items := keysD ks) (C := fun _ => True) L k (DI_keys S e r f) I h0 (fun _ _ _ _ => True.intro) (fun i d ρ μ e w => by
    unfold keysD at e
    rw [List.getElem?_map] at e
    cases hk : ks[i]? with
    | none => rw [hk] at e; cases e
    | some kd =>
      rw [hk] at e; cases e
      exact hs i kd.1 kd.2 ρ μ hk w) (fun ρ μ w => hd ρ μ (by simpa [keysD] using w)) hp hc hfs
end
section
variable (X : Cx) (scope : Scope)
/-- in every context of the block -/
abbrev Blk (F : Cx → Prop) : Prop := ∀ (s0 : Shared) (H0 : Hp) (Cc : Addr) (cl : List (Str × Addr)) (fp : List Addr), F (X.blk s0 H0 scope (compEnvC scope cl Cc X.env) fp)
def bE (e : Expr) : TE := fun σ H Q => Blk X scope fun Y => wE Y e σ H Q
def bG (e : Expr) : TG := fun v σ H Q => Blk X scope fun Y => wG Y e v σ H Q
def bI (tg e : Expr) : TI := fun σ H R => Blk X scope fun Y => wI Y tg e σ H R
end
def wTs (X : Cx) (ifs : List Expr) : TT := fun σ H Q => ∀ (pins : List (Addr × Obj)) (s : Shared), Inv X pins σ H s →
  wpAny (model X.prog X.w) X.A (forIn ifs true fun c r => if r = true then do let ok ← isTrue c X.env (eval c X.env); pure (ForInStep.yield ok) else pure (ForInStep.yield r)) (TP X pins σ Q) X.xe s
def bTs (X : Cx) (scope : Scope) (ifs : List Expr) : TT := fun σ H Q => Blk X scope fun Y => wTs Y ifs σ H Q
def DTs (X : Cx) (ifs : List Expr) (ρ : Rho) (μ : Mu) (b : Bool) (μ' : Mu) : Prop := ∀ (B H : Hp) (σ : L2.St) (Q : Bool → Hp → Prop), Sat X.K B H μ → Slots X.K B ρ σ → Kt X.K B μ' b Q → wTs X ifs σ H Q
section
variable {X : Cx} {scope : Scope} {e tg : Expr} {ifs : List Expr}
theorem bG_pg : Blk X scope fun Y => PG Y tg (bG X scope tg) := fun s0 H0 Cc cl fp => ⟨fun pins s σ H v u Q I r h => pg_w.run pins s σ H v u Q I r (h s0 H0 Cc cl fp)⟩
theorem bE_pe : Blk X scope fun Y => PE Y e (bE X scope e) := fun s0 H0 Cc cl fp => ⟨fun pins s σ H Q I h => pe_w.run pins s σ H Q I (h s0 H0 Cc cl fp)⟩
theorem bI_pi : Blk X scope fun Y => PI Y tg e (bI X scope tg e) := fun s0 H0 Cc cl fp => ⟨fun pins s σ H Q I h => pi_w.run pins s σ H Q I (h s0 H0 Cc cl fp)⟩
theorem bTs_pt : Blk X scope fun Y => PTs Y ifs (bTs X scope ifs) := fun s0 H0 Cc cl fp => ⟨fun pins s σ H Q I h => h s0 H0 Cc cl fp pins s I⟩
end
section
variable {X : Cx} {scope : Scope} {e a b c tg iter elt : Expr} {ifs : List Expr} {ρ ρ' ρ1 ρ2 : Rho} {μ μ0 μ1 μ2 μ3 : Mu} {d d1 d2 : D} {pos : Pos} {ds items : List D} {C : Mu → Prop} {ks : List (List Int × D)} {own : List (Str × Nat)} {vs : List Nat} {t : Bool}
theorem DTs_nil : DTs X [] ρ μ true μ := fun B H σ Q S L k pins s I => pts_nil.run pins s σ H Q I (k B H (Inc.refl B) S)
theorem DTs_one (h : DT X c ρ μ t μ1) : DTs X [c] ρ μ t μ1 := fun B H σ Q S L k pins s I => (pts_one pt_w).run pins s σ H Q I (h B H σ Q S L k)
theorem wipe_eq {σ σ' : L2.St} : ∀ {vs : List Nat}, σ'.length = σ.length → (∀ j, j ∉ vs → σ'[j]? = σ[j]?) → wipe σ' vs = wipe σ vs := fun {vs} hl h => by
  apply List.ext_getElem?
  intro i
  by_cases hi : i ∈ vs
  · have z : ∀ (τ : L2.St) (ws : List Nat), i ∈ ws → (wipe τ ws)[i]? = if i < τ.length then some none else none := by
      intro τ ws
      induction ws with
      | nil => intro h; cases h
      | cons v ws ih =>
        intro hm
        unfold wipe
        by_cases hv : v = i
        · subst hv
          by_cases hl : v < τ.length
          · rw [List.getElem?_set_self (by rw [wipe_length]; exact hl), if_pos hl]
          · rw [if_neg hl, List.getElem?_eq_none (by rw [List.length_set, wipe_length]; omega)]
        · rw [List.getElem?_set_ne hv]
          exact ih (by rcases List.mem_cons.mp hm with e | e; exact absurd e.symm hv; exact e)
    rw [z σ' vs hi, z σ vs hi, hl]
  · rw [wipe_out hi, wipe_out hi]; exact h i hi
theorem wipe_wipe (σ : L2.St) (vs : List Nat) : wipe (wipe σ vs) vs = wipe σ vs := wipe_eq (wipe_length σ vs) fun j hj => wipe_out hj
theorem comp_core {B H : Hp} {σ : L2.St} {Q : VK} (L : Slots X.K B ρ σ) (hI : DIat X tg iter B H σ items C μ0) (A : Nat → List D) (M : Nat → Mu) (hA : A 0 = []) (hM : M 0 = μ0) (hC : ∀ i a, C ((a, .lst (A i)) :: M i))
    (hs : ∀ i d a, items[i]? = some d → ∃ ρ' is, (Blk X scope fun Y => DG Y tg d (wipeR ρ vs) ρ' is) ∧ (∀ j ∈ is, j ∈ vs) ∧ ∃ t, (Blk X scope fun Y => DTs Y ifs ρ' ((a, .lst (A i)) :: M i) t ((a, .lst (A i)) :: M i)) ∧
      (t = true → ∃ y, (Blk X scope fun Y => DE Y elt ρ' ((a, .lst (A i)) :: M i) y ((a, .lst (A i)) :: M (i + 1))) ∧ A (i + 1) = A i ++ [y]) ∧ (t = false → M (i + 1) = M i ∧ A (i + 1) = A i))
    (k : Kn X.K B (M items.length) (.lst (A items.length)) Q) : tLc (wI X tg iter) (bG X scope tg) (bTs X scope ifs) (bE X scope elt) vs σ H Q := by
  refine hI _ fun B1 H1 J i1 S1 hl F Da hD => ?_
  rw [← hM] at S1
  refine ⟨fun i m H => ∃ B', Inc B1 B' ∧ Sat X.K B' H ((Da, .lst (A i)) :: M i) ∧ (A i).length ≤ i ∧ m = items.length - i ∧ i ≤ items.length, ⟨_, B1, Inc.refl B1, ?_, by rw [hA]; exact Nat.zero_le _, rfl, Nat.zero_le _⟩, ?_⟩
  · rw [hA]
    exact S1.newM hD ⟨[], upd_same, rfl⟩
  rintro i m H2 ⟨B2, i2, S2, hAi, rfl, hi⟩
  obtain ⟨f1, f2⟩ := F i B2 H2 _ i2 S2 (hC i Da)
  by_cases hlt : i < items.length
  · obtain ⟨g, y⟩ := f1 _ (List.getElem?_eq_getElem hlt)
    obtain ⟨ρ3, is, hg, his, t, ht, h1, h0⟩ := hs i _ Da (List.getElem?_eq_getElem hlt)
    refine .inr ⟨g, fun H' => ∃ B', Inc B1 B' ∧ Sat X.K B' H' ((Da, .lst (A (i + 1))) :: M (i + 1)) ∧ (A (i + 1)).length ≤ i + 1, fun H' ⟨B', q1, q2, q3⟩ => ⟨items.length - (i + 1), by omega, B', q1, q2, q3, rfl, hlt⟩, fun x H' yy => ?_⟩
    obtain ⟨B3, i3, S3, r3⟩ := y x H' yy
    have L3 : Slots X.K B3 (wipeR ρ vs) (wipe σ vs) := (L.inc ((i1.trans i2).trans i3)).wipe vs
    intro s0 H0 Cc cl fp
    refine hg s0 H0 Cc cl fp B3 H' (wipe σ vs) x _ _ r3 L3 S3 fun σ4 L4 e4 k4 => ⟨?_, fun s0 H0 Cc cl fp => ht s0 H0 Cc cl fp B3 H' σ4 _ S3 L4 fun B4 H4 i4 S4 => ?_⟩
    · rw [wipe_eq e4 fun j hj => k4 j fun z => hj (his j z), wipe_wipe]
    · cases t with
      | false =>
        obtain ⟨z1, z2⟩ := h0 rfl
        rw [if_neg Bool.false_ne_true]
        exact ⟨B4, (i2.trans i3).trans i4, by rw [z1, z2]; exact S4, by rw [z2]; omega⟩
      | true =>
        rw [if_pos rfl]
        obtain ⟨y, hy, hA1⟩ := h1 rfl
        intro s0 H0 Cc cl fp
        refine hy s0 H0 Cc cl fp B4 H4 σ4 _ S4 (L4.inc i4) fun B5 H5 v i5 S5 r5 => ?_
        obtain ⟨xs, hx, rx⟩ := own_lst (n := 0) S5 rfl
        refine ⟨xs, hx, by rw [rx.length, sizeLine_eq]; omega, B5, ((i2.trans i3).trans i4).trans i5, ?_, by rw [hA1, List.length_append]; simp; omega⟩
        rw [hA1]
        exact S5.write (n := 0) (c' := .lst (A i ++ [y])) rfl ⟨_, upd_same, rx.append (Reps.one r5)⟩
  · have e : i = items.length := by omega
    subst e
    exact .inl ⟨f2 rfl, k B2 H2 Da (i1.trans i2) S2⟩
theorem pe_lcW (hc : X.calm = true) (hN : X.N.Nodup) (ok : BlkOk X.N X.env.scope scope own) (hfs : ∀ x, foldedSetIterable iter X.env x = pure x) :
    PE X (.ListComp elt [⟨tg, iter, ifs, 0⟩] scope pos) (tLc (wI X tg iter) (bG X scope tg) (bTs X scope ifs) (bE X scope elt) (own.map (·.2))) :=
  pe_lc hc hN pi_w ok bG_pg bTs_pt bE_pe hfs
/-- A: the list so far, M: the owned things so far -/
theorem DN_lcM (own : List (Str × Nat)) (hI : DI X tg iter ρ μ items C μ0) (A : Nat → List D) (M : Nat → Mu) (hA : A 0 = []) (hM : M 0 = μ0) (hC : ∀ i a, C ((a, .lst (A i)) :: M i))
    (hs : ∀ i d a, items[i]? = some d → ∃ ρ' is, (Blk X scope fun Y => DG Y tg d (wipeR ρ (own.map (·.2))) ρ' is) ∧ (∀ j ∈ is, j ∈ own.map (·.2)) ∧ ∃ t, (Blk X scope fun Y => DTs Y ifs ρ' ((a, .lst (A i)) :: M i) t ((a, .lst (A i)) :: M i)) ∧
      (t = true → ∃ y, (Blk X scope fun Y => DE Y elt ρ' ((a, .lst (A i)) :: M i) y ((a, .lst (A i)) :: M (i + 1))) ∧ A (i + 1) = A i ++ [y]) ∧ (t = false → M (i + 1) = M i ∧ A (i + 1) = A i))
    (hN : X.N.Nodup) (ok : blkC X.N X.env.scope scope own = true := by kernel_rfl) (hc : X.calm = true := by rfl) (hfs : ∀ x, foldedSetIterable iter X.env x = pure x := by intro _; rfl) :
    DN X (.ListComp elt [⟨tg, iter, ifs, 0⟩] scope pos) ρ μ (.lst (A items.length)) (M items.length) := fun B H σ Q S L k =>
  peW (pe_lcW hc hN (blkOk_by ok) hfs) (comp_core L (fun R q => hI B H σ R S L q) A M hA hM hC hs k)
/-- the list of f x for the x of xs that are p -/
theorem step_pure {α : Type} {xs : List α} {p : α → Bool} {f : α → D} {i : Nat} {x : α} (e : xs[i]? = some x) : ((xs.take (i + 1)).filter p).map f = if p x = true then ((xs.take i).filter p).map f ++ [f x] else ((xs.take i).filter p).map f := by
  rw [List.take_add_one, e, List.filter_append, List.map_append]
  show _ ++ (([x].filter p).map f) = _
  by_cases h : p x = true
  · rw [if_pos h, List.filter_cons_of_pos h]; rfl
  · rw [if_neg h, List.filter_cons_of_neg h]; simp
theorem DN_lc (own : List (Str × Nat)) {α : Type} (xs : List α) (enc : α → D) (p : α → Bool) (f : α → D) (hI : DI X tg iter ρ μ (xs.map enc) C μ0) (hC : ∀ a l, C ((a, .lst l) :: μ0))
    (hs : ∀ x ∈ xs, ∀ a l, ∃ ρ' is, (Blk X scope fun Y => DG Y tg (enc x) (wipeR ρ (own.map (·.2))) ρ' is) ∧ (∀ j ∈ is, j ∈ own.map (·.2)) ∧ (Blk X scope fun Y => DTs Y ifs ρ' ((a, .lst l) :: μ0) (p x) ((a, .lst l) :: μ0)) ∧
      (p x = true → Blk X scope fun Y => DE Y elt ρ' ((a, .lst l) :: μ0) (f x) ((a, .lst l) :: μ0)))
    (hN : X.N.Nodup) (ok : blkC X.N X.env.scope scope own = true := by kernel_rfl) (hc : X.calm = true := by rfl) (hfs : ∀ x, foldedSetIterable iter X.env x = pure x := by intro _; rfl) :
    DN X (.ListComp elt [⟨tg, iter, ifs, 0⟩] scope pos) ρ μ (.lst ((xs.filter p).map f)) μ0 := by
  have h := DN_lcM (scope := scope) (elt := elt) (ifs := ifs) (pos := pos) own hI (fun i => ((xs.take i).filter p).map f) (fun _ => μ0) rfl rfl (fun i a => hC a _) (fun i d a e => by
    rw [List.getElem?_map] at e
    cases hx : xs[i]? with
    | none => rw [hx] at e; cases e
    | some x =>
      rw [hx] at e; cases e
      obtain ⟨ρ', is, h1, h2, h3, h4⟩ := hs x (List.mem_of_getElem? hx) a (((xs.take i).filter p).map f)
      refine ⟨ρ', is, h1, h2, p x, h3, fun t => ⟨f x, h4 t, ?_⟩, fun t => ⟨rfl, ?_⟩⟩
      · show ((xs.take (i + 1)).filter p).map f = _
        rw [step_pure hx, if_pos t]
      · show ((xs.take (i + 1)).filter p).map f = _
        rw [step_pure hx, if_neg (by rw [t]; exact Bool.false_ne_true)]) hN ok hc hfs
  simp only [List.length_map, List.take_length] at h
  exact h
/-- over a dict's keys -/
theorem DN_lcD (own : List (Str × Nat)) (p : U → Bool) (f : U → D) {us : List U} (hv : DV X iter ρ (.dic ks)) (hk : keysD ks = us.map uD)
    (hs : ∀ x ∈ us, ∀ a l, ∃ ρ' is, (Blk X scope fun Y => DG Y tg (uD x) (wipeR ρ (own.map (·.2))) ρ' is) ∧ (∀ j ∈ is, j ∈ own.map (·.2)) ∧ (Blk X scope fun Y => DTs Y ifs ρ' ((a, .lst l) :: μ) (p x) ((a, .lst l) :: μ)) ∧
      (p x = true → Blk X scope fun Y => DE Y elt ρ' ((a, .lst l) :: μ) (f x) ((a, .lst l) :: μ)))
    (hN : X.N.Nodup) (ok : blkC X.N X.env.scope scope own = true := by kernel_rfl) (hc : X.calm = true := by rfl) (hfs : ∀ x, foldedSetIterable iter X.env x = pure x := by intro _; rfl) :
    DN X (.ListComp elt [⟨tg, iter, ifs, 0⟩] scope pos) ρ μ (.lst ((us.filter p).map f)) μ :=
  DN_lock hv fun B H σ Q pa o ws S L e r g k => by
    have hI := DI_keys (tg := tg) S e r g
    rw [hk] at hI
    have k' : Kn X.K B μ (.lst (((us.take (us.map uD).length).filter p).map f)) Q := by
      rw [List.length_map, List.take_length]; exact k
    exact peW (pe_lcW hc hN (blkOk_by ok) hfs) (comp_core L hI (fun i => ((us.take i).filter p).map f) (fun _ => μ) rfl rfl (fun _ _ => True.intro) (fun i d a e => by
      rw [List.getElem?_map] at e
      cases hx : us[i]? with
      | none => rw [hx] at e; cases e
      | some x =>
        rw [hx] at e; cases e
        obtain ⟨ρ', is, h1, h2, h3, h4⟩ := hs x (List.mem_of_getElem? hx) a (((us.take i).filter p).map f)
        refine ⟨ρ', is, h1, h2, p x, h3, fun t => ⟨f x, h4 t, ?_⟩, fun t => ⟨rfl, ?_⟩⟩
        · show ((us.take (i + 1)).filter p).map f = _
          rw [step_pure hx, if_pos t]
        · show ((us.take (i + 1)).filter p).map f = _
          rw [step_pure hx, if_neg (by rw [t]; exact Bool.false_ne_true)]) k')
end
end Od
namespace Od
open PySem PySem.Spec PyProof.Rows L2
section
variable {X : Cx} {scope : Scope} {e a b c tg iter tg1 iter1 elt : Expr} {ifs : List Expr} {ρ ρ' ρ1 ρ2 : Rho} {μ μ0 μ1 μ2 μ3 : Mu} {d d1 d2 : D} {pos spos py' : Pos} {ds items : List D} {C : Mu → Prop} {ks : List (List Int × D)} {own : List (Str × Nat)} {vs : List Nat} {t : Bool} {P : Out → Prop} {x : Str}
/-- x = [..], x a plain local of the def -/
theorem ps_setLcW (i : Nat) (hc : X.calm = true) (hN : X.N.Nodup) (hi : X.N[i]? = some x) (hx : X.env.scope.names.lookup x = some .local) (hsw : swapsWith (.ListComp elt [⟨tg, iter, ifs, 0⟩] scope pos) (some (.Name x py')) spos.line X.env = pure true)
    (ok : BlkOk X.N X.env.scope scope own) (hfs : ∀ x, foldedSetIterable iter X.env x = pure x) :
    PS X (.Assign [.Name x py'] (.ListComp elt [⟨tg, iter, ifs, 0⟩] scope pos) spos) (tAsg (tLc (wI X tg iter) (bG X scope tg) (bTs X scope ifs) (bE X scope elt) (own.map (·.2))) (gName i)) :=
  ps_setLc hc hN hi hx hsw pi_w ok bG_pg bTs_pt bE_pe hfs
/-- the turns of a comprehension, for its rules -/
def Turns (X : Cx) (scope : Scope) (tg elt : Expr) (ifs : List Expr) (ρ : Rho) (vs : List Nat) (items : List D) (A : Nat → List D) (M : Nat → Mu) : Prop :=
  ∀ i d a, items[i]? = some d → ∃ ρ' is, (Blk X scope fun Y => DG Y tg d (wipeR ρ vs) ρ' is) ∧ (∀ j ∈ is, j ∈ vs) ∧ ∃ t, (Blk X scope fun Y => DTs Y ifs ρ' ((a, .lst (A i)) :: M i) t ((a, .lst (A i)) :: M i)) ∧
      (t = true → ∃ y, (Blk X scope fun Y => DE Y elt ρ' ((a, .lst (A i)) :: M i) y ((a, .lst (A i)) :: M (i + 1))) ∧ A (i + 1) = A i ++ [y]) ∧ (t = false → M (i + 1) = M i ∧ A (i + 1) = A i)
theorem DS_setLcM (i : Nat) (own : List (Str × Nat)) (hI : DI X tg iter ρ μ items C μ0) (A : Nat → List D) (M : Nat → Mu) (hA : A 0 = []) (hM : M 0 = μ0) (hC : ∀ i a, C ((a, .lst (A i)) :: M i))
    (hs : Turns X scope tg elt ifs ρ (own.map (·.2)) items A M) (h : ∀ p : Addr, P (.nx (ρ.set i (some (.ptr p))) ((p, .lst (A items.length)) :: M items.length)))
    (hN : X.N.Nodup) (ok : blkC X.N X.env.scope scope own = true := by kernel_rfl) (hi : X.N[i]? = some x := by rfl) (hx : X.env.scope.names.lookup x = some .local := by rfl) (hsw : swapsWith (.ListComp elt [⟨tg, iter, ifs, 0⟩] scope pos) (some (.Name x py')) spos.line X.env = pure true := by exact sw_true rfl rfl rfl (by kernel_rfl))
    (hc : X.calm = true := by rfl) (hfs : ∀ x, foldedSetIterable iter X.env x = pure x := by intro _; rfl) : DS X (.Assign [.Name x py'] (.ListComp elt [⟨tg, iter, ifs, 0⟩] scope pos) spos) ρ μ P := fun B H σ Dn S L k =>
  psW (ps_setLcW i hc hN hi hx hsw (blkOk_by ok) hfs) (comp_core (Q := fun x H1 => gName i x σ H1 Dn.nx) L (fun R q => hI B H σ R S L q) A M hA hM hC hs fun B1 H1 p i1 S1 => k _ (h p) B1 H1 _ i1 S1 ((L.inc i1).set (d := .ptr p) (v := .ref p) rfl i))
/-- the turns where nothing is written -/
theorem turns_pure {α : Type} {xs : List α} {enc : α → D} {p : α → Bool} {f : α → D}
    (hs : ∀ x ∈ xs, ∀ a l, ∃ ρ' is, (Blk X scope fun Y => DG Y tg (enc x) (wipeR ρ vs) ρ' is) ∧ (∀ j ∈ is, j ∈ vs) ∧ (Blk X scope fun Y => DTs Y ifs ρ' ((a, .lst l) :: μ0) (p x) ((a, .lst l) :: μ0)) ∧
      (p x = true → Blk X scope fun Y => DE Y elt ρ' ((a, .lst l) :: μ0) (f x) ((a, .lst l) :: μ0))) :
    Turns X scope tg elt ifs ρ vs (xs.map enc) (fun i => ((xs.take i).filter p).map f) (fun _ => μ0) := fun i d a e => by
  rw [List.getElem?_map] at e
  cases hx : xs[i]? with
  | none => rw [hx] at e; cases e
  | some x =>
    rw [hx] at e; cases e
    obtain ⟨ρ', is, h1, h2, h3, h4⟩ := hs x (List.mem_of_getElem? hx) a (((xs.take i).filter p).map f)
    refine ⟨ρ', is, h1, h2, p x, h3, fun t => ⟨f x, h4 t, ?_⟩, fun t => ⟨rfl, ?_⟩⟩
    · show ((xs.take (i + 1)).filter p).map f = _
      rw [step_pure hx, if_pos t]
    · show ((xs.take (i + 1)).filter p).map f = _
      rw [step_pure hx, if_neg (by rw [t]; exact Bool.false_ne_true)]
theorem DS_setLc (i : Nat) (own : List (Str × Nat)) {α : Type} (xs : List α) (enc : α → D) (p : α → Bool) (f : α → D) (hI : DI X tg iter ρ μ (xs.map enc) C μ0) (hC : ∀ a l, C ((a, .lst l) :: μ0))
    (hs : ∀ x ∈ xs, ∀ a l, ∃ ρ' is, (Blk X scope fun Y => DG Y tg (enc x) (wipeR ρ (own.map (·.2))) ρ' is) ∧ (∀ j ∈ is, j ∈ own.map (·.2)) ∧ (Blk X scope fun Y => DTs Y ifs ρ' ((a, .lst l) :: μ0) (p x) ((a, .lst l) :: μ0)) ∧
      (p x = true → Blk X scope fun Y => DE Y elt ρ' ((a, .lst l) :: μ0) (f x) ((a, .lst l) :: μ0)))
    (h : ∀ q : Addr, P (.nx (ρ.set i (some (.ptr q))) ((q, .lst ((xs.filter p).map f)) :: μ0)))
    (hN : X.N.Nodup) (ok : blkC X.N X.env.scope scope own = true := by kernel_rfl) (hi : X.N[i]? = some x := by rfl) (hx : X.env.scope.names.lookup x = some .local := by rfl) (hsw : swapsWith (.ListComp elt [⟨tg, iter, ifs, 0⟩] scope pos) (some (.Name x py')) spos.line X.env = pure true := by exact sw_true rfl rfl rfl (by kernel_rfl))
    (hc : X.calm = true := by rfl) (hfs : ∀ x, foldedSetIterable iter X.env x = pure x := by intro _; rfl) : DS X (.Assign [.Name x py'] (.ListComp elt [⟨tg, iter, ifs, 0⟩] scope pos) spos) ρ μ P :=
  DS_setLcM i own hI (fun i => ((xs.take i).filter p).map f) (fun _ => μ0) rfl rfl (fun i a => hC a _) (turns_pure hs) (fun q => by
    rw [List.length_map, List.take_length]
    exact h q) hN ok hi hx hsw hc hfs
/-- x = [.. for k in d ..] -/
theorem DS_setLcD (i : Nat) (own : List (Str × Nat)) (p : U → Bool) (f : U → D) {us : List U} (hv : DV X iter ρ (.dic ks)) (hk : keysD ks = us.map uD)
    (hs : ∀ x ∈ us, ∀ a l, ∃ ρ' is, (Blk X scope fun Y => DG Y tg (uD x) (wipeR ρ (own.map (·.2))) ρ' is) ∧ (∀ j ∈ is, j ∈ own.map (·.2)) ∧ (Blk X scope fun Y => DTs Y ifs ρ' ((a, .lst l) :: μ) (p x) ((a, .lst l) :: μ)) ∧
      (p x = true → Blk X scope fun Y => DE Y elt ρ' ((a, .lst l) :: μ) (f x) ((a, .lst l) :: μ)))
    (h : ∀ q : Addr, P (.nx (ρ.set i (some (.ptr q))) ((q, .lst ((us.filter p).map f)) :: μ)))
    (hN : X.N.Nodup) (ok : blkC X.N X.env.scope scope own = true := by kernel_rfl) (hi : X.N[i]? = some x := by rfl) (hx : X.env.scope.names.lookup x = some .local := by rfl) (hsw : swapsWith (.ListComp elt [⟨tg, iter, ifs, 0⟩] scope pos) (some (.Name x py')) spos.line X.env = pure true := by exact sw_true rfl rfl rfl (by kernel_rfl))
    (hc : X.calm = true := by rfl) (hfs : ∀ x, foldedSetIterable iter X.env x = pure x := by intro _; rfl) : DS X (.Assign [.Name x py'] (.ListComp elt [⟨tg, iter, ifs, 0⟩] scope pos) spos) ρ μ P :=
  DS_lock hv fun B H σ Dn pa o ws S L e r g k => by
    have hI := DI_keys (tg := tg) S e r g
    rw [hk] at hI
    refine psW (ps_setLcW i hc hN hi hx hsw (blkOk_by ok) hfs) (comp_core (Q := fun x H1 => gName i x σ H1 Dn.nx) L hI (fun i => ((us.take i).filter p).map f) (fun _ => μ) rfl rfl (fun _ _ => True.intro) (turns_pure hs) fun B1 H1 q i1 S1 => ?_)
    rw [List.length_map, List.take_length] at S1
    exact k _ (h q) B1 H1 _ i1 S1 ((L.inc i1).set (d := .ptr q) (v := .ref q) rfl i)
theorem comp2_core {B H : Hp} {σ : L2.St} {Q : VK} {α β : Type} (L : Slots X.K B ρ σ) (xs : List α) (enc : α → D) (g : α → List β) (enc1 : α → β → D) (f : α → β → D) (hI : DIat X tg iter B H σ (xs.map enc) C μ0) (hC : ∀ a l, C ((a, .lst l) :: μ0)) (hn : ((xs.flatMap g).length ≤ 16777215)) {vs1 : List Nat}
    (hs : ∀ x ∈ xs, ∃ ρ' is, (Blk X scope fun Y => DG Y tg (enc x) (wipeR ρ vs) ρ' is) ∧ (∀ j ∈ is, j ∈ vs) ∧
      ∀ a l, (Blk X scope fun Y => DI Y tg1 iter1 ρ' ((a, .lst l) :: μ0) ((g x).map (enc1 x)) (fun _ => True) ((a, .lst l) :: μ0)) ∧
        ∀ y ∈ g x, ∃ ρ2 is2, (Blk X scope fun Y => DG Y tg1 (enc1 x y) (wipeR ρ' vs1) ρ2 is2) ∧ (∀ j ∈ is2, j ∈ vs1) ∧ ∀ l, Blk X scope fun Y => DE Y elt ρ2 ((a, .lst l) :: μ0) (f x y) ((a, .lst l) :: μ0))
    (k : Kn X.K B μ0 (.lst (xs.flatMap fun x => (g x).map (f x))) Q) : tLc2 (wI X tg iter) (bG X scope tg) tYes (bI X scope tg1 iter1) (bG X scope tg1) tYes (bE X scope elt) vs vs1 σ H Q := by
  refine hI _ fun B1 H1 J i1 S1 hl F Da hD => ?_
  have hlen : ∀ (ys : List α), (ys.flatMap fun x => (g x).map (f x)).length = (ys.flatMap g).length := fun ys => by
    induction ys with
    | nil => rfl
    | cons y ys ih => rw [List.flatMap_cons, List.flatMap_cons, List.length_append, List.length_append, List.length_map, ih]
  refine ⟨fun i m H => ∃ B', Inc B1 B' ∧ Sat X.K B' H ((Da, .lst ((xs.take i).flatMap fun x => (g x).map (f x))) :: μ0) ∧ m = xs.length - i ∧ i ≤ xs.length, ⟨_, B1, Inc.refl B1, S1.newM hD ⟨[], upd_same, rfl⟩, rfl, Nat.zero_le _⟩, ?_⟩
  rintro i m H2 ⟨B2, i2, S2, rfl, hi⟩
  obtain ⟨f1, f2⟩ := F i B2 H2 _ i2 S2 (hC Da _)
  by_cases hlt : i < xs.length
  · have ex : xs[i]? = some xs[i] := List.getElem?_eq_getElem hlt
    obtain ⟨g1, y⟩ := f1 (enc xs[i]) (by rw [List.getElem?_map, ex]; rfl)
    obtain ⟨ρ3, is, hg, his, hin⟩ := hs xs[i] (List.getElem_mem hlt)
    refine .inr ⟨g1, fun H' => ∃ B', Inc B1 B' ∧ Sat X.K B' H' ((Da, .lst ((xs.take (i + 1)).flatMap fun x => (g x).map (f x))) :: μ0), fun H' ⟨B', q1, q2⟩ => ⟨xs.length - (i + 1), by omega, B', q1, q2, rfl, hlt⟩, fun x H' yy => ?_⟩
    obtain ⟨B3, i3, S3, r3⟩ := y x H' yy
    have L3 : Slots X.K B3 (wipeR ρ vs) (wipe σ vs) := (L.inc ((i1.trans i2).trans i3)).wipe vs
    intro s0 H0 Cc cl fp
    refine hg s0 H0 Cc cl fp B3 H' (wipe σ vs) x _ _ r3 L3 S3 fun σ4 L4 e4 k4 => ⟨by rw [wipe_eq e4 fun j hj => k4 j fun z => hj (his j z), wipe_wipe], ?_⟩
    unfold tYes
    dsimp only
    rw [if_pos rfl]
    intro s0 H0 Cc cl fp
    obtain ⟨hI1, hy⟩ := hin Da ((xs.take i).flatMap fun x => (g x).map (f x))
    refine hI1 s0 H0 Cc cl fp B3 H' σ4 _ S3 L4 fun B4 H4 J1 i4 S4 hl1 F1 => ?_
    refine ⟨fun j m H => ∃ B', Inc B4 B' ∧ Sat X.K B' H ((Da, .lst (((xs.take i).flatMap fun x => (g x).map (f x)) ++ ((g xs[i]).take j).map (f xs[i]))) :: μ0) ∧ m = (g xs[i]).length - j ∧ j ≤ (g xs[i]).length, ⟨_, B4, Inc.refl B4, by simpa using S4, rfl, Nat.zero_le _⟩, ?_⟩
    rintro j m H5 ⟨B5, i5, S5, rfl, hj⟩
    obtain ⟨f3, f4⟩ := F1 j B5 H5 _ i5 S5 True.intro
    by_cases hlt1 : j < (g xs[i]).length
    · have ey : (g xs[i])[j]? = some (g xs[i])[j] := List.getElem?_eq_getElem hlt1
      obtain ⟨g2, y2⟩ := f3 (enc1 xs[i] (g xs[i])[j]) (by rw [List.getElem?_map, ey]; rfl)
      obtain ⟨ρ5, is2, hg2, his2, hel⟩ := hy (g xs[i])[j] (List.getElem_mem hlt1)
      refine .inr ⟨g2, fun H' => ∃ B', Inc B4 B' ∧ Sat X.K B' H' ((Da, .lst (((xs.take i).flatMap fun x => (g x).map (f x)) ++ ((g xs[i]).take (j + 1)).map (f xs[i]))) :: μ0), fun H' ⟨B', q1, q2⟩ => ⟨(g xs[i]).length - (j + 1), by omega, B', q1, q2, rfl, hlt1⟩, fun x H' yy => ?_⟩
      obtain ⟨B6, i6, S6, r6⟩ := y2 x H' yy
      have L6 : Slots X.K B6 (wipeR ρ3 vs1) (wipe σ4 vs1) := (L4.inc ((i4.trans i5).trans i6)).wipe vs1
      intro s0 H0 Cc cl fp
      refine hg2 s0 H0 Cc cl fp B6 H' (wipe σ4 vs1) x _ _ r6 L6 S6 fun σ7 L7 e7 k7 => ⟨by rw [wipe_eq e7 fun j hj => k7 j fun z => hj (his2 j z), wipe_wipe], ?_⟩
      rw [if_pos rfl]
      intro s0 H0 Cc cl fp
      refine hel _ s0 H0 Cc cl fp B6 H' σ7 _ S6 L7 fun B8 H8 v i8 S8 r8 => ?_
      obtain ⟨zs, hz, rz⟩ := own_lst (n := 0) S8 rfl
      refine ⟨zs, hz, ?_, B8, (i5.trans i6).trans i8, ?_⟩
      · rw [rz.length, sizeLine_eq, List.length_append, hlen, List.length_map, List.length_take]
        have h1 : ((xs.take i).flatMap g).length + (g xs[i]).length ≤ (xs.flatMap g).length := by
          have e0 : xs = xs.take i ++ (xs[i] :: xs.drop (i + 1)) := by
            rw [← List.drop_eq_getElem_cons hlt, List.take_append_drop]
          have e1 : xs.flatMap g = (xs.take i).flatMap g ++ (g xs[i] ++ (xs.drop (i + 1)).flatMap g) := by
            conv => lhs; rw [e0]
            rw [List.flatMap_append, List.flatMap_cons]
          rw [e1, List.length_append, List.length_append]
          omega
        omega
      · rw [List.take_add_one, ey, List.map_append, ← List.append_assoc]
        exact S8.write (n := 0) (c' := .lst (((xs.take i).flatMap fun x => (g x).map (f x)) ++ ((g xs[i]).take j).map (f xs[i]) ++ [f xs[i] (g xs[i])[j]])) rfl ⟨_, upd_same, rz.append (Reps.one r8)⟩
    · have e : j = (g xs[i]).length := by omega
      subst e
      refine .inl ⟨f4 (by rw [List.length_map]), B5, ((i2.trans i3).trans i4).trans i5, ?_⟩
      rw [List.take_add_one, ex, List.flatMap_append]
      rw [List.take_length] at S5
      simpa using S5
  · have e : i = xs.length := by omega
    subst e
    rw [List.take_length] at S2
    exact .inl ⟨f2 (by rw [List.length_map]), k B2 H2 Da (i1.trans i2) S2⟩
theorem DN_lc2 (own : List (Str × Nat)) (vs1 : List Nat) {α β : Type} (xs : List α) (enc : α → D) (g : α → List β) (enc1 : α → β → D) (f : α → β → D) (hI : DI X tg iter ρ μ (xs.map enc) C μ0) (hC : ∀ a l, C ((a, .lst l) :: μ0)) (hn : ((xs.flatMap g).length ≤ 16777215))
    (hs : ∀ x ∈ xs, ∃ ρ' is, (Blk X scope fun Y => DG Y tg (enc x) (wipeR ρ (own.map (·.2))) ρ' is) ∧ (∀ j ∈ is, j ∈ own.map (·.2)) ∧
      ∀ a l, (Blk X scope fun Y => DI Y tg1 iter1 ρ' ((a, .lst l) :: μ0) ((g x).map (enc1 x)) (fun _ => True) ((a, .lst l) :: μ0)) ∧
        ∀ y ∈ g x, ∃ ρ2 is2, (Blk X scope fun Y => DG Y tg1 (enc1 x y) (wipeR ρ' vs1) ρ2 is2) ∧ (∀ j ∈ is2, j ∈ vs1) ∧ ∀ l, Blk X scope fun Y => DE Y elt ρ2 ((a, .lst l) :: μ0) (f x y) ((a, .lst l) :: μ0))
    (hN : X.N.Nodup) (hv : ∀ i ∈ vs1, i ∈ own.map (·.2) := by decide) (ok : blkC X.N X.env.scope scope own = true := by kernel_rfl) (hc : X.calm = true := by rfl) (hfs : ∀ x, foldedSetIterable iter X.env x = pure x := by intro _; rfl) (hfs1 : ∀ env x, foldedSetIterable iter1 env x = pure x := by intro _ _; rfl) :
    DN X (.ListComp elt [⟨tg, iter, [], 0⟩, ⟨tg1, iter1, [], 0⟩] scope pos) ρ μ (.lst (xs.flatMap fun x => (g x).map (f x))) μ0 := fun B H σ Q S L k =>
  peW (pe_lc2 hc hN pi_w (blkOk_by ok) hv bG_pg (fun s0 H0 Cc cl fp => pts_nil) bI_pi
    bG_pg (fun s0 H0 Cc cl fp => pts_nil) bE_pe hfs hfs1)
    (comp2_core L xs enc g enc1 f (fun R q => hI B H σ R S L q) hC hn hs k)
end
end Od
namespace Od
open PySem PySem.Spec PyProof.Rows L2
/-- a dict comprehension's store under a tuple key -/
theorem dictSet_tup {X : Cx} {pins : List (Addr × Obj)} {σ : L2.St} {H : Hp} {s : Shared} {E : Value → Shared → Prop} {Da q : Addr} {kvs : List (List Key × V)} {k : List Key} {v : V} {r : Value} {Q : Unit → Shared → Prop} (hu : X.A.units + 1 < cLine) (I : Inv X pins σ H s)
    (hD : H Da = some (.dT kvs)) (hq : H q = some (.tup (k.map kV))) (hz : kvs.length < sizeLine) (rv : RelV v r) (h : ∀ s', Inv X pins σ (upd H Da (.dT (putK kvs k v))) s' → Q () s') : wpAny (model X.prog X.w) X.A (dictSet Da (.ref q) r) Q E s := by
  obtain ⟨z, hd, xs, rel, dd⟩ := dt_of I.hok hD
  have hzx : xs.length ≤ sizeLine := by rw [← Paired.length rel]; exact z
  have hl : (putK kvs k v).length ≤ sizeLine := by have := length_putK kvs k v; omega
  refine wpAny_dictSet_heap (hsz := hzx) (show (tupleKind _).room X.A from Nat.lt_of_succ_lt hu) (key_of I.hok hq) dd fun h' dd' hs => h _ ?_
  obtain ⟨o, es, ep, ho, x2, x3, x4, _, x5⟩ := dd'
  refine d_write I (by rw [hD]; exact True.intro) hs ⟨o, ho⟩ ⟨hl, hd, _, (rel.put k hq rv).keeps fun c ys ec => ?_, o, es, ep, ho, x2, x3, x4, x5⟩
  rw [upd_ne (ne_of ec hD (fun z => nomatch z))]
  exact ec
section
variable {X : Cx}
/-- {k: v for tg in iter}, keys tuples: Da the new dict, W by the turn and a measure -/
def tDt (wi : TI) (g : TG) (tk tv : TE) (vs : List Nat) : TE := fun σ H Q => wi σ H fun J H1 => ∀ Da, H1 Da = none → ∃ W : Nat → Nat → Hp → Prop, (∃ m, W 0 m (upd H1 Da (.dT []))) ∧ ∀ i m H, W i m H →
  (J.stop i H ∧ Q (.ref Da) H) ∨ (J.go i H ∧ ∃ Nx : Hp → Prop, (∀ H', Nx H' → ∃ m', m' < m ∧ W (i + 1) m' H') ∧ ∀ x H', J.yld i H x H' → g x (wipe σ vs) H' fun σ2 H2 => wipe σ2 vs = wipe σ vs ∧
    tk σ2 H2 fun y H4 => tv σ2 H4 fun z H5 => ∃ kvs k q, y = .ref q ∧ H5 q = some (.tup (k.map kV)) ∧ H5 Da = some (.dT kvs) ∧ kvs.length < sizeLine ∧ Nx (upd H5 Da (.dT (putK kvs k z))))
theorem dt_core {pins : List (Addr × Obj)} {s : Shared} {σ : L2.St} {H : Hp} {Q : VK} {kx vx tg iter : Expr} {scope : Scope} {own : List (Str × Nat)} {pos pos' : Pos} {wi : TI} {g : TG} {tk tv : TE} {use : Option (Value → Sem Unit)} {Qf : Value → Shared → Prop}
    (hu : X.A.units + 1 < cLine) (calm : X.calm = true) (nd : X.N.Nodup) (I : Inv X pins σ H s) (src : PI X tg iter wi) (bk : BlkOk X.N X.env.scope scope own)
    (pg : Blk X scope fun Y => PG Y tg g) (pk : Blk X scope fun Y => PE Y kx tk) (pv : Blk X scope fun Y => PE Y vx tv) (fold : ∀ x, foldedSetIterable iter X.env x = pure x)
    (h : tDt wi g tk tv (own.map (·.2)) σ H Q)
    (out : ∀ Da Cl s' m H', Inv X pins σ H' s' → Q (.ref Da) H' → s'.heap.Ns Cl m → FpOk X pins H' Cl → compPost (model X.prog X.w) X.A X.xe use Qf (.ref Da) Cl (.ok .next) s') :
    wpAny (model X.prog X.w) X.A (comprehension (.DictComp kx vx [⟨tg, iter, [], 0⟩] scope pos) scope X.env pos' newDict false (eval iter X.env) use) Qf X.xe s := by
  have free_ : ∀ y ∈ scope.names, y.2 = .free → ∃ c, X.env.cells.lookup y.1 = some c := fun y hy e => by
    rcases bk.free y hy e with z | z
    · exact I.ok.has _ (.inl z)
    · exact I.ok.has _ (.inr z)
  refine wpAny_comprehension_free (use := use) rfl fold (closure_ok free_) bk.kind (fun y hy e => by rw [bk.uniq y hy, e])
    (thn (src.run pins s σ H _ I h) fun xv sA hA => thn hA fun itv sB hB => ?_)
  obtain ⟨it, fp, tn, J, HB, e, IB, T, stB, fB, q⟩ := hB
  subst e
  refine wpAny_newObj_type (newEnv_comp ?_)
  generalize eD : sB.heap.objs.size = Da
  have nD : HB Da = none := IB.hok.fresh (Nat.le_of_eq eD)
  obtain ⟨W, ⟨m0, w0⟩, turn⟩ := q Da nD
  generalize eC : ({ sB with heap := sB.heap.push { cls := .type "dict", data := .dict #[] } } : Shared) = sC
  have IC : Inv X pins σ (upd HB Da (.dT [])) sC := by
    rw [← eC]
    refine IB.laid (t' := sB.toks) (fun b o z => Heap.get?_push_of_some _ z) (Nat.le_of_eq eD) ?_
    rw [← eD]
    exact dt_empty sB.heap IB.big
  have hC : sC.heap = sB.heap.push { cls := .type "dict", data := .dict #[] } := by rw [← eC]
  have fC : ∀ b ∈ fp, FpOk X pins (upd HB Da (.dT [])) b ∧ b < sC.heap.objs.size := fun b hb => by
    obtain ⟨o, z, _⟩ := T.obj _ _ stB b hb
    have lt := Heap.lt_size z
    refine ⟨⟨?_, (fB b hb).2⟩, by rw [hC, Heap.size_push]; exact Nat.lt_succ_of_lt lt⟩
    rw [upd_ne (by rw [← eD]; exact Nat.ne_of_lt lt)]
    exact (fB b hb).1
  have stC : tn 0 sC.heap := T.keep _ _ _ stB fun b _ o z => by rw [hC]; exact Heap.get?_push_of_some _ z
  have IE := block_start IC bk nd fC
  have Pg := pg sC (upd HB Da (.dT [])) sC.heap.objs.size (cellsFrom (sC.heap.objs.size + 1) scope.names (cloFrom X.env.cells scope.names [])) fp
  have Pk := pk sC (upd HB Da (.dT [])) sC.heap.objs.size (cellsFrom (sC.heap.objs.size + 1) scope.names (cloFrom X.env.cells scope.names [])) fp
  have Pv := pv sC (upd HB Da (.dT [])) sC.heap.objs.size (cellsFrom (sC.heap.objs.size + 1) scope.names (cloFrom X.env.cells scope.names [])) fp
  show codeAny _ _ (.compStart (.DictComp kx vx [⟨tg, iter, [], 0⟩] scope pos) 0 (.ref it) (.ref Da) (compEnvC scope (cellsFrom (sC.heap.objs.size + 1) scope.names (cloFrom X.env.cells scope.names [])) sC.heap.objs.size X.env)) (compPost (model X.prog X.w) X.A X.xe use Qf (.ref Da) sC.heap.objs.size) { sC with heap := pushCells (sC.heap.push { cls := .type "dict", data := .dict #[] }) scope.names }
  have nfp : ∀ b ∈ fp, (upd HB Da (.dT [])) b = none := fun b hb => (fC b hb).1.1
  generalize eEnv : compEnvC scope (cellsFrom (sC.heap.objs.size + 1) scope.names (cloFrom X.env.cells scope.names [])) sC.heap.objs.size X.env = ce at IE Pg Pk Pv ⊢
  have cL : ce.locals = sC.heap.objs.size := by subst eEnv; rfl
  generalize eH : upd HB Da (.dT []) = HC at IC IE Pg Pk Pv w0 nfp fC
  generalize eS : ({ sC with heap := pushCells (sC.heap.push { cls := .type "dict", data := .dict #[] }) scope.names } : Shared) = sE at IE ⊢
  have stE : tn 0 sE.heap := T.keep _ _ _ stC fun b _ o z => by rw [← eS]; exact pushCells_keeps _ _ _ _ (Heap.get?_push_of_some _ z)
  have stat : ∀ {τ : L2.St} {H' : Hp} {s' : Shared}, Inv (X.blk sC HC scope ce fp) [] τ H' s' → (∀ b ∈ fp, H' b = none) → ∀ b ∈ fp, FpOk (X.blk sC HC scope ce fp) [] H' b := fun {τ H' s'} I' hn b hb =>
    ⟨hn b hb, (I'.ok.exf b hb).1, I'.ok.exfs b hb, .inl hb, fun x c z => (I'.ok.exf b hb).2 x c z, fun p hp => absurd (show p ∈ ([] : List (Addr × Obj)) ++ [] from hp) (by simp)⟩
  have loop : codeAny (model X.prog X.w) X.A (.compLoop (.DictComp kx vx [⟨tg, iter, [], 0⟩] scope pos) 0 (.ref it) (.ref Da) ce) (compPost (model X.prog X.w) X.A X.xe use Qf (.ref Da) sC.heap.objs.size) sE := by
    refine compLoop_anyD (fun n s' => ∃ i H', Inv (X.blk sC HC scope ce fp) [] (wipe σ (own.map (·.2))) H' s' ∧ tn i s'.heap ∧ (∀ b ∈ fp, H' b = none) ∧ W i n H') ?_ m0 ⟨0, HC, IE, stE, nfp, w0⟩
    rintro n s5 ⟨i, H5, I5, st5, n5, w5⟩
    rcases turn i n H5 w5 with ⟨stop, fin⟩ | ⟨go, Nx, hNx, step⟩
    · refine thnF (T.done (X.blk sC HC scope ce fp) rfl rfl rfl calm i [] s5 _ H5 (fun _ _ => False) I5 (stat I5 n5) st5 stop) fun r s6 ⟨hr, I6⟩ => ?_
      subst hr
      have I7 : Inv X pins σ H5 s6 := IC.call' (ch := fp) I6.os I6.base I6.hok I6.bare fun b hb => ⟨(fC b hb).1.2.2.2.1, (fC b hb).1.2.1, (fC b hb).1.2.2.2.2.1, (fC b hb).1.2.2.2.2.2⟩
      have nC : H5 sC.heap.objs.size = none := by
        have z : H5 ce.locals = none := I6.free
        rw [cL] at z
        exact z
      obtain ⟨m, hn, _⟩ := I6.loc
      have hn : s6.heap.Ns ce.locals m := hn
      rw [cL] at hn
      exact out Da sC.heap.objs.size s6 m H5 I7 fin hn (IC.fpOk (Nat.le_refl _) nC)
    · refine thnF (T.item (X.blk sC HC scope ce fp) rfl rfl rfl calm i [] s5 _ H5 (fun _ _ => False) I5 (stat I5 n5) st5 go) fun r s6 ⟨u, hr, h6⟩ => ?_
      subst hr
      refine thnF h6 fun _ s7 ⟨x, H7, I7, r7, y7, st7, n7⟩ => ?_
      have I7' := I7.pinned (stat I7 n7) (T.obj _ _ st7)
      refine thnF (Pg.run _ s7 _ H7 x u _ I7' r7 (step x H7 y7)) fun _ s8 ⟨τ, H8, I8, wq, q8⟩ => ?_
      refine thnF ((pts_nil (X := X.blk sC HC scope ce fp)).run _ s8 τ H8 (fun b H9 => b = true ∧ H9 = H8) I8 ⟨rfl, rfl⟩) fun b s9 ⟨H9, I9, eb, eH9⟩ => ?_
      subst eb eH9
      rw [if_pos rfl]
      have again : ∀ {s' : Shared} {H' : Hp}, Inv (X.blk sC HC scope ce fp) ([] ++ pinsAt fp s7.heap) τ H' s' → Nx H' → ∃ m, m < n ∧ ∃ i H', Inv (X.blk sC HC scope ce fp) [] (wipe σ (own.map (·.2))) H' s' ∧ tn i s'.heap ∧ (∀ b ∈ fp, H' b = none) ∧ W i m H' := fun {s' H'} I' nx => by
        obtain ⟨m', hm, w'⟩ := hNx H' nx
        have held : ∀ b ∈ fp, ∀ o, s7.heap.get? b = some o → s'.heap.get? b = some o ∧ H' b = none := fun b hb o z =>
          let y := I'.pin (b, o) (List.mem_append_right _ (List.mem_append_right _ (mem_pinsAt hb z)))
          ⟨y.1, y.2.1⟩
        have hl : (wipe σ (own.map (·.2))).length = τ.length := by rw [← wq, wipe_length]
        refine ⟨m', hm, i + 1, H', (I'.unpinned (pins := [])).weak hl (fun j v z => ?_), T.keep _ _ _ st7 fun b hb o z => (held b hb o z).1, fun b hb => ?_, w'⟩
        · rw [← wq] at z
          exact (wipe_some z).1
        · obtain ⟨o, z, _⟩ := T.obj _ _ st7 b hb
          exact (held b hb o z).2
      refine thnF (Pk.run _ s9 τ H9 _ I9 q8) fun z s10 ⟨yk, H10, I10, r10, q10⟩ => ?_
      refine thnF (Pv.run _ s10 τ H10 _ I10 q10) fun z2 s11 ⟨yv, H11, I11, r11, kvs, k, qa, ek, hq11, hD11, hz11, nx⟩ => ?_
      subst ek
      cases (show z = Value.ref qa from r10)
      exact dictSet_tup (X := X.blk sC HC scope ce fp) hu I11 hD11 hq11 hz11 r11 fun s12 I12 => again I12 nx
  exact codeAny_compStart_dict loop (T.self X.A 0 _ _ _ stE loop)
end
section
variable {X : Cx} {scope : Scope} {kx vx tg iter : Expr} {ρ ρ' : Rho} {μ μ0 μ1 : Mu} {d : D} {pos spos py' : Pos} {own : List (Str × Nat)} {C : Mu → Prop} {ks : List (List Int × D)} {P : Out → Prop} {x : Str} {vs : List Nat}
theorem pe_dtW (hu : X.A.units + 1 < cLine) (hc : X.calm = true) (hN : X.N.Nodup) (ok : BlkOk X.N X.env.scope scope own) (hfs : ∀ x, foldedSetIterable iter X.env x = pure x) :
    PE X (.DictComp kx vx [⟨tg, iter, [], 0⟩] scope pos) (tDt (wI X tg iter) (bG X scope tg) (bE X scope kx) (bE X scope vx) (own.map (·.2))) := by
  refine ⟨fun pins s σ H Q I h => ?_⟩
  rw [arm_eval_DictComp]
  refine dt_core hu hc hN I pi_w ok bG_pg bE_pe bE_pe hfs h
    fun Da Cl s' m H' I' q hn f => ⟨m, hn, fun h'' sb => ?_⟩
  obtain ⟨f0, f1, f2, f3, f4, f5⟩ := f
  exact ⟨.ref Da, H', I'.turned (t' := s'.toks) (fun b o hb z => (sb.2 b hb).trans z) f0 f1 f3 f4 f5, rfl, q⟩
/-- x = {..} on one line, x a plain local -/
theorem ps_setDtW (i : Nat) (hu : X.A.units + 1 < cLine) (hc : X.calm = true) (hN : X.N.Nodup) (hi : X.N[i]? = some x) (hx : X.env.scope.names.lookup x = some .local) (hsw : swapsWith (.DictComp kx vx [⟨tg, iter, [], 0⟩] scope pos) (some (.Name x py')) spos.line X.env = pure true)
    (ok : BlkOk X.N X.env.scope scope own) (hfs : ∀ x, foldedSetIterable iter X.env x = pure x) :
    PS X (.Assign [.Name x py'] (.DictComp kx vx [⟨tg, iter, [], 0⟩] scope pos) spos) (tAsg (tDt (wI X tg iter) (bG X scope tg) (bE X scope kx) (bE X scope vx) (own.map (·.2))) (gName i)) := by
  refine ⟨fun pins s σ H Dn I h => ?_⟩
  rw [exec_Assign_Name_used _ _ _ _ hsw]
  refine wpAny_bind (wpAny_standAt (wpAny_bind ?_))
  show wpAny _ X.A (do let _ ← comprehension (.DictComp kx vx [⟨tg, iter, [], 0⟩] scope pos) scope X.env (firstIterPos [⟨tg, iter, [], 0⟩] pos) newDict false (eval iter X.env) (some (assign (.Name x py') X.env))) _ _ s
  have h : tDt (wI X tg iter) (bG X scope tg) (bE X scope kx) (bE X scope vx) (own.map (·.2)) σ H (fun x H1 => gName i x σ H1 Dn.nx) := h
  refine wpAny_bind (thn (dt_core (Qf := fun _ s' => SP X pins Dn .next s') hu hc hN I pi_w ok bG_pg bE_pe bE_pe hfs h
    fun Da Cl s' m H' I' q hn f => ?_) fun _ s' hq => wpAny_pure (wpAny_pure hq))
  show wpAny _ _ (assign (.Name x py') X.env (.ref Da)) _ _ _
  refine wpAny_assign_Name (store_ok2 (v := V.ref Da) I' hN hi (.inl hx) rfl (fun s2 I2 ⟨a, sb, ha⟩ => ?_) (.inr hx))
  obtain ⟨f0, f1, f2, f3, f4, f5⟩ := f
  have haC : Cl ≠ a := by
    rcases ha with z | z
    · rw [z]; exact f1
    · exact fun e => f4 x a z e.symm
  refine ⟨m, hn.sameBut sb haC, fun h3 sb3 => ?_⟩
  exact ⟨_, H', I2.turned (t' := s2.toks) (fun b o hb z => (sb3.2 b hb).trans z) f0 f1 f3 f4 f5, q⟩
theorem dcomp_core {B H : Hp} {σ : L2.St} {Q : VK} (L : Slots X.K B ρ σ) (us : List U) (f : U → D) (hn : us.length ≤ 16777215) (nd : us.Nodup) (hI : DIat X tg iter B H σ (us.map uD) C μ0) (hC : ∀ a l, C ((a, .dic l) :: μ0))
    (hs : ∀ x ∈ us, ∀ a l, ∃ ρ' is, (Blk X scope fun Y => DG Y tg (uD x) (wipeR ρ vs) ρ' is) ∧ (∀ j ∈ is, j ∈ vs) ∧ (Blk X scope fun Y => DE Y kx ρ' ((a, .dic l) :: μ0) (uD x) ((a, .dic l) :: μ0)) ∧ (Blk X scope fun Y => DE Y vx ρ' ((a, .dic l) :: μ0) (f x) ((a, .dic l) :: μ0)))
    (k : Kn X.K B μ0 (.dic (us.map fun u => (uK u, f u))) Q) : tDt (wI X tg iter) (bG X scope tg) (bE X scope kx) (bE X scope vx) vs σ H Q := by
  refine hI _ fun B1 H1 J i1 S1 hl F Da hD => ?_
  refine ⟨fun i m H => ∃ B', Inc B1 B' ∧ Sat X.K B' H ((Da, .dic ((us.take i).map fun u => (uK u, f u))) :: μ0) ∧ m = us.length - i ∧ i ≤ us.length, ⟨_, B1, Inc.refl B1, S1.newM hD ⟨[], upd_same, rfl⟩, rfl, Nat.zero_le _⟩, ?_⟩
  rintro i m H2 ⟨B2, i2, S2, rfl, hi⟩
  obtain ⟨f1, f2⟩ := F i B2 H2 _ i2 S2 (hC Da _)
  by_cases hlt : i < us.length
  · have ex : us[i]? = some us[i] := List.getElem?_eq_getElem hlt
    obtain ⟨g1, y⟩ := f1 (uD us[i]) (by rw [List.getElem?_map, ex]; rfl)
    obtain ⟨ρ3, is, hg, his, hk, hv⟩ := hs us[i] (List.getElem_mem hlt) Da ((us.take i).map fun u => (uK u, f u))
    refine .inr ⟨g1, fun H' => ∃ B', Inc B1 B' ∧ Sat X.K B' H' ((Da, .dic ((us.take (i + 1)).map fun u => (uK u, f u))) :: μ0), fun H' ⟨B', q1, q2⟩ => ⟨us.length - (i + 1), by omega, B', q1, q2, rfl, hlt⟩, fun x H' yy => ?_⟩
    obtain ⟨B3, i3, S3, r3⟩ := y x H' yy
    have L3 : Slots X.K B3 (wipeR ρ vs) (wipe σ vs) := (L.inc ((i1.trans i2).trans i3)).wipe vs
    intro s0 H0 Cc cl fp
    refine hg s0 H0 Cc cl fp B3 H' (wipe σ vs) x _ _ r3 L3 S3 fun σ4 L4 e4 k4 => ⟨by rw [wipe_eq e4 fun j hj => k4 j fun z => hj (his j z), wipe_wipe], ?_⟩
    intro s0 H0 Cc cl fp
    refine hk s0 H0 Cc cl fp B3 H' σ4 _ S3 L4 fun B4 H4 v4 i4 S4 r4 => ?_
    intro s0 H0 Cc cl fp
    refine hv s0 H0 Cc cl fp B4 H4 σ4 _ S4 (L4.inc i4) fun B5 H5 v5 i5 S5 r5 => ?_
    obtain ⟨ws, hw, rk⟩ := own_dic (n := 0) S5 rfl
    obtain ⟨q, rfl, hq⟩ := uD_key (r4.inc i5)
    refine ⟨ws, _, q, rfl, S5.sub _ _ hq, hw, by rw [rk.length, sizeLine_eq, List.length_map, List.length_take]; omega, B5, ((i2.trans i3).trans i4).trans i5, ?_⟩
    have ep : putD ((us.take i).map fun u => (uK u, f u)) (uK us[i]) (f us[i]) = (us.take (i + 1)).map fun u => (uK u, f u) := by
      have none_ : getK ((us.take i).map fun u => (uK u, f u)) (uK us[i]) = none := by
        unfold getK
        rw [Option.map_eq_none_iff, List.find?_eq_none]
        intro z hz
        obtain ⟨u, hu, rfl⟩ := List.mem_map.mp hz
        intro e
        have e' : u = us[i] := uK_inj (of_decide_eq_true e)
        subst e'
        obtain ⟨j, hj, ej⟩ := List.mem_iff_getElem.mp hu
        have hji : j < i := by
          rw [List.length_take] at hj; omega
        rw [List.getElem_take] at ej
        have := (List.getElem_inj nd).mp ej
        omega
      unfold putD
      rw [none_, if_neg (by simp), List.take_add_one, ex, List.map_append]
      rfl
    rw [← ep]
    exact S5.write (n := 0) (c' := .dic (putD ((us.take i).map fun u => (uK u, f u)) (uK us[i]) (f us[i]))) rfl ⟨_, upd_same, rk.put (uK us[i]) r5⟩
  · have e : i = us.length := by omega
    subst e
    rw [List.take_length] at S2
    exact .inl ⟨f2 (by rw [List.length_map]), k B2 H2 Da (i1.trans i2) S2⟩
def BlkStep (X : Cx) (scope : Scope) (tg kx vx : Expr) (ρ : Rho) (vs : List Nat) (μ0 : Mu) (us : List U) (f : U → D) : Prop := ∀ x ∈ us, ∀ a l, ∃ ρ' is, (Blk X scope fun Y => DG Y tg (uD x) (wipeR ρ vs) ρ' is) ∧ (∀ j ∈ is, j ∈ vs) ∧ (Blk X scope fun Y => DE Y kx ρ' ((a, .dic l) :: μ0) (uD x) ((a, .dic l) :: μ0)) ∧ (Blk X scope fun Y => DE Y vx ρ' ((a, .dic l) :: μ0) (f x) ((a, .dic l) :: μ0))
/-- x = {k: v for k in a list} -/
theorem DS_setDc (i : Nat) (own : List (Str × Nat)) (us : List U) (f : U → D) (hu : X.A.units + 1 < cLine) (hn : us.length ≤ 16777215) (nd : us.Nodup) (hI : DI X tg iter ρ μ (us.map uD) C μ0) (hC : ∀ a l, C ((a, .dic l) :: μ0)) (hs : BlkStep X scope tg kx vx ρ (own.map (·.2)) μ0 us f)
    (h : ∀ q : Addr, P (.nx (ρ.set i (some (.ptr q))) ((q, .dic (us.map fun u => (uK u, f u))) :: μ0)))
    (hN : X.N.Nodup) (ok : blkC X.N X.env.scope scope own = true := by kernel_rfl) (hi : X.N[i]? = some x := by rfl) (hx : X.env.scope.names.lookup x = some .local := by rfl) (hsw : swapsWith (.DictComp kx vx [⟨tg, iter, [], 0⟩] scope pos) (some (.Name x py')) spos.line X.env = pure true)
    (hc : X.calm = true := by rfl) (hfs : ∀ x, foldedSetIterable iter X.env x = pure x := by intro _; rfl) : DS X (.Assign [.Name x py'] (.DictComp kx vx [⟨tg, iter, [], 0⟩] scope pos) spos) ρ μ P := fun B H σ Dn S L k =>
  psW (ps_setDtW i hu hc hN hi hx hsw (blkOk_by ok) hfs) (dcomp_core (Q := fun x H1 => gName i x σ H1 Dn.nx) L us f hn nd (fun R q => hI B H σ R S L q) hC hs fun B1 H1 p i1 S1 => k _ (h p) B1 H1 _ i1 S1 ((L.inc i1).set (d := .ptr p) (v := .ref p) rfl i))
/-- {k: v for k in d} -/
theorem DN_dcD (own : List (Str × Nat)) (us : List U) (f : U → D) (hu : X.A.units + 1 < cLine) (hn : us.length ≤ 16777215) (nd : us.Nodup) (hv : DV X iter ρ (.dic ks)) (hk : keysD ks = us.map uD) (hs : BlkStep X scope tg kx vx ρ (own.map (·.2)) μ us f)
    (hN : X.N.Nodup) (ok : blkC X.N X.env.scope scope own = true := by kernel_rfl) (hc : X.calm = true := by rfl) (hfs : ∀ x, foldedSetIterable iter X.env x = pure x := by intro _; rfl) : DN X (.DictComp kx vx [⟨tg, iter, [], 0⟩] scope pos) ρ μ (.dic (us.map fun u => (uK u, f u))) μ :=
  DN_lock hv fun B H σ Q pa o ws S L e r g k => by
    have hI := DI_keys (tg := tg) S e r g
    rw [hk] at hI
    exact peW (pe_dtW hu hc hN (blkOk_by ok) hfs) (dcomp_core L us f hn nd hI (fun _ _ => True.intro) hs k)
end
end Od
namespace Od
open PySem PySem.Spec PyProof.Rows L2
/-- a contract over data: arguments, what is owned ahead, result, what is owned behind -/
abbrev Dsp := List D → Mu → D → Mu → Prop
def spD (K : PySem.W.Frag) (sp : Dsp) : Sp := fun vs H Q _ => ∃ (B : Hp) (ds : List D) (μ : Mu) (d : D) (μ' : Mu), Sat K B H μ ∧ Reps K B ds vs ∧ sp ds μ d μ' ∧ Kd K B μ' d Q
/-- the result is a new object that may be written: c its content -/
def spN (K : PySem.W.Frag) (sp : Dsp) : Sp := fun vs H Q _ => ∃ (B : Hp) (ds : List D) (μ : Mu) (c : D) (μ' : Mu), Sat K B H μ ∧ Reps K B ds vs ∧ sp ds μ c μ' ∧ Kn K B μ' c Q
/-- what is the same all over a run -/
structure Gv where
  P : Program
  w : World
  K : PySem.W.Frag
  mg : Str → Option Value
  base : Heap
/-- where a body runs -/
structure Lv where
  qual : Str
  f : Addr
  cd : Value
  A : Around
  outer : List Env
  s : Shared
  H : Hp
  E : XK
def cX (g : Gv) (l : Lv) (N : List Str) (scope : Scope) : Cx := (cxOf C8.CX0 g.P g.w g.K g.mg g.base N l.qual scope l.f l.cd l.A l.outer l.s l.H l.E).nox
def gvOf (X : Cx) : Gv := ⟨X.prog, X.w, X.K, X.mg, X.base⟩
structure FnC (g : Gv) (k : Nat) (f : Addr) (sp : Sp) : Prop where
  ex : ∃ (fd : FuncData) (ps : List Str), FnOk g.P g.w g.K g.mg g.base C8.CX0 k f fd ps sp ∧ Binds g.K fd ps []
/-- a def by its name -/
structure Ctr (g : Gv) (k : Nat) (x : Str) (sp : Sp) : Prop where
  ex : ∃ f : Addr, g.mg x = some (.ref f) ∧ PySem.W.keepIn g.K (.ref f) = true ∧ FnC g k f sp
/-- the slots at a body's start -/
def startR (N : List Str) (ds : List D) : Rho := ds.map some ++ List.replicate (N.length - ds.length) none
theorem slots_start {K : PySem.W.Frag} {B : Hp} {N : List Str} {ds : List D} {vs : List V} (r : Reps K B ds vs) : Slots K B (startR N ds) (L2.start N vs) := by
  have hl := r.length
  have none_ : ∀ n : Nat, Slots K B (List.replicate n none) (List.replicate n none) := fun n => by
    induction n with
    | zero => rfl
    | succ n ih => exact ⟨none, _, rfl, ih⟩
  have go : ∀ (ds : List D) (vs : List V), Reps K B ds vs → ∀ n : Nat, Slots K B (ds.map some ++ List.replicate n none) (vs.map some ++ List.replicate n none) := fun ds => by
    induction ds with
    | nil => intro vs h n; cases h; exact none_ n
    | cons d ds ih =>
      intro vs h n
      obtain ⟨x, rr, rfl, h1, h2⟩ := h
      exact ⟨x, _, rfl, h1, ih rr h2 n⟩
  unfold startR L2.start
  rw [hl]
  exact go ds vs r _
/-- how a body ends -/
def Ret (d : D) (μ' : Mu) : Out → Prop
  | .rt d1 μ1 => d1 = d ∧ μ'.Sublist μ1
  | .nx _ μ1 => d = .non ∧ μ'.Sublist μ1
  | _ => False
/-- … with a new object -/
def RetN (c : D) (μ' : Mu) : Out → Prop
  | .rt d1 μ1 => ∃ a : Addr, d1 = .ptr a ∧ ((a, c) :: μ').Sublist μ1
  | _ => False
theorem Ret.rt {d : D} {μ : Mu} : Ret d μ (.rt d μ) := ⟨rfl, List.Sublist.refl _⟩
theorem Ret.rt1 {d : D} {μ : Mu} {p : Addr × D} : Ret d μ (.rt d (p :: μ)) := ⟨rfl, List.sublist_cons_self _ _⟩
theorem Ret.rt2 {d : D} {μ : Mu} {p q : Addr × D} : Ret d μ (.rt d (p :: q :: μ)) := ⟨rfl, (List.sublist_cons_self _ _).trans (List.sublist_cons_self _ _)⟩
theorem Ret.nx {μ : Mu} {ρ : Rho} : Ret .non μ (.nx ρ μ) := ⟨rfl, List.Sublist.refl _⟩
section
variable {g : Gv} {k : Nat} {f : Addr} {x qual : Str} {params : Arguments} {body : List Stmt} {scope : Scope} {fd : FuncData} {N ps : List Str} {sp : Dsp}
theorem fn_of_body (F : FunD g.K x qual params body scope [] [] f fd) (S : FnScope N ps scope) (hb : Binds g.K fd ps [])
    (len : ∀ ds μ d μ', sp ds μ d μ' → ds.length = ps.length)
    (h : ∀ (l : Lv) (ds : List D) (μ : Mu) (d : D) (μ' : Mu), Room k (cX g l N scope).A → sp ds μ d μ' → DSs (cX g l N scope) body (startR N ds) μ (Ret d μ')) : FnC g (k + 1) f (spD g.K sp) := by
  refine ⟨fd, ps, F.ok S (fun vs H Q E h => ?_) (fun cdv A outer s H vs Q E hr h' => ⟨wSs (cX g ⟨qual, f, cdv, A, outer, s, H, E⟩ N scope) body, PSs.nox pss_w, ?_⟩), hb⟩
  · obtain ⟨B, ds, μ, d, μ', _, r, q, _⟩ := h
    rw [r.length]; exact len _ _ _ _ q
  · obtain ⟨B, ds, μ, d, μ', S', r, q, kd⟩ := h'
    refine h ⟨qual, f, cdv, A, outer, s, H, E⟩ ds μ d μ' hr q B H _ _ S' (slots_start r) fun o p => ?_
    cases o with
    | rt d1 μ1 =>
      obtain ⟨e, sb⟩ := p
      subst e
      exact fun B' H' v i S2 r2 => kd B' H' v i (S2.sublist sb) r2
    | nx ρ μ1 =>
      obtain ⟨e, sb⟩ := p
      subst e
      exact fun B' H' v i S2 r2 => kd B' H' _ i (S2.sublist sb) rfl
    | bk _ _ => exact p.elim
    | ct _ _ => exact p.elim
theorem fn_of_bodyN (F : FunD g.K x qual params body scope [] [] f fd) (S : FnScope N ps scope) (hb : Binds g.K fd ps [])
    (len : ∀ ds μ d μ', sp ds μ d μ' → ds.length = ps.length)
    (h : ∀ (l : Lv) (ds : List D) (μ : Mu) (d : D) (μ' : Mu), Room k (cX g l N scope).A → sp ds μ d μ' → DSs (cX g l N scope) body (startR N ds) μ (RetN d μ')) : FnC g (k + 1) f (spN g.K sp) := by
  refine ⟨fd, ps, F.ok S (fun vs H Q E h => ?_) (fun cdv A outer s H vs Q E hr h' => ⟨wSs (cX g ⟨qual, f, cdv, A, outer, s, H, E⟩ N scope) body, PSs.nox pss_w, ?_⟩), hb⟩
  · obtain ⟨B, ds, μ, d, μ', _, r, q, _⟩ := h
    rw [r.length]; exact len _ _ _ _ q
  · obtain ⟨B, ds, μ, d, μ', S', r, q, kd⟩ := h'
    refine h ⟨qual, f, cdv, A, outer, s, H, E⟩ ds μ d μ' hr q B H _ _ S' (slots_start r) fun o p => ?_
    cases o with
    | rt d1 μ1 =>
      obtain ⟨a, e, sb⟩ := p
      subst e
      exact fun B' H' v i S2 r2 => by
        cases (show v = .ref a from r2)
        exact kd B' H' a i (S2.sublist sb)
    | nx ρ μ1 => exact p.elim
    | bk _ _ => exact p.elim
    | ct _ _ => exact p.elim
end
section
variable {X : Cx} {k j : Nat} {x : Str} {e : Expr} {es : List Expr} {ρ : Rho} {μ μ1 μ2 : Mu} {d : D} {ds : List D} {p pos apos : Pos} {sp : Dsp}
theorem DE_call (c : Ctr (gvOf X) k x (spD X.K sp)) (hr : Room j X.A) (ha : DA X (e :: es) ρ μ ds μ1) (hs : sp ds μ1 d μ2) (hk : k ≤ j := by decide) (hg : Gl X x := by rfl) (hdb : (x == ("__debug__" : Str)) = false := by decide)
    (he : starEach (e :: es) X.env = (false, eval e X.env) :: starEach es X.env := by rfl) (hpl : (backTo pos (starEach es X.env)).any (·.1) = false := by rfl) : DE X (.Call (.Name x p) (e :: es) [] pos) ρ μ d μ2 := fun B H σ Q S L kk => by
  obtain ⟨f, hm, kp, fd, ps, F, hb⟩ := c.ex
  refine peW (pe_call F (hr.mono hk) hg hm kp hb .nil (E := fun _ _ _ => True) C8.pass0 pa_w hdb he hpl) ?_
  show wA X (e :: es) σ H _
  refine ha B H σ _ S L fun B1 H1 vs i S1 r => ?_
  rw [List.append_nil]
  exact ⟨B1, ds, μ1, d, μ2, S1, r, hs, kk.inc i⟩
theorem DN_call (c : Ctr (gvOf X) k x (spN X.K sp)) (hr : Room j X.A) (ha : DA X (e :: es) ρ μ ds μ1) (hs : sp ds μ1 d μ2) (hk : k ≤ j := by decide) (hg : Gl X x := by rfl) (hdb : (x == ("__debug__" : Str)) = false := by decide)
    (he : starEach (e :: es) X.env = (false, eval e X.env) :: starEach es X.env := by rfl) (hpl : (backTo pos (starEach es X.env)).any (·.1) = false := by rfl) : DN X (.Call (.Name x p) (e :: es) [] pos) ρ μ d μ2 := fun B H σ Q S L kk => by
  obtain ⟨f, hm, kp, fd, ps, F, hb⟩ := c.ex
  refine peW (pe_call F (hr.mono hk) hg hm kp hb .nil (E := fun _ _ _ => True) C8.pass0 pa_w hdb he hpl) ?_
  show wA X (e :: es) σ H _
  refine ha B H σ _ S L fun B1 H1 vs i S1 r => ?_
  rw [List.append_nil]
  exact ⟨B1, ds, μ1, d, μ2, S1, r, hs, kk.inc i⟩
/-- a method of a class, by its name -/
structure Mtd (g : Gv) (k : Nat) (C : Addr) (m : Str) (sp : Sp) : Prop where
  ex : ∃ f : Addr, Meth g.K C m f ∧ FnC g k f sp
variable {o : Expr} {C : Addr} {m : Str} {dg : D}
theorem DE_meth {pl : Sem Bool} (c : Mtd (gvOf X) k C m (spD X.K sp)) (hc : Cls X.K C) (hr : Room j X.A) (ho : DE X o ρ μ (.grf C dg) μ) (ha : DA X (e :: es) ρ μ ds μ1) (hs : sp (.grf C dg :: ds) μ1 d μ2) (hk : k ≤ j := by decide) (hm : m ≠ "procedures" := by decide)
    (hst : starEach (e :: es) X.env = (false, eval e X.env) :: starEach es X.env := by rfl) (hpl : (backTo pos (starEach es X.env)).any (·.1) = false := by rfl)
    (ht : eval (.Call (.Attribute o m apos) (e :: es) [] pos) X.env = (do
      let ov ← eval o X.env
      standAt apos.atName
      let (f, first) ← holding [ov] (getMethod ov m pl)
      callWith pos f first (backTo pos (starEach (e :: es) X.env)) (backToKw pos (keywordEach [] X.env))) := by rfl) : DE X (.Call (.Attribute o m apos) (e :: es) [] pos) ρ μ d μ2 := fun B H σ Q S L kk => by
  obtain ⟨f, hme, fd, ps, F, hb⟩ := c.ex
  refine peW (pe_meth pe_w hc hme F (hr.mono hk) hb .nil (E := fun _ _ _ => True) C8.pass0 pa_w hst hpl ht) ?_
  refine ho B H σ _ S L fun B1 H1 v i S1 r => ?_
  obtain ⟨a, dx, xx, rfl, ea, rx⟩ := r
  refine ⟨a, dx, _, rfl, S1.sub _ _ ea, ?_, ?_⟩
  · simp [List.lookup, beq_eq_false_iff_ne.mpr hm]
  · refine ha B1 H1 σ _ S1 (L.inc i) fun B2 H2 vs i2 S2 r2 => ?_
    rw [List.append_nil]
    exact ⟨B2, .grf C dg :: ds, μ1, d, μ2, S2, ⟨_, _, rfl, ⟨a, dx, xx, rfl, i2 _ _ ea, rx.inc i2⟩, r2⟩, hs, kk.inc (i.trans i2)⟩
theorem DE_meth0 {pl : Sem Bool} (c : Mtd (gvOf X) k C m (spD X.K sp)) (hc : Cls X.K C) (hr : Room j X.A) (ho : DE X o ρ μ (.grf C dg) μ) (hs : sp [.grf C dg] μ d μ2) (hk : k ≤ j := by decide) (hm : m ≠ "procedures" := by decide)
    (ht : eval (.Call (.Attribute o m apos) [] [] pos) X.env = (do
      let ov ← eval o X.env
      standAt apos.atName
      let (f, first) ← holding [ov] (getMethod ov m pl)
      callWith pos f first (backTo pos (starEach [] X.env)) (backToKw pos (keywordEach [] X.env))) := by rfl) : DE X (.Call (.Attribute o m apos) [] [] pos) ρ μ d μ2 := fun B H σ Q S L kk => by
  obtain ⟨f, hme, fd, ps, F, hb⟩ := c.ex
  refine peW (pe_meth0 pe_w hc hme F (hr.mono hk) hb .nil (E := fun _ _ _ => True) C8.pass0 ht) ?_
  refine ho B H σ _ S L fun B1 H1 v i S1 r => ?_
  obtain ⟨a, dx, xx, rfl, ea, rx⟩ := r
  refine ⟨a, dx, _, rfl, S1.sub _ _ ea, ?_, ?_⟩
  · simp [List.lookup, beq_eq_false_iff_ne.mpr hm]
  · exact ⟨B1, [.grf C dg], μ, d, μ2, S1, ⟨_, _, rfl, ⟨a, dx, xx, rfl, ea, rx⟩, rfl⟩, hs, kk.inc i⟩
/-- code that is not reached -/
theorem DS_never {st : Stmt} {P : Out → Prop} (h : False) : DS X st ρ μ P := h.elim
end
end Od
namespace Od
open PySem PySem.Spec PyProof.Rows L2
structure Gd (g : Gv) : Prop where
  kin : g.K.In g.base
  ns : g.base.Ns mainGlobals g.mg
  says : SaysY g.w g.K
def isGlo (x : Str) : He.Fa → Bool
  | .glo y => decide (y = x)
  | _ => false
def isFree (x : Str) : He.Fa → Bool
  | .free y => decide (y = x)
  | _ => false
def isIntc (x : Str) (i : Int) : He.Fa → Bool
  | .int y j => decide (y = x) && decide (j = i)
  | _ => false
def isMe (x m : Str) : He.Fa → Bool
  | .meth y n => decide (y = x) && decide (n = m)
  | _ => false
section
variable {g : Gv}
theorem Gd.t (G : Gd g) : He.SaysT fa fn ts g.w g.K := congrArg Prod.fst G.says
theorem Gd.ex (G : Gd g) : exB g.K = true := congrArg Prod.snd G.says
theorem Gd.d (G : Gd g) : He.SaysD fa fn g.K := G.t.d
theorem Gd.fact (G : Gd g) {f : He.Fa} (h : f ∈ fa) : f.ok g.K = true := by
  obtain ⟨i, hi⟩ := List.getElem?_of_mem h
  exact G.d.fact i hi
theorem Gd.glo (G : Gd g) (x : Str) (h : fa.any (isGlo x) = true := by decide +kernel) : g.mg x = some (.ref (He.ga g.K x)) := by
  obtain ⟨f, hf, e⟩ := List.any_eq_true.mp h
  cases f with
  | glo y =>
    obtain rfl : y = x := of_decide_eq_true e
    exact He.glo_ok G.kin G.ns (G.fact hf)
  | _ => cases e
theorem Gd.free (G : Gd g) (x : Str) (h : fa.any (isFree x) = true := by decide +kernel) : g.mg x = none := by
  obtain ⟨f, hf, e⟩ := List.any_eq_true.mp h
  cases f with
  | free y =>
    obtain rfl : y = x := of_decide_eq_true e
    exact He.free_ok G.kin G.ns (G.fact hf)
  | _ => cases e
theorem Gd.intc (G : Gd g) (x : Str) (i : Int) (h : fa.any (isIntc x i) = true := by decide +kernel) : ∃ t, g.mg x = some (.int i t) := by
  obtain ⟨f, hf, e⟩ := List.any_eq_true.mp h
  cases f with
  | int y j =>
    have e' : (decide (y = x) && decide (j = i)) = true := e
    rw [Bool.and_eq_true] at e'
    obtain rfl : y = x := of_decide_eq_true e'.1
    obtain rfl : j = i := of_decide_eq_true e'.2
    exact He.int_ok G.kin G.ns (G.fact hf)
  | _ => cases e
theorem Gd.meth (G : Gd g) (x m : Str) (h : fa.any (isMe x m) = true := by decide +kernel) : Meth g.K (He.ga g.K x) m (He.ma g.K (He.ga g.K x) m) := by
  obtain ⟨f, hf, e⟩ := List.any_eq_true.mp h
  cases f with
  | meth y n =>
    have e' : (decide (y = x) && decide (n = m)) = true := e
    rw [Bool.and_eq_true] at e'
    obtain rfl : y = x := of_decide_eq_true e'.1
    obtain rfl : n = m := of_decide_eq_true e'.2
    exact He.meth_ok (G.fact hf)
  | _ => cases e
theorem Gd.def_ (G : Gd g) (i : Nat) {d : He.DefD} (h : fn[i]? = some d := by rfl) : ∃ fd, FunD g.K d.name d.qual d.params d.body d.scope (d.dvs g.K) (d.kws g.K) (He.fAd g.K d.at_) fd := G.d.def_ i h
theorem Gd.gcd (G : Gd g) : g.mg "gcd" = some (.builtin "math.gcd") := by
  have h : He.eqO (PySem.W.nsIn g.K mainGlobals "gcd") (some (some (.builtin "math.gcd"))) = true := (Bool.and_eq_true_iff.mp (show (He.eqO (PySem.W.nsIn g.K mainGlobals "gcd") (some (some (.builtin "math.gcd"))) && _) = true from G.ex)).1
  exact PySem.W.mg_of G.kin G.ns (He.eqO_ok h)
end
end Od
namespace Od
open PySem PySem.Spec PyProof.Rows L2
section
variable {X : Cx} {e a b : Expr} {es : List Expr} {ρ : Rho} {μ μ1 μ2 μ3 : Mu} {d d1 d2 : D} {pos cp cpos : Pos} {ds : List D} {i j : Int}
theorem op_fdivX : OpR X (binaryOp .FloorDiv) (rI (fun _ j => j ≠ 0 ∧ j.natAbs.log2 < 9000) fun i j => .int (i.fdiv j)) := opI fun _ _ _ _ _ _ _ hc q => floordiv_int hc.1 q (.inl (PyProof.noPylong_of_log2 hc.2))
theorem DE_mulW (ha : DE X a ρ μ (.int i) μ1) (hb : DE X b ρ μ1 (.int j) μ2) (h : CMulW i j) : DE X (.BinOp a .Mult b pos) ρ μ (.int (i * j)) μ2 := DE_op op_mulW (vI h fun _ => rfl) ha hb
theorem DE_fdivX (ha : DE X a ρ μ (.int i) μ1) (hb : DE X b ρ μ1 (.int j) μ2) (h0 : j ≠ 0) (h : j.natAbs.log2 < 9000) : DE X (.BinOp a .FloorDiv b pos) ρ μ (.int (i.fdiv j)) μ2 := DE_op op_fdivX (vI ⟨h0, h⟩ fun _ => rfl) ha hb
/-- a value's type as a builtin's name -/
def tyD : D → Option String
  | .non => some "NoneType"
  | .bl _ => some "bool"
  | .int _ => some "int"
  | .str _ => some "str"
  | .tup _ => some "tuple"
  | .gtup _ => some "tuple"
  | .lst _ => some "list"
  | _ => none
theorem ty_rep {K : PySem.W.Frag} {B H : Hp} {v : V} {n : String} (S : Sat K B H μ) (r : Rep K B d v) (h : tyD d = some n) : TyX K H v (.type n) := by
  cases d with
  | non => cases (show v = .non from r); cases h; exact .base .non
  | bl b => cases (show v = .bl b from r); cases h; exact .base (.bl b)
  | int b => cases (show v = .int b from r); cases h; exact .base (.int b)
  | str b => cases (show v = .str b from r); cases h; exact .base (.str b)
  | tup b => obtain ⟨_, _, rfl, hb, _⟩ := r; cases h; exact .base (.tup (S.sub _ _ hb))
  | gtup b => obtain ⟨_, _, _, rfl, hb, _⟩ := r; cases h; exact .fTuple (S.sub _ _ hb)
  | lst b => obtain ⟨_, _, rfl, hb, _⟩ := r; cases h; exact .base (.lst (S.sub _ _ hb))
  | dic b => cases h
  | ptr _ => cases h
  | any => cases h
  | grf _ _ => cases h
  | slst _ => cases h
variable {T : Str} {n T' : String} {t : Bool} {p2 : Pos}
theorem DE_isi (hm : X.mg "isinstance" = none) (hT : X.mg T = none) (ha : DE X a ρ μ d μ1) (hv : bootBuiltins T = some (.type T') := by decide +kernel) (ht : tyD d = some n := by rfl) (hk : kitB n T' = some t := by decide +kernel) (hg : Gl X "isinstance" := by rfl) (hg2 : Gl X T := by rfl)
    (he : starEach (a :: [.Name T p2]) X.env = (false, eval a X.env) :: starEach [.Name T p2] X.env := by rfl) (he2 : starEach [.Name T p2] X.env = (false, eval (.Name T p2) X.env) :: starEach [] X.env := by rfl)
    (hpl : (backTo pos (starEach [.Name T p2] X.env)).any (·.1) = false := by rfl) (hn : T ≠ "__name__" := by decide) (hd : (T == ("__debug__" : Str)) = false := by decide) :
    DE X (.Call (.Name "isinstance" cp) [a, .Name T p2] [] pos) ρ μ (.bl t) μ1 := fun B H σ Q S L k =>
  peW (pe_callB call_isi hg hm boot_isi' (pa_cons pe_w (pa_cons (pe_bltn (v := .ty T') hg2 hT hv rfl hn hd) pa_nil he2) he) (he := he) (hpl := hpl))
    (ha B H σ _ S L fun B1 H1 x i S1 r => ⟨x, .ty T', .type n, .type T', t, rfl, .ty T', ty_rep S1 r ht, kit_ty hk, k B1 H1 _ i S1 rfl⟩)
theorem DT_isi (hm : X.mg "isinstance" = none) (hT : X.mg T = none) (ha : DE X a ρ μ d μ1) (hv : bootBuiltins T = some (.type T') := by decide +kernel) (ht : tyD d = some n := by rfl) (hk : kitB n T' = some t := by decide +kernel) (hg : Gl X "isinstance" := by rfl) (hg2 : Gl X T := by rfl)
    (he : starEach (a :: [.Name T p2]) X.env = (false, eval a X.env) :: starEach [.Name T p2] X.env := by rfl) (he2 : starEach [.Name T p2] X.env = (false, eval (.Name T p2) X.env) :: starEach [] X.env := by rfl)
    (hpl : (backTo pos (starEach [.Name T p2] X.env)).any (·.1) = false := by rfl) (hn : T ≠ "__name__" := by decide) (hd : (T == ("__debug__" : Str)) = false := by decide) :
    DT X (.Call (.Name "isinstance" cp) [a, .Name T p2] [] pos) ρ μ t μ1 := DT_val (DE_isi hm hT ha hv ht hk hg hg2 he he2 hpl hn hd)
end
/-- rationals as data -/
def pD (n d : Int) : D := .tup [.int n, .int d]
def qD (q : Rat) : D := pD q.num q.den
end Od
namespace Od
open PySem PySem.Spec PyProof.Rows L2
section
variable {X : Cx} {scope : Scope} {e a b c tg iter tg1 iter1 elt : Expr} {ifs : List Expr} {ρ ρ' ρ1 ρ2 : Rho} {μ μ' μ0 μ1 μ2 μ3 : Mu} {d d1 d2 : D} {pos : Pos} {ds items : List D} {C : Mu → Prop} {ks : List (List Int × D)}
theorem lcM (own : List (Str × Nat)) (A : Nat → List D) (M : Nat → Mu) (hI : DI X tg iter ρ μ items C μ0) (hA : A 0 = []) (hM : M 0 = μ0) (hC : ∀ i a, C ((a, .lst (A i)) :: M i))
    (hs : Turns X scope tg elt ifs ρ (own.map (·.2)) items A M) (hN : X.N.Nodup) (hd : .lst (A items.length) = d) (hm : M items.length = μ')
    (ok : blkC X.N X.env.scope scope own = true := by kernel_rfl) (hc : X.calm = true := by rfl) (hfs : ∀ x, foldedSetIterable iter X.env x = pure x := by intro _; rfl) :
    DN X (.ListComp elt [⟨tg, iter, ifs, 0⟩] scope pos) ρ μ d μ' := by
  subst hd hm
  exact DN_lcM own hI A M hA hM hC hs hN ok hc hfs
theorem lcP (own : List (Str × Nat)) {α : Type} (xs : List α) (enc : α → D) (p : α → Bool) (f : α → D) (hI : DI X tg iter ρ μ items C μ') (hi : items = xs.map enc) (hC : ∀ a l, C ((a, .lst l) :: μ'))
    (hs : ∀ x ∈ xs, ∀ a l, ∃ ρ' is, (Blk X scope fun Y => DG Y tg (enc x) (wipeR ρ (own.map (·.2))) ρ' is) ∧ (∀ j ∈ is, j ∈ own.map (·.2)) ∧ (Blk X scope fun Y => DTs Y ifs ρ' ((a, .lst l) :: μ') (p x) ((a, .lst l) :: μ')) ∧
      (p x = true → Blk X scope fun Y => DE Y elt ρ' ((a, .lst l) :: μ') (f x) ((a, .lst l) :: μ')))
    (hN : X.N.Nodup) (hd : .lst ((xs.filter p).map f) = d) (ok : blkC X.N X.env.scope scope own = true := by kernel_rfl) (hc : X.calm = true := by rfl) (hfs : ∀ x, foldedSetIterable iter X.env x = pure x := by intro _; rfl) :
    DN X (.ListComp elt [⟨tg, iter, ifs, 0⟩] scope pos) ρ μ d μ' := by
  subst hd hi
  exact DN_lc own xs enc p f hI hC hs hN ok hc hfs
/-- no filter -/
theorem lcF (own : List (Str × Nat)) {α : Type} (xs : List α) (enc : α → D) (f : α → D) (hI : DI X tg iter ρ μ items C μ') (hi : items = xs.map enc) (hC : ∀ a l, C ((a, .lst l) :: μ'))
    (hs : ∀ x ∈ xs, ∀ a l, ∃ ρ' is, (Blk X scope fun Y => DG Y tg (enc x) (wipeR ρ (own.map (·.2))) ρ' is) ∧ (∀ j ∈ is, j ∈ own.map (·.2)) ∧
      (Blk X scope fun Y => DE Y elt ρ' ((a, .lst l) :: μ') (f x) ((a, .lst l) :: μ')))
    (hN : X.N.Nodup) (hd : .lst (xs.map f) = d) (ok : blkC X.N X.env.scope scope own = true := by kernel_rfl) (hc : X.calm = true := by rfl) (hfs : ∀ x, foldedSetIterable iter X.env x = pure x := by intro _; rfl) :
    DN X (.ListComp elt [⟨tg, iter, [], 0⟩] scope pos) ρ μ d μ' := by
  refine lcP own xs enc (fun _ => true) f hI hi hC (fun x hx a l => ?_) hN ?_ ok hc hfs
  · obtain ⟨ρ', is, h1, h2, h3⟩ := hs x hx a l
    exact ⟨ρ', is, h1, h2, fun s0 H0 Cc cl fp => DTs_nil, fun _ => h3⟩
  · rw [← hd, List.filter_eq_self.mpr fun _ _ => rfl]
theorem lcPD (own : List (Str × Nat)) (us : List U) (p : U → Bool) (f : U → D) (hv : DV X iter ρ (.dic ks)) (hk : keysD ks = us.map uD)
    (hs : ∀ x ∈ us, ∀ a l, ∃ ρ' is, (Blk X scope fun Y => DG Y tg (uD x) (wipeR ρ (own.map (·.2))) ρ' is) ∧ (∀ j ∈ is, j ∈ own.map (·.2)) ∧ (Blk X scope fun Y => DTs Y ifs ρ' ((a, .lst l) :: μ) (p x) ((a, .lst l) :: μ)) ∧
      (p x = true → Blk X scope fun Y => DE Y elt ρ' ((a, .lst l) :: μ) (f x) ((a, .lst l) :: μ)))
    (hN : X.N.Nodup) (hd : .lst ((us.filter p).map f) = d) (ok : blkC X.N X.env.scope scope own = true := by kernel_rfl) (hc : X.calm = true := by rfl) (hfs : ∀ x, foldedSetIterable iter X.env x = pure x := by intro _; rfl) :
    DN X (.ListComp elt [⟨tg, iter, ifs, 0⟩] scope pos) ρ μ d μ := by
  subst hd
  exact DN_lcD own p f hv hk hs hN ok hc hfs
end
section
variable {X : Cx} {e : Expr} {ρ : Rho} {μ μ1 : Mu} {c : D} {pos : Pos} {P : Out → Prop}
theorem DS_retD (he : DN X e ρ μ c μ1) (h : ∀ a : Addr, P (.rt (.ptr a) ((a, c) :: μ1))) : DS X (.Return (some e) pos) ρ μ P := fun B H σ Dn S L k =>
  psW (ps_ret pe_w) (he B H σ _ S L fun B1 H1 a i1 S1 => k _ (h a) B1 H1 _ i1 S1 rfl)
def bodyIf (b : List Stmt) (i : Nat) : List Stmt := match b[i]? with
  | some (.If _ sa _ _) => sa
  | _ => []
theorem DE.eq {d d' : D} (h : DE X e ρ μ d μ1) (q : d = d') : DE X e ρ μ d' μ1 := q ▸ h
theorem DT.eq {b b' : Bool} (h : DT X e ρ μ b μ1) (q : b = b') : DT X e ρ μ b' μ1 := q ▸ h
theorem Ret.of {d d' : D} {μ μ' : Mu} (h : d' = d) (s : μ.Sublist μ') : Ret d μ (.rt d' μ') := ⟨h, s⟩
end
section
variable {X : Cx} {e a b : Expr} {ρ : Rho} {μ μ1 μ2 μ3 : Mu} {d : D} {pos apos cpos : Pos} {P : Out → Prop} {p : Addr} {ds es' : List D}
theorem apd (n : Nat) (ha : DE X a ρ μ (.ptr p) μ1) (hb : DE X b ρ μ1 d μ2) (hn : μ2[n]? = some (p, .lst ds) := by rfl) (hl : ds.length < 16777216) (hm : μ2.set n (p, .lst (ds ++ [d])) = μ3 := by rfl) (hn1 : ∃ es, μ1[n]? = some (p, D.lst es) := by exact ⟨_, rfl⟩) (hbase : attributeBase a "append" X.env (eval a X.env) = eval a X.env := by rfl)
    (hfew : ((backTo cpos (starEach [b] X.env)).all (fun x => !x.1) && (backToKw cpos (keywordEach [] X.env)).all (fun x => x.1.isSome)
      && decide (([b] : List Expr).length + ([] : List Keyword).length + (if ([] : List Keyword).isEmpty then 0 else 1) < 30)) = true := by rfl)
    (hline : (apos.endLine == cpos.line) = true := by rfl) (hs : starEach [b] X.env = (false, eval b X.env) :: starEach [] X.env := by rfl) (hplain : (backTo cpos (starEach [] X.env)).any (·.1) = false := by rfl) :
    DE X (.Call (.Attribute a "append" apos) [b] [] cpos) ρ μ .non μ3 := by
  subst hm
  exact DE_append n ha hb hn hl hbase hfew hline hs hplain hn1
theorem ext (n : Nat) (ha : DE X a ρ μ (.ptr p) μ1) (hb : DE X b ρ μ1 (.lst es') μ2) (hn : μ2[n]? = some (p, .lst ds) := by rfl) (hl : ds.length + es'.length ≤ 16777216) (hm : μ2.set n (p, .lst (ds ++ es')) = μ3 := by rfl) (hn1 : ∃ es, μ1[n]? = some (p, D.lst es) := by exact ⟨_, rfl⟩) (hbase : attributeBase a "extend" X.env (eval a X.env) = eval a X.env := by rfl)
    (hfew : ((backTo cpos (starEach [b] X.env)).all (fun x => !x.1) && (backToKw cpos (keywordEach [] X.env)).all (fun x => x.1.isSome)
      && decide (([b] : List Expr).length + ([] : List Keyword).length + (if ([] : List Keyword).isEmpty then 0 else 1) < 30)) = true := by rfl)
    (hline : (apos.endLine == cpos.line) = true := by rfl) (hs : starEach [b] X.env = (false, eval b X.env) :: starEach [] X.env := by rfl) (hplain : (backTo cpos (starEach [] X.env)).any (·.1) = false := by rfl) :
    DE X (.Call (.Attribute a "extend" apos) [b] [] cpos) ρ μ .non μ3 := by
  subst hm
  exact DE_extend n ha hb hn hl hbase hfew hline hs hplain hn1
theorem popL (n : Nat) (ha : DE X a ρ μ (.ptr p) μ1) (hn : μ1[n]? = some (p, .lst ds) := by rfl) (hl : ds[ds.length - 1]? = some d) (hm : μ1.set n (p, .lst ds.dropLast) = μ2 := by rfl) (hbase : attributeBase a "pop" X.env (eval a X.env) = eval a X.env := by rfl) (hline : (apos.endLine == cpos.line) = true := by rfl) :
    DE X (.Call (.Attribute a "pop" apos) [] [] cpos) ρ μ d μ2 := by
  subst hm
  exact DE_pop n ha hn hl hbase hline
end
end Od
namespace Od
def gst (a b : Nat) : Nat → Nat × Nat
  | 0 => (a, b)
  | i + 1 => if (gst a b i).2 = 0 then gst a b i else ((gst a b i).2, (gst a b i).1 % (gst a b i).2)
theorem gst_gcd (a b : Nat) : ∀ i, Nat.gcd (gst a b i).1 (gst a b i).2 = Nat.gcd a b
  | 0 => rfl
  | i + 1 => by
    rw [← gst_gcd a b i]
    by_cases h : (gst a b i).2 = 0
    · simp only [gst, if_pos h]
    · simp only [gst, if_neg h]
      rw [Nat.gcd_comm (gst a b i).1, Nat.gcd_rec (gst a b i).2 (gst a b i).1, Nat.gcd_comm]
theorem gst_pot (a b : Nat) : ∀ i, (gst a b (i + 1)).2 ≠ 0 → (gst a b (i + 1)).2 < (gst a b (i + 1)).1 ∧ 2 ^ i * ((gst a b (i + 1)).1 * (gst a b (i + 1)).2) ≤ b * b
  | 0, h => by
    by_cases hb : b = 0
    · exact absurd (by simp [gst, hb]) h
    · have e : gst a b (0 + 1) = (b, a % b) := by
        show (if b = 0 then (a, b) else (b, a % b)) = _
        rw [if_neg hb]
      rw [e]
      have h1 := Nat.mod_lt a (Nat.pos_of_ne_zero hb)
      refine ⟨h1, ?_⟩
      have : b * (a % b) ≤ b * b := Nat.mul_le_mul (Nat.le_refl _) (Nat.le_of_lt h1)
      show 2 ^ 0 * (b * (a % b)) ≤ b * b
      omega
  | i + 1, h => by
    generalize ex : gst a b (i + 1) = x at *
    have e2 : gst a b (i + 1 + 1) = if x.2 = 0 then x else (x.2, x.1 % x.2) := by rw [gst, ex]
    by_cases hx : x.2 = 0
    · rw [e2, if_pos hx] at h
      exact absurd hx h
    · have ih := gst_pot a b i (by rw [ex]; exact hx)
      rw [ex] at ih
      rw [e2, if_neg hx] at h ⊢
      have h1 := Nat.mod_lt x.1 (Nat.pos_of_ne_zero hx)
      refine ⟨h1, ?_⟩
      have h2 : 2 * (x.1 % x.2) ≤ x.1 := by
        have := Nat.div_add_mod x.1 x.2
        have q : 1 ≤ x.1 / x.2 := (Nat.one_le_div_iff (Nat.pos_of_ne_zero hx)).mpr (Nat.le_of_lt ih.1)
        have : x.2 * 1 ≤ x.2 * (x.1 / x.2) := Nat.mul_le_mul (Nat.le_refl _) q
        omega
      have h3 : 2 * (x.2 * (x.1 % x.2)) ≤ x.1 * x.2 := by
        have := Nat.mul_le_mul (Nat.le_refl x.2) h2
        have e1 : x.2 * (2 * (x.1 % x.2)) = 2 * (x.2 * (x.1 % x.2)) := by rw [Nat.mul_left_comm]
        rw [e1, Nat.mul_comm x.2 x.1] at this
        exact this
      show 2 ^ (i + 1) * (x.2 * (x.1 % x.2)) ≤ b * b
      refine Nat.le_trans ?_ ih.2
      rw [Nat.pow_succ, Nat.mul_assoc]
      exact Nat.mul_le_mul (Nat.le_refl _) h3
theorem gst_end {a b n : Nat} (hb : b < 2 ^ n) : (gst a b (2 * n + 1)).2 = 0 := by
  refine Decidable.byContradiction fun h => ?_
  obtain ⟨h1, h2⟩ := gst_pot a b (2 * n) h
  have h3 : 0 < (gst a b (2 * n + 1)).1 * (gst a b (2 * n + 1)).2 := Nat.mul_pos (Nat.lt_of_le_of_lt (Nat.zero_le _) h1) (Nat.pos_of_ne_zero h)
  have h4 : b * b < 2 ^ n * 2 ^ n := Nat.mul_lt_mul'' hb hb
  rw [← Nat.pow_add, ← Nat.two_mul] at h4
  have h5 : 2 ^ (2 * n) * 1 ≤ 2 ^ (2 * n) * ((gst a b (2 * n + 1)).1 * (gst a b (2 * n + 1)).2) := Nat.mul_le_mul (Nat.le_refl _) h3
  omega
theorem gst_stay {a b i : Nat} (h : (gst a b i).2 = 0) : ∀ j, gst a b (i + j) = gst a b i
  | 0 => rfl
  | j + 1 => by
    have := gst_stay h j
    show gst a b (i + j + 1) = _
    simp only [gst, this, h, if_pos]
/-- what the 40000 turns come to -/
theorem gst_res {a b n m : Nat} (hb : b < 2 ^ n) (hm : 2 * n + 1 ≤ m) : gst a b m = (Nat.gcd a b, 0) := by
  have h0 := gst_end (a := a) hb
  obtain ⟨j, rfl⟩ := Nat.exists_eq_add_of_le hm
  rw [gst_stay h0 j]
  have := gst_gcd a b (2 * n + 1)
  rw [h0, Nat.gcd_zero_right] at this
  exact Prod.ext this h0
theorem gst_stop {a b i : Nat} (h : (gst a b i).2 = 0) : (gst a b i).1 = Nat.gcd a b := by
  have := gst_gcd a b i
  rw [h, Nat.gcd_zero_right] at this
  exact this
theorem gst_le1 (a b : Nat) : ∀ i, (gst a b i).1 ≤ a + b ∧ (gst a b i).2 ≤ a + b
  | 0 => ⟨by show a ≤ _; omega, by show b ≤ _; omega⟩
  | i + 1 => by
    obtain ⟨h1, h2⟩ := gst_le1 a b i
    by_cases h : (gst a b i).2 = 0
    · simp only [gst, if_pos h]; exact ⟨h1, h2⟩
    · simp only [gst, if_neg h]
      exact ⟨h2, Nat.le_trans (Nat.mod_le _ _) h1⟩
end Od
namespace Od
open PySem PySem.Spec PyProof.Rows L2
abbrev nGcd : List Str := ["_law_a", "_law_b", "_law_k"]
theorem scGcd : FnScope nGcd ["_law_a", "_law_b"] d_l_gcd.scope := ⟨rfl, rfl, rfl, by decide +kernel, rfl, by decide +kernel, by decide +kernel⟩
def spGcd : Dsp := fun ds μ d μ' => ∃ a b : Int, ds = [.int a, .int b] ∧ b.natAbs < 2 ^ 9000 ∧ d = .int (Int.gcd a b) ∧ μ = μ'
theorem abs_eq (i : Int) : (if i < 0 then -i else i) = (i.natAbs : Int) := by split <;> omega
theorem c_gcd {g : Gv} (G : Gd g) : Ctr g 1 "_law_gcd" (spD g.K spGcd) := by
  obtain ⟨fd, F⟩ := G.def_ 44 (d := d_l_gcd) rfl
  refine ⟨_, G.glo "_law_gcd", F.kp, fn_of_body F scGcd (F.bindsN fun _ _ _ _ _ _ us hl => match us, hl with | [_, _], _ => rfl) (fun _ _ _ _ h => by obtain ⟨_, _, e, _⟩ := h; rw [e]; rfl) fun l ds μ d μ' R h => ?_⟩
  obtain ⟨a, b, rfl, hb, rfl, rfl⟩ := h
  refine DSs_cons (DS_set 0 (DE_abs (G.free "abs") (DE_var 0)) ?_ scGcd.nd)
  refine DSs_cons (DS_set 1 (DE_abs (G.free "abs") (DE_var 1)) ?_ scGcd.nd)
  rw [abs_eq, abs_eq]
  refine DSs_cons (DS_for (DI_range (n := 40000) (G.free "range") DE_int (by decide)) (fun i ρ μ' => μ' = μ ∧ ∃ d, ρ = [some (.int (gst a.natAbs b.natAbs i).1), some (.int (gst a.natAbs b.natAbs i).2), d]) ⟨rfl, _, rfl⟩ (fun _ _ _ _ => trivial) ?_ ?_)
  · rintro i d ρ μ' hi ⟨rfl, d0, rfl⟩
    refine ⟨_, _, DG_name 2 scGcd.nd, ?_⟩
    refine DSs_cons (DS_if (DT_eqI (DE_var 1) DE_int) (fun h0 => ?_) fun h0 => ?_)
    · have h0 : (gst a.natAbs b.natAbs i).2 = 0 := by simpa using h0
      refine DSs_cons (DS_brk ?_)
      refine DSs_cons (DS_ret (DE_var 0) ?_)
      show Ret _ _ (.rt _ _)
      rw [gst_stop h0]
      exact Ret.rt
    · have h0 : ¬ (gst a.natAbs b.natAbs i).2 = 0 := by simpa using h0
      refine DSs_nil ?_
      refine DSs_cons (DS_par 0 1 (DE_var 1) (DE_mod (DE_intI (G.free "int") (DE_var 0)) (DE_var 1) (by omega)) ?_ scGcd.nd (by decide))
      refine DSs_nil ⟨rfl, some d, ?_⟩
      show [some (D.int _), some (D.int _), some d] = _
      simp only [gst, if_neg h0]
      rfl
  · rintro ρ μ' ⟨rfl, d0, rfl⟩
    refine DSs_cons (DS_ret (DE_var 0) ?_)
    show Ret _ _ (.rt _ _)
    rw [show (rgD 40000).length = 40000 by simp [rgD], gst_res (n := 9000) hb (by decide)]
    exact Ret.rt
end Od
namespace Od
open PySem PySem.Spec PyProof.Rows L2
theorem low_num {n d s : Int} (hd : d ≠ 0) (hs : s = (if d < 0 then 0 - (Int.gcd n d : Int) else (Int.gcd n d : Int))) : n.fdiv s = (Rat.divInt n d).num ∧ d.fdiv s = ((Rat.divInt n d).den : Int) := by
  have hg : ((Int.gcd n d : Nat) : Int) ∣ n := Int.gcd_dvd_left ..
  have hg2 : ((Int.gcd n d : Nat) : Int) ∣ d := Int.gcd_dvd_right ..
  rw [Rat.num_divInt, Rat.den_divInt, if_neg hd, Int.gcd_comm d n]
  by_cases h : d < 0
  · rw [if_pos h] at hs
    have e : s = -(Int.gcd n d : Int) := by omega
    have sd : d.sign = -1 := Int.sign_eq_neg_one_of_neg h
    rw [e, Int.fdiv_eq_ediv_of_dvd (Int.neg_dvd.mpr hg), Int.fdiv_eq_ediv_of_dvd (Int.neg_dvd.mpr hg2), Int.ediv_neg, Int.ediv_neg, sd]
    refine ⟨?_, ?_⟩
    · rw [show (-1 : Int) * n = -n by omega, Int.neg_ediv_of_dvd hg]
    · rw [Int.natCast_ediv, show ((d.natAbs : Nat) : Int) = -d by omega, Int.neg_ediv_of_dvd hg2]
  · rw [if_neg h] at hs
    have sd : d.sign = 1 := Int.sign_eq_one_of_pos (by omega)
    rw [hs, Int.fdiv_eq_ediv_of_dvd hg, Int.fdiv_eq_ediv_of_dvd hg2, sd, Int.one_mul]
    refine ⟨rfl, ?_⟩
    rw [Int.natCast_ediv, show ((d.natAbs : Nat) : Int) = d by omega]
abbrev nLow : List Str := ["_law_n", "_law_d", "_law_shared"]
theorem scLow : FnScope nLow ["_law_n", "_law_d"] d_l_low.scope := ⟨rfl, rfl, rfl, by decide +kernel, rfl, by decide +kernel, by decide +kernel⟩
def spLow : Dsp := fun ds μ d μ' => ∃ n m : Int, ds = [.int n, .int m] ∧ m ≠ 0 ∧ m.natAbs < 2 ^ 9000 ∧ d = qD (Rat.divInt n m) ∧ μ = μ'
theorem log2_lt {x n : Nat} (h : x < 2 ^ n) (h0 : 0 < n) : x.log2 < n := by
  by_cases hx : x = 0
  · subst hx
    rw [Nat.log2_zero]; exact h0
  · exact (Nat.log2_lt hx).mpr h
theorem c_low {g : Gv} (G : Gd g) : Ctr g 2 "_law_low" (spD g.K spLow) := by
  obtain ⟨fd, F⟩ := G.def_ 45 (d := d_l_low) rfl
  refine ⟨_, G.glo "_law_low", F.kp, fn_of_body F scLow (F.bindsN fun _ _ _ _ _ _ us hl => match us, hl with | [_, _], _ => rfl) (fun _ _ _ _ h => by obtain ⟨_, _, e, _⟩ := h; rw [e]; rfl) fun l ds μ d μ' R h => ?_⟩
  obtain ⟨n, m, rfl, h0, hb, rfl, rfl⟩ := h
  refine DSs_cons (DS_set 2 (DE_call (c_gcd G) R (DA_cons (DE_var 0) (DA_cons (DE_var 1) DA_nil)) ⟨n, m, rfl, hb, rfl, rfl⟩) ?_ scLow.nd)
  have hg0 : 0 < Int.gcd n m := Int.gcd_pos_of_ne_zero_right n h0
  have hgl : Int.gcd n m ≤ m.natAbs := Nat.le_of_dvd (by omega) (Int.gcd_dvd_natAbs_right n m)
  have fin : ∀ s : Int, s = (if m < 0 then 0 - (Int.gcd n m : Int) else (Int.gcd n m : Int)) → DSs (cX g l nLow d_l_low.scope) (d_l_low.body.drop 2) [some (.int n), some (.int m), some (.int s)] μ (Ret (qD (Rat.divInt n m)) μ) := fun s hs => by
    have s0 : s ≠ 0 ∧ s.natAbs = Int.gcd n m := by split at hs <;> omega
    have sl : s.natAbs.log2 < 9000 := log2_lt (by rw [s0.2]; exact Nat.lt_of_le_of_lt hgl hb) (by decide)
    obtain ⟨e1, e2⟩ := low_num h0 hs
    exact DSs_cons (DS_ret (DE_tup (DA_cons (DE_fdivX (DE_var 0) (DE_var 2) s0.1 sl) (DA_cons (DE_fdivX (DE_var 1) (DE_var 2) s0.1 sl) DA_nil))) (by rw [e1, e2]; exact Ret.rt))
  refine DSs_cons (DS_if (DT_ltI (DE_var 1) DE_int) (fun c => ?_) fun c => ?_)
  · refine DSs_cons (DS_set 2 (DE_sub DE_int (DE_var 2)) ?_ scLow.nd)
    refine DSs_nil ?_
    exact fin _ (by rw [if_pos (by simpa using c)])
  · exact DSs_nil (fin _ (by rw [if_neg (by simpa using c)]))
end Od
namespace Od
open PySem PySem.Spec PyProof.Rows L2
/-- numbers that the arithmetic takes -/
def Sm (q : Rat) : Prop := q.num.natAbs < 2 ^ 4400 ∧ q.den < 2 ^ 4400
theorem pow_le_9000 {x y : Nat} (hx : x < 2 ^ 4400) (hy : y < 2 ^ 4400) : x * y < 2 ^ 8800 := by
  have := Nat.mul_lt_mul'' hx hy
  rw [← Nat.pow_add] at this
  exact this
theorem p8800 : 2 ^ 8800 ≤ 2 ^ 9000 := Nat.pow_le_pow_right (by decide) (by decide)
theorem mulw {i j : Int} (hi : i.natAbs < 2 ^ 4400) (hj : j.natAbs < 2 ^ 4400) : CMulW i j := wide_mul hi hj (by decide) (by decide) (by decide)
theorem Sm.d {q : Rat} (h : Sm q) : ((q.den : Nat) : Int).natAbs < 2 ^ 4400 := by rw [Int.natAbs_natCast]; exact h.2
theorem add_divInt (a b : Rat) : Rat.divInt (a.num * b.den + b.num * a.den) ((a.den : Int) * b.den) = a + b := by
  rw [Rat.add_def', ← Int.natCast_mul]; rfl
theorem mul_divInt (a b : Rat) : Rat.divInt (a.num * b.num) ((a.den : Int) * b.den) = a * b := by
  rw [Rat.mul_def', ← Int.natCast_mul]; rfl
def spPlus : Dsp := fun ds μ d μ' => ds.length = 2 ∧ ∃ p q : Rat, ds = [qD p, qD q] ∧ Sm p ∧ Sm q ∧ d = qD (p + q) ∧ μ = μ'
def spTimes : Dsp := fun ds μ d μ' => ds.length = 2 ∧ ∃ p q : Rat, ds = [qD p, qD q] ∧ Sm p ∧ Sm q ∧ d = qD (p * q) ∧ μ = μ'
theorem atI_nat {α : Type} {xs : List α} {i : Nat} {x : α} (h : xs[i]? = some x) : atI xs (i : Int) = some x := by
  have hl : i < xs.length := (List.getElem?_eq_some_iff.mp h).1
  unfold atI ixN
  rw [if_pos (by omega), if_pos (by omega)]
  exact h
theorem setAt {μ : Mu} {n : Nat} {x y : Addr × D} (h : μ[n]? = some y) : (μ.set n x)[n]? = some x := List.getElem?_set_self (List.getElem?_eq_some_iff.mp h).1
theorem den2 {p q : Rat} (hp : Sm p) (hq : Sm q) : ((p.den : Int) * q.den ≠ 0) ∧ ((p.den : Int) * q.den).natAbs < 2 ^ 9000 := by
  refine ⟨?_, ?_⟩
  · have h1 := p.den_pos; have h2 := q.den_pos
    have : (0 : Int) < (p.den : Int) * q.den := Int.mul_pos (by omega) (by omega)
    omega
  · rw [← Int.natCast_mul, Int.natAbs_natCast]
    exact Nat.lt_of_lt_of_le (pow_le_9000 hp.2 hq.2) p8800
abbrev n_l_plus : List Str := ["_law_a", "_law_b"]
theorem sc_l_plus : FnScope n_l_plus ["_law_a", "_law_b"] d_l_plus.scope := ⟨rfl, rfl, rfl, by decide +kernel, rfl, by decide +kernel, by decide +kernel⟩
theorem c_l_plus {g : Gv} (G : Gd g) : Ctr g 3 "_law_plus" (spD g.K spPlus) := by
  obtain ⟨fd, F⟩ := G.def_ 46 (d := d_l_plus) rfl
  refine ⟨_, G.glo "_law_plus", F.kp, fn_of_body F sc_l_plus (F.bindsN fun _ _ _ _ _ _ us hl => match us, hl with | [_, _], _ => rfl) (fun _ _ _ _ h => h.1) fun l ds μ d μ' R h => ?_⟩
  obtain ⟨-, h⟩ := h
  have nd := sc_l_plus.nd
  obtain ⟨p, q, rfl, hp, hq, rfl, rfl⟩ := h
  have hd := den2 hp hq
  refine DSs_cons (DS_ret (DE_call (c_low G) R (DA_cons (DE_add (DE_mulW (DE_ixT (DE_var 0) DE_int) (DE_ixT (DE_var 1) DE_int) (mulw hp.1 hq.d)) (DE_mulW (DE_ixT (DE_var 1) DE_int) (DE_ixT (DE_var 0) DE_int) (mulw hq.1 hp.d))) (DA_cons (DE_mulW (DE_ixT (DE_var 0) DE_int) (DE_ixT (DE_var 1) DE_int) (mulw hp.d hq.d)) DA_nil)) ⟨_, _, rfl, hd.1, hd.2, rfl, rfl⟩) ?_)
  rw [add_divInt]
  exact Ret.rt
abbrev n_l_times : List Str := ["_law_a", "_law_b"]
theorem sc_l_times : FnScope n_l_times ["_law_a", "_law_b"] d_l_times.scope := ⟨rfl, rfl, rfl, by decide +kernel, rfl, by decide +kernel, by decide +kernel⟩
theorem c_l_times {g : Gv} (G : Gd g) : Ctr g 3 "_law_times" (spD g.K spTimes) := by
  obtain ⟨fd, F⟩ := G.def_ 47 (d := d_l_times) rfl
  refine ⟨_, G.glo "_law_times", F.kp, fn_of_body F sc_l_times (F.bindsN fun _ _ _ _ _ _ us hl => match us, hl with | [_, _], _ => rfl) (fun _ _ _ _ h => h.1) fun l ds μ d μ' R h => ?_⟩
  obtain ⟨-, h⟩ := h
  have nd := sc_l_times.nd
  obtain ⟨p, q, rfl, hp, hq, rfl, rfl⟩ := h
  have hd := den2 hp hq
  refine DSs_cons (DS_ret (DE_call (c_low G) R (DA_cons (DE_mulW (DE_ixT (DE_var 0) DE_int) (DE_ixT (DE_var 1) DE_int) (mulw hp.1 hq.1)) (DA_cons (DE_mulW (DE_ixT (DE_var 0) DE_int) (DE_ixT (DE_var 1) DE_int) (mulw hp.d hq.d)) DA_nil)) ⟨_, _, rfl, hd.1, hd.2, rfl, rfl⟩) ?_)
  rw [mul_divInt]
  exact Ret.rt
structure Stm where
  sc : List Int
  c : Int
  k : Nat
def stD (st : Stm) : D := .lst [.lst (st.sc.map .int), .int st.c, .int st.k]
def cell0 (st : Stm) : Int := match st.sc[st.k]? with
  | some x => x.natAbs
  | none => 7 + st.k
def mix (c : Int) (k : Nat) : Int := if c < 10 ^ 18 then (((c * 48271 + k * 69621 + 11) % 2147483647) * 16807 + 13) % 2147483647 * 65537 + (c * 48271 + k * 69621 + 11) % 2147483647 else c
def nx1 (st : Stm) : Stm := if st.c = 0 then ⟨st.sc, mix (cell0 st) st.k, st.k + 1⟩ else st
def nx (st : Stm) (m : Int) : Int := (nx1 st).c % m
def nxS (st : Stm) (m : Int) : Stm := ⟨(nx1 st).sc, (nx1 st).c / m, (nx1 st).k⟩
def spStream : Dsp := fun ds μ d μ' => ds.length = 1 ∧ ∃ ns, ds = [.slst ns] ∧ d = stD ⟨ns, 0, 0⟩ ∧ μ = μ'
abbrev n_l_stream : List Str := ["_law_script"]
theorem sc_l_stream : FnScope n_l_stream ["_law_script"] d_l_stream.scope := ⟨rfl, rfl, rfl, by decide +kernel, rfl, by decide +kernel, by decide +kernel⟩
theorem c_l_stream {g : Gv} (G : Gd g) : Ctr g 1 "_law_stream" (spN g.K spStream) := by
  obtain ⟨fd, F⟩ := G.def_ 42 (d := d_l_stream) rfl
  refine ⟨_, G.glo "_law_stream", F.kp, fn_of_bodyN F sc_l_stream (F.bindsN fun _ _ _ _ _ _ us hl => match us, hl with | [_], _ => rfl) (fun _ _ _ _ h => h.1) fun l ds μ d μ' R h => ?_⟩
  obtain ⟨-, h⟩ := h
  have nd := sc_l_stream.nd
  obtain ⟨ns, rfl, rfl, rfl⟩ := h
  exact DSs_cons (DS_retD (DN_lst (DA_cons (DN_listS (G.free "list") (DE_var 0)).de (DA_cons DE_int (DA_cons DE_int DA_nil)))) fun a => ⟨a, rfl, List.Sublist.refl _⟩)
def spNext : Dsp := fun ds μ d μ' => ds.length = 2 ∧ ∃ (p : Addr) (n : Nat) (st : Stm) (m : Int), ds = [.ptr p, .int m] ∧ 0 < m ∧ m < 1073741824 ∧ μ[n]? = some (p, stD st) ∧ d = .int (nx st m) ∧ μ.set n (p, stD (nxS st m)) = μ'
abbrev n_l_next : List Str := ["_law_stream_here", "_law_many", "_law_k", "_law_cell", "_law_digit"]
theorem sc_l_next : FnScope n_l_next ["_law_stream_here", "_law_many"] d_l_next.scope := ⟨rfl, rfl, rfl, by decide +kernel, rfl, by decide +kernel, by decide +kernel⟩
theorem c_l_next {g : Gv} (G : Gd g) : Ctr g 1 "_law_next" (spD g.K spNext) := by
  obtain ⟨fd, F⟩ := G.def_ 43 (d := d_l_next) rfl
  refine ⟨_, G.glo "_law_next", F.kp, fn_of_body F sc_l_next (F.bindsN fun _ _ _ _ _ _ us hl => match us, hl with | [_, _], _ => rfl) (fun _ _ _ _ h => h.1) fun l ds μ d μ' R h => ?_⟩
  obtain ⟨-, h⟩ := h
  have nd := sc_l_next.nd
  obtain ⟨p, n, st, m, rfl, h0, h1, hn, rfl, rfl⟩ := h
  have fin : ∀ (μ1 : Mu) (x y : Option D), μ1[n]? = some (p, stD (nx1 st)) → μ1.set n (p, stD (nxS st m)) = μ.set n (p, stD (nxS st m)) → DSs (cX g l n_l_next d_l_next.scope) (d_l_next.body.drop 1) [some (.ptr p), some (.int m), x, y, none] μ1 (Ret (.int (nx st m)) (μ.set n (p, stD (nxS st m)))) := fun μ1 x y hn1 e => by
    refine DSs_cons (DS_set 4 (DE_mod (DE_intI (G.free "int") (DE_ixP n (DE_var 0) DE_int hn1)) (DE_var 1) h0) ?_ nd)
    refine DSs_cons (DS_setL n (DE_fdiv (DE_ixP n (DE_var 0) DE_int hn1) (DE_var 1) ⟨h0, h1⟩) (DE_var 0) DE_int rfl ?_ hn1)
    refine DSs_cons (DS_ret (DE_var 4) ?_)
    refine ⟨rfl, ?_⟩
    rw [← e]
    exact List.Sublist.refl _
  refine DSs_cons (DS_if (DT_eqI (DE_ixP n (DE_var 0) DE_int hn) DE_int) (fun c => ?_) fun c => ?_)
  · have c : st.c = 0 := by simpa using c
    refine DSs_cons (DS_set 2 (DE_ixP n (DE_var 0) DE_int hn) ?_ nd)
    refine DSs_cons (DS_set 3 (DE_add DE_int (DE_var 2)) ?_ nd)
    have f2 : DSs (cX g l n_l_next d_l_next.scope) [(bodyIf d_l_next.body 0).getD 3 (.Pass ⟨0,0,0,0⟩), (bodyIf d_l_next.body 0).getD 4 (.Pass ⟨0,0,0,0⟩), (bodyIf d_l_next.body 0).getD 5 (.Pass ⟨0,0,0,0⟩)] [some (.ptr p), some (.int m), some (.int st.k), some (.int (cell0 st)), none] μ (Seq (cX g l n_l_next d_l_next.scope) (d_l_next.body.drop 1) (Ret (.int (nx st m)) (μ.set n (p, stD (nxS st m))))) := by
      have f3 : DSs (cX g l n_l_next d_l_next.scope) [(bodyIf d_l_next.body 0).getD 4 (.Pass ⟨0,0,0,0⟩), (bodyIf d_l_next.body 0).getD 5 (.Pass ⟨0,0,0,0⟩)] [some (.ptr p), some (.int m), some (.int st.k), some (.int (mix (cell0 st) st.k)), none] μ (Seq (cX g l n_l_next d_l_next.scope) (d_l_next.body.drop 1) (Ret (.int (nx st m)) (μ.set n (p, stD (nxS st m))))) := by
        refine DSs_cons (DS_setL n (DE_var 3) (DE_var 0) DE_int rfl ?_ hn)
        refine DSs_cons (DS_setL n (DE_add (DE_var 2) DE_int) (DE_var 0) DE_int rfl ?_ (setAt hn))
        refine DSs_nil ?_
        refine fin _ _ _ ?_ ?_
        · rw [setAt (setAt hn)]
          simp only [nx1, if_pos c]
          rfl
        · rw [List.set_set, List.set_set]
      have cell_pos : 0 ≤ cell0 st := by
        unfold cell0; split <;> omega
      refine DSs_cons (DS_if (DT_ltI (DE_var 3) (DE_pow DE_int DE_int ⟨by decide, by decide, by decide⟩)) (fun c2 => ?_) fun c2 => ?_)
      · have c2 : cell0 st < 10 ^ 18 := of_decide_eq_true c2
        refine DSs_cons (DS_set 3 (DE_mod (DE_intI (G.free "int") (DE_add (DE_add (DE_mul (DE_var 3) DE_int (.inr (by omega))) (DE_mul (DE_var 2) DE_int (.inr (by omega)))) DE_int)) DE_int (by decide)) ?_ nd)
        refine DSs_cons (DS_set 3 (DE_add (DE_mul (DE_mod (DE_intI (G.free "int") (DE_add (DE_mul (DE_var 3) DE_int (.inr (by omega))) DE_int)) DE_int (by decide)) DE_int (.inr (by omega))) (DE_var 3)) ?_ nd)
        refine DSs_nil ?_
        have e : mix (cell0 st) st.k = _ := if_pos c2
        rw [e] at f3
        exact f3
      · refine DSs_nil ?_
        have c2 : ¬ cell0 st < 10 ^ 18 := of_decide_eq_false c2
        have e : mix (cell0 st) st.k = _ := if_neg c2
        rw [e] at f3
        exact f3
    refine DSs_cons (DS_if (DT_ltI (DE_var 2) (DE_len (G.free "len") (DE_ixP n (DE_var 0) DE_int hn) .li)) (fun c2 => ?_) fun c2 => ?_)
    · have c2 : st.k < st.sc.length := by simpa using c2
      refine DSs_cons (DS_set 3 (DE_abs (G.free "abs") (DE_ixL (DE_ixP n (DE_var 0) DE_int hn) (DE_var 2) (d := .int (st.sc[st.k])) ?_)) ?_ nd)
      · exact atI_nat (by rw [List.getElem?_map, List.getElem?_eq_getElem c2]; rfl)
      · refine DSs_nil ?_
        rw [abs_eq]
        have e : cell0 st = (st.sc[st.k]).natAbs := by
          unfold cell0
          rw [List.getElem?_eq_getElem c2]
        rw [e] at f2
        exact f2
    · refine DSs_nil ?_
      have c2 : ¬ st.k < st.sc.length := by simpa using c2
      have e : cell0 st = 7 + st.k := by
        unfold cell0
        rw [List.getElem?_eq_none (by omega)]
      rw [e] at f2
      exact f2
  · refine DSs_nil ?_
    have c : ¬ st.c = 0 := by simpa using c
    exact fin _ _ _ (by simp only [nx1, if_neg c]; exact hn) rfl
end Od
namespace Od
open PySem PySem.Spec PyProof.Rows L2
inductive Pt where
  | draw (bs : List (Rat × Int)) | call (r : Int) (gs : List Int) | exit (e : Int) | reward (a : Rat) (t : Int) | reject | stop
def brD (b : Rat × Int) : D := .tup [qD b.1, .int b.2]
def ptD : Pt → D
  | .draw bs => .tup [.str "draw", .tup (bs.map brD)]
  | .call r gs => .tup [.str "call", .int r, .tup (gs.map .int)]
  | .exit e => .tup [.str "exit", .int e]
  | .reward a t => .tup [.str "reward", qD a, .int t]
  | .reject => .tup [.str "reject"]
  | .stop => .tup [.str "stop"]
def menu : List (List Rat) := [[1], [mkRat 1 2, mkRat 1 2], [mkRat 1 3, mkRat 2 3], [mkRat 2 3, mkRat 1 3], [mkRat 1 4, mkRat 1 2, mkRat 1 4], [mkRat 2 5, mkRat 3 5],
  [mkRat 1 6, mkRat 5 6], [mkRat 3 4, mkRat 1 4], [mkRat 1 60, mkRat 19 60, mkRat 2 3], [mkRat 1 4, mkRat 1 4, mkRat 1 4, mkRat 1 4]]
def menuD : List D := [.lst [pD 1 1], .lst [pD 1 2, pD 1 2], .lst [pD 1 3, pD 2 3], .lst [pD 2 3, pD 1 3], .lst [pD 1 4, pD 1 2, pD 1 4], .lst [pD 2 5, pD 3 5],
  .lst [pD 1 6, pD 5 6], .lst [pD 3 4, pD 1 4], .lst [pD 1 60, pD 19 60, pD 2 3], .lst [pD 1 4, pD 1 4, pD 1 4, pD 1 4]]
theorem menu_eq : menuD = menu.map fun r => D.lst (r.map qD) := by with_unfolding_all rfl
def iter (st : Stm) (m : Int) : Nat → Stm
  | 0 => st
  | i + 1 => nxS (iter st m i) m
def digs (st : Stm) (m : Int) (j : Nat) : List Int := (List.range j).map fun i => nx (iter st m i) m
def rowOf (st : Stm) : List Rat := menu.getD (nx st 10).toNat []
def drawBs (st : Stm) (m : Int) : List (Rat × Int) := (rowOf st).zip (digs (nxS st 10) m (rowOf st).length)
def drawS (st : Stm) (m : Int) : Stm := iter (nxS st 10) m (rowOf st).length
theorem nx_rg (st : Stm) {m : Int} (h : 0 < m) : 0 ≤ nx st m ∧ nx st m < m := ⟨Int.emod_nonneg _ (by omega), Int.emod_lt_of_pos _ h⟩
theorem menu_len : menu.length = 10 := rfl
theorem row_at (st : Stm) : atI menuD (nx st 10) = some (.lst ((rowOf st).map qD)) := by
  obtain ⟨h1, h2⟩ := nx_rg st (m := 10) (by decide)
  obtain ⟨j, hj⟩ := Int.eq_ofNat_of_zero_le h1
  rw [hj]
  refine atI_nat ?_
  have hl : j < menu.length := by rw [menu_len]; omega
  rw [menu_eq, List.getElem?_map, List.getElem?_eq_getElem hl]
  unfold rowOf
  rw [hj, show (((j : Nat) : Int)).toNat = j by omega, List.getD_eq_getElem?_getD, List.getElem?_eq_getElem hl]
  rfl
theorem digs_get {st : Stm} {m : Int} {i j : Nat} (h : i < j) : (digs st m j)[i]? = some (nx (iter st m i) m) := by
  unfold digs
  rw [List.getElem?_map, List.getElem?_range h]; rfl
theorem digs_len (st : Stm) (m : Int) (j : Nat) : (digs st m j).length = j := by simp [digs]
theorem take_get {α : Type} {l : List α} {i : Nat} {x : α} (h : l[i]? = some x) : l.take (i + 1) = l.take i ++ [x] := by
  rw [List.take_add_one, h]; rfl
theorem zip_get {α β : Type} {l : List α} {k : List β} {i : Nat} {x : α} {y : β} (h : l[i]? = some x) (g : k[i]? = some y) : (l.zip k)[i]? = some (x, y) := by
  rw [List.zip, List.getElem?_zipWith, h, g]
def spDraw : Dsp := fun ds μ d μ' => ds.length = 2 ∧ ∃ (p : Addr) (n : Nat) (st : Stm) (m : Int), ds = [.ptr p, .int m] ∧ 0 < m ∧ m < 1073741824 ∧ μ[n]? = some (p, stD st) ∧ d = ptD (.draw (drawBs st m)) ∧ μ.set n (p, stD (drawS st m)) = μ'
abbrev n_l_draw : List Str := ["_law_stream_here", "_law_size", "_law_menu", "_law_chance"]
theorem sc_l_draw : FnScope n_l_draw ["_law_stream_here", "_law_size"] d_l_draw.scope := ⟨rfl, rfl, rfl, by decide +kernel, rfl, by decide +kernel, by decide +kernel⟩
theorem c_l_draw {g : Gv} (G : Gd g) : Ctr g 2 "_law_draw" (spD g.K spDraw) := by
  obtain ⟨fd, F⟩ := G.def_ 48 (d := d_l_draw) rfl
  refine ⟨_, G.glo "_law_draw", F.kp, fn_of_body F sc_l_draw (F.bindsN fun _ _ _ _ _ _ us hl => match us, hl with | [_, _], _ => rfl) (fun _ _ _ _ h => h.1) fun l ds μ d μ' R h => ?_⟩
  obtain ⟨-, h⟩ := h
  have nd := sc_l_draw.nd
  obtain ⟨p, n, st, m, rfl, h0, h1, hn, rfl, rfl⟩ := h
  refine DSs_cons (DS_setN 2 (DN_lst (DA_cons (DN_lst (DA_cons (DE_tup (DA_cons DE_int (DA_cons DE_int DA_nil))) DA_nil)).de (DA_cons (DN_lst (DA_cons (DE_tup (DA_cons DE_int (DA_cons DE_int DA_nil))) (DA_cons (DE_tup (DA_cons DE_int (DA_cons DE_int DA_nil))) DA_nil))).de (DA_cons (DN_lst (DA_cons (DE_tup (DA_cons DE_int (DA_cons DE_int DA_nil))) (DA_cons (DE_tup (DA_cons DE_int (DA_cons DE_int DA_nil))) DA_nil))).de (DA_cons (DN_lst (DA_cons (DE_tup (DA_cons DE_int (DA_cons DE_int DA_nil))) (DA_cons (DE_tup (DA_cons DE_int (DA_cons DE_int DA_nil))) DA_nil))).de (DA_cons (DN_lst (DA_cons (DE_tup (DA_cons DE_int (DA_cons DE_int DA_nil))) (DA_cons (DE_tup (DA_cons DE_int (DA_cons DE_int DA_nil))) (DA_cons (DE_tup (DA_cons DE_int (DA_cons DE_int DA_nil))) DA_nil)))).de (DA_cons (DN_lst (DA_cons (DE_tup (DA_cons DE_int (DA_cons DE_int DA_nil))) (DA_cons (DE_tup (DA_cons DE_int (DA_cons DE_int DA_nil))) DA_nil))).de (DA_cons (DN_lst (DA_cons (DE_tup (DA_cons DE_int (DA_cons DE_int DA_nil))) (DA_cons (DE_tup (DA_cons DE_int (DA_cons DE_int DA_nil))) DA_nil))).de (DA_cons (DN_lst (DA_cons (DE_tup (DA_cons DE_int (DA_cons DE_int DA_nil))) (DA_cons (DE_tup (DA_cons DE_int (DA_cons DE_int DA_nil))) DA_nil))).de (DA_cons (DN_lst (DA_cons (DE_tup (DA_cons DE_int (DA_cons DE_int DA_nil))) (DA_cons (DE_tup (DA_cons DE_int (DA_cons DE_int DA_nil))) (DA_cons (DE_tup (DA_cons DE_int (DA_cons DE_int DA_nil))) DA_nil)))).de (DA_cons (DN_lst (DA_cons (DE_tup (DA_cons DE_int (DA_cons DE_int DA_nil))) (DA_cons (DE_tup (DA_cons DE_int (DA_cons DE_int DA_nil))) (DA_cons (DE_tup (DA_cons DE_int (DA_cons DE_int DA_nil))) (DA_cons (DE_tup (DA_cons DE_int (DA_cons DE_int DA_nil))) DA_nil))))).de DA_nil))))))))))) (fun q => ?_) nd)
  have hn' : ((q, D.lst menuD) :: μ)[n + 1]? = some (p, stD st) := hn
  have row := row_at st
  have sub : ∀ i, ((q, D.lst menuD) :: μ.set n (p, stD (iter (nxS st 10) m i)))[n + 1]? = some (p, stD (iter (nxS st 10) m i)) := fun i => setAt hn
  refine DSs_cons (DS_ret (DE_tup (DA_cons DE_str (DA_cons (DE_tupL (G.free "tuple") (DN.de (lcM [("_law_chance", 3)] (fun i => ((drawBs st m).take i).map brD) (fun i => (q, D.lst menuD) :: μ.set n (p, stD (iter (nxS st 10) m i))) (DI_lst (DE_ixP 0 (DE_var 2) (DE_call (c_l_next G) R (DA_cons (DE_var 0) (DA_cons DE_int DA_nil)) ⟨rfl, p, n + 1, st, 10, rfl, by decide, by decide, hn', rfl, rfl⟩) rfl row)) rfl rfl (fun _ _ => trivial) (fun i d a hi => ?_) nd rfl rfl))) DA_nil))) ?_)
  · rw [List.getElem?_map] at hi
    cases hx : (rowOf st)[i]? with
    | none => rw [hx] at hi; cases hi
    | some x =>
      rw [hx] at hi; cases hi
      have il := (List.getElem?_eq_some_iff.mp hx).1
      refine ⟨_, _, fun s0 H0 Cc cl fp => DG_name 3 nd, by decide, true, fun s0 H0 Cc cl fp => DTs_nil, fun _ => ⟨brD (x, nx (iter (nxS st 10) m i) m), fun s0 H0 Cc cl fp => DE_tup (DA_cons (DE_var 3) (DA_cons (DE_call (c_l_next G) R (DA_cons (DE_var 0) (DA_cons (DE_var 1) DA_nil)) ⟨rfl, p, n + 2, _, m, rfl, h0, h1, sub i, rfl, ?_⟩) DA_nil)), ?_⟩, fun h => nomatch h⟩
      · show _ :: _ :: List.set _ _ _ = _
        rw [List.set_set]
        rfl
      · show ((drawBs st m).take (i + 1)).map brD = _
        have e : (drawBs st m)[i]? = some (x, nx (iter (nxS st 10) m i) m) := zip_get hx (digs_get il)
        rw [take_get e, List.map_append]
        rfl
  · rw [List.length_map, List.take_of_length_le (by unfold drawBs; rw [List.length_zip, digs_len]; omega)]
    exact ⟨rfl, List.sublist_cons_self _ _⟩
end Od
namespace Od
open PySem PySem.Spec PyProof.Rows L2
def calledOf (s1 : Stm) (ex : List Int) (p : Nat) : Int := if nx (nxS s1 ex.length) 2 = 0 then (p : Int) else nx s1 ex.length
def pointR (st : Stm) (ex sz : List Int) (p : Nat) : Pt × Stm :=
  if nx st 12 < 4 then (.draw (drawBs (nxS st 12) (sz.getD p 0)), drawS (nxS st 12) (sz.getD p 0))
  else if nx st 12 < 8 then
    (.call (calledOf (nxS st 12) ex p) (digs (nxS (nxS (nxS st 12) ex.length) 2) (sz.getD p 0) (ex.getD (calledOf (nxS st 12) ex p).toNat 0).toNat), iter (nxS (nxS (nxS st 12) ex.length) 2) (sz.getD p 0) (ex.getD (calledOf (nxS st 12) ex p).toNat 0).toNat)
  else if nx st 12 < 10 ∧ 0 < ex.getD p 0 then (.exit (nx (nxS st 12) (ex.getD p 0)), nxS (nxS st 12) (ex.getD p 0))
  else if nx st 12 = 10 then
    (.reward (Rat.divInt (nx (nxS st 12) 30) (1 + nx (nxS (nxS st 12) 30) 12)) (nx (nxS (nxS (nxS st 12) 30) 12) (sz.getD p 0)), nxS (nxS (nxS (nxS st 12) 30) 12) (sz.getD p 0))
  else (if nx (nxS st 12) 2 = 0 then .reject else .stop, nxS (nxS st 12) 2)
def okEx (ex : List Int) : Prop := ∀ e ∈ ex, 0 ≤ e ∧ e ≤ 2
def okSz (sz : List Int) : Prop := ∀ e ∈ sz, 0 < e ∧ e ≤ 5
theorem atI_int {l : List Int} {i : Int} (h0 : 0 ≤ i) (h : i < l.length) : atI (l.map D.int) i = some (.int (l.getD i.toNat 0)) := by
  obtain ⟨j, rfl⟩ := Int.eq_ofNat_of_zero_le h0
  refine atI_nat ?_
  have hl : j < l.length := by omega
  rw [List.getElem?_map, List.getElem?_eq_getElem hl, show ((j : Nat) : Int).toNat = j by omega, List.getD_eq_getElem?_getD, List.getElem?_eq_getElem hl]
  rfl
theorem getD_mem {l : List Int} {i : Nat} (h : i < l.length) : l.getD i 0 ∈ l := by
  rw [List.getD_eq_getElem?_getD, List.getElem?_eq_getElem h]
  exact List.getElem_mem h
theorem called_rg {s1 : Stm} {ex : List Int} {p : Nat} (h : p < ex.length) : 0 ≤ calledOf s1 ex p ∧ calledOf s1 ex p < ex.length := by
  unfold calledOf
  split
  · omega
  · exact nx_rg _ (by omega)
def spPoint : Dsp := fun ds μ d μ' => ds.length = 4 ∧ ∃ (q : Addr) (n : Nat) (st : Stm) (ex sz : List Int) (p : Nat), ds = [.ptr q, .lst (ex.map .int), .lst (sz.map .int), .int p] ∧ p < ex.length ∧ ex.length = sz.length ∧ ex.length < 1000 ∧ okEx ex ∧ okSz sz ∧
  μ[n]? = some (q, stD st) ∧ d = ptD (pointR st ex sz p).1 ∧ μ.set n (q, stD (pointR st ex sz p).2) = μ'
abbrev n_l_point : List Str := ["_law_stream_here", "_law_exits", "_law_sizes", "_law_p", "_law_size", "_law_pick", "_law_called", "_law_k"]
theorem sc_l_point : FnScope n_l_point ["_law_stream_here", "_law_exits", "_law_sizes", "_law_p"] d_l_point.scope := ⟨rfl, rfl, rfl, by decide +kernel, rfl, by decide +kernel, by decide +kernel⟩
theorem c_l_point {g : Gv} (G : Gd g) : Ctr g 3 "_law_point" (spD g.K spPoint) := by
  obtain ⟨fd, F⟩ := G.def_ 49 (d := d_l_point) rfl
  refine ⟨_, G.glo "_law_point", F.kp, fn_of_body F sc_l_point (F.bindsN fun _ _ _ _ _ _ us hl => match us, hl with | [_, _, _, _], _ => rfl) (fun _ _ _ _ h => h.1) fun l ds μ d μ' R h => ?_⟩
  obtain ⟨-, h⟩ := h
  have nd := sc_l_point.nd
  obtain ⟨q, n, st, ex, sz, p, rfl, hp, hl, hlt, oe, os, hn, rfl, rfl⟩ := h
  have ixE : ∀ {i : Int}, 0 ≤ i → i < ex.length → atI (ex.map D.int) i = some (.int (ex.getD i.toNat 0)) := atI_int
  have ixS : atI (sz.map D.int) (p : Int) = some (.int (sz.getD p 0)) := atI_int (l := sz) (i := (p : Int)) (by omega) (by omega)
  have ixP : atI (ex.map D.int) (p : Int) = some (.int (ex.getD p 0)) := atI_int (l := ex) (i := (p : Int)) (by omega) (by omega)
  have s0 := os _ (getD_mem (l := sz) (i := p) (by omega))
  have e0 := oe _ (getD_mem (l := ex) (i := p) (by omega))
  generalize hsz : sz.getD p 0 = size at *
  refine DSs_cons (DS_set 4 (DE_ixL (DE_var 2) (DE_var 3) ixS) ?_ nd)
  refine DSs_cons (DS_set 5 (DE_call (c_l_next G) R (DA_cons (DE_var 0) (DA_cons DE_int DA_nil)) ⟨rfl, q, n, st, 12, rfl, by decide, by decide, hn, rfl, rfl⟩) ?_ nd)
  have hn1 : (μ.set n (q, stD (nxS st 12)))[n]? = some (q, stD (nxS st 12)) := setAt hn
  refine DSs_cons (DS_if (DT_ltI (DE_var 5) DE_int) (fun c => ?_) fun c => ?_)
  · have c : nx st 12 < 4 := of_decide_eq_true c
    refine DSs_cons (DS_ret (DE_call (c_l_draw G) R (DA_cons (DE_var 0) (DA_cons (DE_var 4) DA_nil)) ⟨rfl, q, n, _, size, rfl, s0.1, by omega, hn1, rfl, rfl⟩) ?_)
    simp only [pointR, if_pos c, hsz, List.set_set]
    exact Ret.rt
  have c4 : ¬ nx st 12 < 4 := of_decide_eq_false c
  refine DSs_nil ?_
  refine DSs_cons (DS_if (DT_ltI (DE_var 5) DE_int) (fun c => ?_) fun c => ?_)
  · have c8 : nx st 12 < 8 := of_decide_eq_true c
    refine DSs_cons (DS_set 6 (DE_call (c_l_next G) R (DA_cons (DE_var 0) (DA_cons (DE_len (G.free "len") (DE_var 1) .li) DA_nil)) ⟨rfl, q, n, _, ex.length, by rw [List.length_map], by omega, by omega, hn1, rfl, rfl⟩) ?_ nd)
    rw [List.set_set]
    have hn2 : (μ.set n (q, stD (nxS (nxS st 12) ex.length)))[n]? = some (q, stD (nxS (nxS st 12) ex.length)) := setAt hn
    have fin : ∀ r : Int, r = calledOf (nxS st 12) ex p → DSs (cX g l n_l_point d_l_point.scope) ((bodyIf d_l_point.body 3).drop 2) [some (.ptr q), some (.lst (ex.map .int)), some (.lst (sz.map .int)), some (.int p), some (.int size), some (.int (nx st 12)), some (.int r), none] (μ.set n (q, stD (nxS (nxS (nxS st 12) ex.length) 2))) (Seq (cX g l n_l_point d_l_point.scope) (d_l_point.body.drop 4) (Ret (ptD (pointR st ex sz p).1) (μ.set n (q, stD (pointR st ex sz p).2)))) := fun r hr => by
      obtain ⟨r0, r1⟩ := called_rg (s1 := nxS st 12) hp
      rw [← hr] at r0 r1
      have er := oe _ (getD_mem (l := ex) (i := r.toNat) (by omega))
      have em : ex.getD r.toNat 0 = (((ex.getD r.toNat 0).toNat : Nat) : Int) := by omega
      have ixR := ixE r0 r1
      rw [em] at ixR
      generalize hm : (ex.getD r.toNat 0).toNat = m at *
      refine DSs_cons (DS_ret (DE_tup (DA_cons DE_str (DA_cons (DE_var 6) (DA_cons (DE_tupL (G.free "tuple") (DN.de (lcM [("_law_k", 7)] (fun i => ((digs (nxS (nxS (nxS st 12) ex.length) 2) size m).take i).map .int) (fun i => μ.set n (q, stD (iter (nxS (nxS (nxS st 12) ex.length) 2) size i))) (DI_range (G.free "range") (DE_ixL (DE_var 1) (DE_var 6) ixR) (by omega)) rfl rfl (fun _ _ => trivial) (fun i d a hi => ?_) nd rfl rfl))) DA_nil)))) ?_)
      · have il := (rgD_get hi).2
        refine ⟨_, _, fun s0 H0 Cc cl fp => DG_name 7 nd, by decide, true, fun s0 H0 Cc cl fp => DTs_nil, fun _ => ⟨.int (nx (iter (nxS (nxS (nxS st 12) ex.length) 2) size i) size), fun s0' H0 Cc cl fp => DE_call (c_l_next G) R (DA_cons (DE_var 0) (DA_cons (DE_var 4) DA_nil)) ⟨rfl, q, n + 1, _, size, rfl, s0.1, by omega, setAt hn, rfl, ?_⟩, ?_⟩, fun h => nomatch h⟩
        · show _ :: List.set _ _ _ = _
          rw [List.set_set]
          rfl
        · show ((digs _ _ _).take (i + 1)).map D.int = _
          rw [take_get (digs_get il), List.map_append]
          rfl
      · have e1 : (rgD m).length = m := by simp [rgD]
        rw [e1, List.take_of_length_le (by rw [digs_len]; omega)]
        simp only [pointR, if_neg c4, if_pos c8, hsz, ← hr, hm]
        exact Ret.rt
    refine DSs_cons (DS_if (DT_eqI (DE_call (c_l_next G) R (DA_cons (DE_var 0) (DA_cons DE_int DA_nil)) ⟨rfl, q, n, _, 2, rfl, by decide, by decide, hn2, rfl, rfl⟩) DE_int) (fun c => ?_) fun c => ?_)
    · have c : nx (nxS (nxS st 12) ex.length) 2 = 0 := of_decide_eq_true c
      refine DSs_cons (DS_set 6 (DE_var 3) ?_ nd)
      refine DSs_nil ?_
      rw [List.set_set, List.set_set]
      exact fin _ (by unfold calledOf; rw [if_pos c])
    · have c : ¬ nx (nxS (nxS st 12) ex.length) 2 = 0 := of_decide_eq_false c
      refine DSs_nil ?_
      rw [List.set_set]
      exact fin _ (by unfold calledOf; rw [if_neg c])
  have c8 : ¬ nx st 12 < 8 := of_decide_eq_false c
  refine DSs_nil ?_
  refine DSs_cons (DS_if (DW.dt (DW_and (DT_ltI (DE_var 5) DE_int) fun _ => DW_and1 (DT_gtI (DE_ixL (DE_var 1) (DE_var 3) ixP) DE_int))) (fun c => ?_) fun c => ?_)
  · have c : nx st 12 < 10 ∧ 0 < ex.getD p 0 := by simpa using c
    refine DSs_cons (DS_ret (DE_tup (DA_cons DE_str (DA_cons (DE_call (c_l_next G) R (DA_cons (DE_var 0) (DA_cons (DE_ixL (DE_var 1) (DE_var 3) ixP) DA_nil)) ⟨rfl, q, n, _, _, rfl, c.2, by omega, hn1, rfl, rfl⟩) DA_nil))) ?_)
    simp only [pointR, if_neg c4, if_neg c8, if_pos c, List.set_set]
    exact Ret.rt
  have c10 : ¬ (nx st 12 < 10 ∧ 0 < ex.getD p 0) := by simpa using c
  refine DSs_nil ?_
  refine DSs_cons (DS_if (DT_eqI (DE_var 5) DE_int) (fun c => ?_) fun c => ?_)
  · have c : nx st 12 = 10 := of_decide_eq_true c
    have r12 := nx_rg (nxS (nxS st 12) 30) (m := 12) (by decide)
    refine DSs_cons (DS_ret (DE_tup (DA_cons DE_str (DA_cons (DE_call (c_low G) R (DA_cons (DE_call (c_l_next G) R (DA_cons (DE_var 0) (DA_cons DE_int DA_nil)) ⟨rfl, q, n, _, 30, rfl, by decide, by decide, hn1, rfl, rfl⟩) (DA_cons (DE_add DE_int (DE_call (c_l_next G) R (DA_cons (DE_var 0) (DA_cons DE_int DA_nil)) ⟨rfl, q, n, _, 12, rfl, by decide, by decide, setAt hn1, rfl, rfl⟩)) DA_nil)) ⟨_, _, rfl, by omega, Nat.lt_of_lt_of_le (m := 2 ^ 4) (by omega) (Nat.pow_le_pow_right (by decide) (by decide)), rfl, rfl⟩) (DA_cons (DE_call (c_l_next G) R (DA_cons (DE_var 0) (DA_cons (DE_var 4) DA_nil)) ⟨rfl, q, n, _, size, rfl, s0.1, by omega, setAt (setAt hn1), rfl, rfl⟩) DA_nil)))) ?_)
    simp only [pointR, if_neg c4, if_neg c8, if_neg c10, if_pos c, hsz, List.set_set]
    exact Ret.rt
  have c11 : ¬ nx st 12 = 10 := of_decide_eq_false c
  refine DSs_nil ?_
  have r2 := nx_rg (nxS st 12) (m := 2) (by decide)
  refine DSs_cons (DS_ret (DE_ixL (DN.de (DN_lst (DA_cons (DE_tup (DA_cons DE_str DA_nil)) (DA_cons (DE_tup (DA_cons DE_str DA_nil)) DA_nil)))) (DE_call (c_l_next G) R (DA_cons (DE_var 0) (DA_cons DE_int DA_nil)) ⟨rfl, q, n, _, 2, rfl, by decide, by decide, hn1, rfl, rfl⟩) (d := ptD (if nx (nxS st 12) 2 = 0 then .reject else .stop)) ?_) ?_)
  · by_cases h : nx (nxS st 12) 2 = 0
    · rw [h]; rfl
    · rw [if_neg h, show nx (nxS st 12) 2 = 1 by omega]; rfl
  · simp only [pointR, if_neg c4, if_neg c8, if_neg c10, if_neg c11, List.set_set]
    exact Ret.rt
end Od
namespace Od
open PySem PySem.Spec PyProof.Rows L2
def bodyFor (b : List Stmt) (i : Nat) : List Stmt := match b[i]? with
  | some (.For _ _ bd _ _) => bd
  | _ => []
abbrev Proc := Int × List Pt
def procD (q : Proc) : D := .tup [.int q.1, .tup (q.2.map ptD)]
def procsD (ps : List Proc) : D := .tup (ps.map procD)
def pickE (i : Int) : Int := [1, 1, 2, 1, 0].getD i.toNat 0
def manyR (st : Stm) : Nat := (1 + nx st 2).toNat
def exR (st : Stm) : List Int := (digs (nxS st 2) 5 (manyR st)).map pickE
def st2R (st : Stm) : Stm := iter (nxS st 2) 5 (manyR st)
def szR (st : Stm) : List Int := (digs (st2R st) 4 (manyR st)).map fun x => 2 + x
def st3R (st : Stm) : Stm := iter (st2R st) 4 (manyR st)
def ptsR (st : Stm) (ex sz : List Int) (p : Nat) : Nat → List Pt × Stm
  | 0 => ([.draw (drawBs st (sz.getD p 0))], drawS st (sz.getD p 0))
  | j + 1 => ((ptsR st ex sz p j).1 ++ [(pointR (ptsR st ex sz p j).2 ex sz p).1], (pointR (ptsR st ex sz p j).2 ex sz p).2)
def procR (st : Stm) (ex sz : List Int) (p : Nat) : Proc × Stm :=
  if 0 < ex.getD p 0 then ((ex.getD p 0, (ptsR st ex sz p ((sz.getD p 0).toNat - 1)).1.set ((sz.getD p 0).toNat - 1) (.exit (nx (ptsR st ex sz p ((sz.getD p 0).toNat - 1)).2 (ex.getD p 0)))), nxS (ptsR st ex sz p ((sz.getD p 0).toNat - 1)).2 (ex.getD p 0))
  else ((ex.getD p 0, (ptsR st ex sz p ((sz.getD p 0).toNat - 1)).1), (ptsR st ex sz p ((sz.getD p 0).toNat - 1)).2)
def procsR (st : Stm) (ex sz : List Int) : Nat → List Proc × Stm
  | 0 => ([], st)
  | k + 1 => ((procsR st ex sz k).1 ++ [(procR (procsR st ex sz k).2 ex sz k).1], (procR (procsR st ex sz k).2 ex sz k).2)
theorem ptsR_len (st : Stm) (ex sz : List Int) (p : Nat) : ∀ j, (ptsR st ex sz p j).1.length = j + 1
  | 0 => rfl
  | j + 1 => by simp [ptsR, ptsR_len st ex sz p j]
theorem procsR_len (st : Stm) (ex sz : List Int) : ∀ j, (procsR st ex sz j).1.length = j
  | 0 => rfl
  | j + 1 => by simp [procsR, procsR_len st ex sz j]
theorem many_rg (st : Stm) : manyR st = 1 ∨ manyR st = 2 := by
  have := nx_rg st (m := 2) (by decide)
  unfold manyR; omega
theorem ex_ok (st : Stm) : okEx (exR st) := fun e he => by
  obtain ⟨d, _, rfl⟩ := List.mem_map.mp he
  unfold pickE
  generalize d.toNat = i
  match i with
  | 0 => decide
  | 1 => decide
  | 2 => decide
  | 3 => decide
  | 4 => decide
  | _ + 5 => exact ⟨Int.le_refl 0, by show (0 : Int) ≤ 2; decide⟩
theorem sz_rg (st : Stm) : ∀ e ∈ szR st, 2 ≤ e ∧ e ≤ 5 := fun e he => by
  obtain ⟨d, hd, rfl⟩ := List.mem_map.mp he
  unfold digs at hd
  obtain ⟨i, _, rfl⟩ := List.mem_map.mp hd
  have := nx_rg (iter (st2R st) 4 i) (m := 4) (by decide)
  omega
theorem sz_ok (st : Stm) : okSz (szR st) := fun e he => by
  have := sz_rg st e he
  omega
theorem ex_len (st : Stm) : (exR st).length = manyR st := by simp [exR, digs_len]
theorem sz_len (st : Stm) : (szR st).length = manyR st := by simp [szR, digs_len]
theorem pick_at (st : Stm) : atI [D.int 1, D.int 1, D.int 2, D.int 1, D.int 0] (nx st 5) = some (.int (pickE (nx st 5))) := by
  have := nx_rg st (m := 5) (by decide)
  exact atI_int (l := [1, 1, 2, 1, 0]) this.1 this.2
def spProcs : Dsp := fun ds μ d μ' => ds.length = 1 ∧ ∃ (q : Addr) (n : Nat) (st : Stm), ds = [.ptr q] ∧ μ[n]? = some (q, stD st) ∧ d = procsD (procsR (st3R st) (exR st) (szR st) (manyR st)).1 ∧ μ.set n (q, stD (procsR (st3R st) (exR st) (szR st) (manyR st)).2) = μ'
abbrev n_l_procedures : List Str := ["_law_stream_here", "_law_exits", "_law_k", "_law_sizes", "_law_one", "_law_procedures_here", "_law_p", "_law_points", "_law_i"]
theorem sc_l_procedures : FnScope n_l_procedures ["_law_stream_here"] d_l_procedures.scope := ⟨rfl, rfl, rfl, by decide +kernel, rfl, by decide +kernel, by decide +kernel⟩
theorem c_l_procedures {g : Gv} (G : Gd g) : Ctr g 4 "_law_procedures" (spD g.K spProcs) := by
  obtain ⟨fd, F⟩ := G.def_ 50 (d := d_l_procedures) rfl
  refine ⟨_, G.glo "_law_procedures", F.kp, fn_of_body F sc_l_procedures (F.bindsN fun _ _ _ _ _ _ us hl => match us, hl with | [_], _ => rfl) (fun _ _ _ _ h => h.1) fun l ds μ d μ' R h => ?_⟩
  obtain ⟨-, h⟩ := h
  have nd := sc_l_procedures.nd
  obtain ⟨q, n, st, rfl, hn, rfl, rfl⟩ := h
  have hm2 := many_rg st
  have hmc : (1 + nx st 2 : Int) = ((manyR st : Nat) : Int) := by
    have := nx_rg st (m := 2) (by decide)
    unfold manyR; omega
  refine DSs_cons (DS_setLcM 1 [("_law_k", 2)] (DI_range (n := manyR st) (G.free "range") ?_ (by omega)) (fun i => (((digs (nxS st 2) 5 (manyR st)).map pickE).take i).map .int) (fun i => μ.set n (q, stD (iter (nxS st 2) 5 i))) rfl rfl (fun _ _ => trivial) (fun i d a hi => ?_) (fun a => ?_) nd)
  · rw [← hmc]
    exact DE_add DE_int (DE_call (c_l_next G) R (DA_cons (DE_var 0) (DA_cons DE_int DA_nil)) ⟨rfl, q, n, _, 2, rfl, by decide, by decide, hn, rfl, rfl⟩)
  · have il := (rgD_get hi).2
    refine ⟨_, _, fun s0 H0 Cc cl fp => DG_name 2 nd, by decide, true, fun s0 H0 Cc cl fp => DTs_nil, fun _ => ⟨.int (pickE (nx (iter (nxS st 2) 5 i) 5)), fun s0' H0 Cc cl fp => DE_ixL (DN.de (DN_lst (DA_cons DE_int (DA_cons DE_int (DA_cons DE_int (DA_cons DE_int (DA_cons DE_int DA_nil))))))) (DE_call (c_l_next G) R (DA_cons (DE_var 0) (DA_cons DE_int DA_nil)) ⟨rfl, q, n + 1, _, 5, rfl, by decide, by decide, setAt hn, rfl, ?_⟩) (pick_at _), ?_⟩, fun h => nomatch h⟩
    · show _ :: List.set _ _ _ = _
      rw [List.set_set]
      rfl
    · show (((digs _ _ _).map pickE).take (i + 1)).map D.int = _
      rw [take_get (x := pickE (nx (iter (nxS st 2) 5 i) 5)) (by rw [List.getElem?_map, digs_get il]; rfl), List.map_append]
      rfl
  have hr0 : (rgD (manyR st)).length = manyR st := by simp [rgD]
  rw [hr0, List.take_of_length_le (by rw [List.length_map, digs_len]; omega)]
  refine DSs_freeze 1 [] (h := ?_)
  have hn2 : (μ.set n (q, stD (st2R st)))[n]? = some (q, stD (st2R st)) := setAt hn
  refine DSs_cons (DS_setLcM 3 [("_law_one", 4)] (DI_lst (DE_var 1)) (fun i => (((digs (st2R st) 4 (manyR st)).map fun x => 2 + x).take i).map .int) (fun i => μ.set n (q, stD (iter (st2R st) 4 i))) rfl rfl (fun _ _ => trivial) (fun i d a hi => ?_) (fun b => ?_) nd)
  · have il : i < manyR st := by
      have := (List.getElem?_eq_some_iff.mp hi).1
      rw [List.length_map, List.length_map, digs_len] at this
      exact this
    refine ⟨_, _, fun s0 H0 Cc cl fp => DG_name 4 nd, by decide, true, fun s0 H0 Cc cl fp => DTs_nil, fun _ => ⟨.int (2 + nx (iter (st2R st) 4 i) 4), fun s0' H0 Cc cl fp => DE_add DE_int (DE_call (c_l_next G) R (DA_cons (DE_var 0) (DA_cons DE_int DA_nil)) ⟨rfl, q, n + 1, _, 4, rfl, by decide, by decide, setAt hn, rfl, ?_⟩), ?_⟩, fun h => nomatch h⟩
    · show _ :: List.set _ _ _ = _
      rw [List.set_set]
      rfl
    · show (((digs _ _ _).map fun x => 2 + x).take (i + 1)).map D.int = _
      rw [take_get (x := 2 + nx (iter (st2R st) 4 i) 4) (by rw [List.getElem?_map, digs_get il]; rfl), List.map_append]
      rfl
  have hr1 : (((digs (nxS st 2) 5 (manyR st)).map pickE).map D.int).length = manyR st := by rw [List.length_map, List.length_map, digs_len]
  rw [hr1, List.take_of_length_le (by rw [List.length_map, digs_len]; omega)]
  refine DSs_freeze 3 [] (h := ?_)
  refine DSs_cons (DS_setN 5 (DN_lst DA_nil) (fun c => ?_) nd)
  have el := ex_len st
  have sl := sz_len st
  have eo := ex_ok st
  have so := sz_ok st
  have sr := sz_rg st
  show DSs _ _ [some (.ptr q), some (.lst ((exR st).map .int)), none, some (.lst ((szR st).map .int)), none, some (.ptr c), none, none, none] ((c, .lst []) :: μ.set n (q, stD (st3R st))) _
  generalize exR st = ex at *
  generalize szR st = sz at *
  generalize st3R st = st3 at *
  generalize manyR st = mm at *
  refine DSs_cons (DS_for (DI_range (n := mm) (G.free "range") ?_ (by omega)) (fun k ρ μ' => ∃ x6 x7 x8, ρ = [some (.ptr q), some (.lst (ex.map .int)), none, some (.lst (sz.map .int)), none, some (.ptr c), x6, x7, x8] ∧ μ' = (c, .lst ((procsR st3 ex sz k).1.map procD)) :: μ.set n (q, stD (procsR st3 ex sz k).2)) ⟨_, _, _, rfl, rfl⟩ (fun _ _ _ _ => trivial) ?_ ?_)
  · have e : (mm : Int) = (((ex.map D.int).length : Nat) : Int) := by rw [List.length_map, el]
    rw [e]
    exact DE_len (G.free "len") (DE_var 1) .li
  · rintro k d ρ μ' hi ⟨x6, x7, x8, rfl, rfl⟩
    obtain ⟨rfl, hk⟩ := rgD_get hi
    refine ⟨_, _, DG_name 6 nd, ?_⟩
    have ixS : atI (sz.map D.int) (k : Int) = some (.int (sz.getD k 0)) := atI_int (l := sz) (i := (k : Int)) (by omega) (by omega)
    have ixP : atI (ex.map D.int) (k : Int) = some (.int (ex.getD k 0)) := atI_int (l := ex) (i := (k : Int)) (by omega) (by omega)
    have s0 := sr _ (getD_mem (l := sz) (i := k) (by omega))
    have e0 := eo _ (getD_mem (l := ex) (i := k) (by omega))
    refine DSs_cons (DS_setN 7 (DN_lst (DA_cons (DE_call (c_l_draw G) R (DA_cons (DE_var 0) (DA_cons (DE_ixL (DE_var 3) (DE_var 6) ixS) DA_nil)) ⟨rfl, q, n + 1, _, _, rfl, by omega, by omega, setAt hn, rfl, rfl⟩) DA_nil)) (fun e => ?_) nd)
    have em : (sz.getD k 0 - 1 : Int) = (((sz.getD k 0).toNat - 1 : Nat) : Int) := by omega
    have lpr := procsR_len st3 ex sz k
    generalize hP : procsR st3 ex sz k = pr at *
    refine DSs_cons (DS_for (DI_range (n := (sz.getD k 0).toNat - 1) (G.free "range") (DE.eq (DE_sub (DE_ixL (DE_var 3) (DE_var 6) ixS) DE_int) (congrArg D.int em)) (by omega)) (fun i ρ μ' => ∃ x8, ρ = [some (.ptr q), some (.lst (ex.map .int)), none, some (.lst (sz.map .int)), none, some (.ptr c), some (.int k), some (.ptr e), x8] ∧ μ' = (e, .lst ((ptsR pr.2 ex sz k i).1.map ptD)) :: (c, .lst (pr.1.map procD)) :: μ.set n (q, stD (ptsR pr.2 ex sz k i).2)) ⟨_, rfl, ?_⟩ (fun _ _ _ _ => trivial) ?_ ?_)
    · show (e, D.lst _) :: (List.set (_ :: _) _ _) = _
      rw [List.set_cons_succ, List.set_set]
      rfl
    · rintro i d ρ μ' hi ⟨x8, rfl, rfl⟩
      obtain ⟨rfl, hk2⟩ := rgD_get hi
      refine ⟨_, _, DG_name 8 nd, ?_⟩
      refine DSs_cons (DS_expr (apd 0 (DE_var 7) (DE_call (c_l_point G) R (DA_cons (DE_var 0) (DA_cons (DE_var 1) (DA_cons (DE_var 3) (DA_cons (DE_var 6) DA_nil)))) ⟨rfl, q, n + 2, _, ex, sz, k, rfl, by omega, by omega, by omega, eo, so, setAt hn, rfl, rfl⟩) (hl := by rw [List.length_map, ptsR_len]; omega)) ?_)
      refine DSs_nil ⟨_, rfl, ?_⟩
      show (e, D.lst (_ ++ [_])) :: (List.set (_ :: _) _ _) = _
      rw [List.set_cons_succ, List.set_set]
      show _ = (e, D.lst ((_ ++ [_]).map ptD)) :: _
      rw [List.map_append]
      rfl
    · rintro ρ μ' ⟨x8, rfl, rfl⟩
      rw [show (rgD ((sz.getD k 0).toNat - 1)).length = (sz.getD k 0).toNat - 1 by simp [rgD]]
      have lp := ptsR_len pr.2 ex sz k ((sz.getD k 0).toNat - 1)
      generalize hT : ptsR pr.2 ex sz k ((sz.getD k 0).toNat - 1) = tr at *
      have fin : ∀ (l2 : List Pt) (s2 : Stm) , procR pr.2 ex sz k = ((ex.getD k 0, l2), s2) → DSs (cX g l n_l_procedures d_l_procedures.scope) ((bodyFor d_l_procedures.body 3).drop 3) [some (.ptr q), some (.lst (ex.map .int)), none, some (.lst (sz.map .int)), none, some (.ptr c), some (.int k), some (.ptr e), x8] ((e, .lst (l2.map ptD)) :: (c, .lst (pr.1.map procD)) :: μ.set n (q, stD s2)) (LoopP (fun ρ μ' => ∃ x6 x7 x8, ρ = [some (.ptr q), some (.lst (ex.map .int)), none, some (.lst (sz.map .int)), none, some (.ptr c), x6, x7, x8] ∧ μ' = (c, .lst ((procsR st3 ex sz (k + 1)).1.map procD)) :: μ.set n (q, stD (procsR st3 ex sz (k + 1)).2)) (Seq (cX g l n_l_procedures d_l_procedures.scope) (d_l_procedures.body.drop 4) (Ret (procsD (procsR st3 ex sz mm).1) (μ.set n (q, stD (procsR st3 ex sz mm).2))))) := fun l2 s2 h2 => by
        refine DSs_cons (DS_expr (apd 1 (DE_var 5) (DE_tup (DA_cons (DE_ixL (DE_var 1) (DE_var 6) ixP) (DA_cons (DE_tupP (G.free "tuple") (DE_var 7) 0) DA_nil))) (hl := by rw [List.length_map]; omega)) ?_)
        refine DSs_drop (DSs_nil ?_) (List.sublist_cons_self _ _)
        refine ⟨_, _, _, rfl, ?_⟩
        have e1 : procsR st3 ex sz (k + 1) = (pr.1 ++ [(ex.getD k 0, l2)], s2) := by
          show (_ ++ [_], _) = _
          rw [hP, h2]
        rw [e1, List.map_append]
        rfl
      refine DSs_cons (DS_if (DT_gtI (DE_ixL (DE_var 1) (DE_var 6) ixP) DE_int) (fun c0 => ?_) fun c0 => ?_)
      · have c0 : 0 < ex.getD k 0 := of_decide_eq_true c0
        refine DSs_cons (DS_setL 0 (DE_tup (DA_cons DE_str (DA_cons (DE_call (c_l_next G) R (DA_cons (DE_var 0) (DA_cons (DE_ixL (DE_var 1) (DE_var 6) ixP) DA_nil)) ⟨rfl, q, n + 2, _, _, rfl, c0, by omega, setAt hn, rfl, rfl⟩) DA_nil))) (DE_var 7) (DE_sub (DE_ixL (DE_var 3) (DE_var 6) ixS) DE_int) (j := (sz.getD k 0).toNat - 1) ?_ ?_)
        · show ixN ((tr.1.map ptD).length) _ = _
          rw [List.length_map, lp]
          unfold ixN
          rw [if_pos (by omega), if_pos (by omega)]
          congr 1
          omega
        · refine DSs_nil ?_
          have z := fin _ _ (by unfold procR; rw [hT, if_pos c0])
          have e2 : (((e, D.lst (tr.1.map ptD)) :: (c, D.lst (pr.1.map procD)) :: μ.set n (q, stD tr.2)).set (n + 2) (q, stD (nxS tr.2 (ex.getD k 0)))).set 0 (e, D.lst ((tr.1.map ptD).set ((sz.getD k 0).toNat - 1) (ptD (.exit (nx tr.2 (ex.getD k 0)))))) = (e, D.lst ((tr.1.set ((sz.getD k 0).toNat - 1) (.exit (nx tr.2 (ex.getD k 0)))).map ptD)) :: (c, D.lst (pr.1.map procD)) :: μ.set n (q, stD (nxS tr.2 (ex.getD k 0))) := by
            rw [List.map_set, List.set_cons_succ, List.set_cons_succ, List.set_set]
            rfl
          rw [← e2] at z
          exact z
      · have c0 : ¬ 0 < ex.getD k 0 := of_decide_eq_false c0
        refine DSs_nil ?_
        exact fin _ _ (by unfold procR; rw [hT, if_neg c0])
  · rintro ρ μ' ⟨x6, x7, x8, rfl, rfl⟩
    rw [show (rgD mm).length = mm by simp [rgD]]
    exact DSs_cons (DS_ret (DE_tupP (G.free "tuple") (DE_var 5) 0) (Ret.of rfl (List.sublist_cons_self _ _)))
end Od
namespace Od
open PySem PySem.Spec PyProof.Rows L2
abbrev Term := Rat × List U
def termD (t : Term) : D := .tup [qD t.1, .tup (t.2.map uD)]
def prAt (ps : List Proc) (p : Int) : Proc := ps.getD p.toNat (0, [])
def okPt (ps : List Proc) (q : Proc) : Pt → Prop
  | .draw bs => bs.map (·.1) ∈ menu ∧ ∀ b ∈ bs, 0 ≤ b.2 ∧ b.2 < q.2.length
  | .call r gs => 0 ≤ r ∧ r < ps.length ∧ (gs.length : Int) = (prAt ps r).1 ∧ ∀ t ∈ gs, 0 ≤ t ∧ t < q.2.length
  | .exit e => 0 ≤ e ∧ e < q.1
  | .reward a t => 0 ≤ a.num ∧ a.num ≤ 29 ∧ a.den ≤ 12 ∧ 0 ≤ t ∧ t < q.2.length
  | .reject => True
  | .stop => True
structure GoodP (ps : List Proc) : Prop where
  len : ps.length = 1 ∨ ps.length = 2
  each : ∀ q ∈ ps, 0 ≤ q.1 ∧ q.1 ≤ 2 ∧ 2 ≤ q.2.length ∧ q.2.length ≤ 5 ∧ ∀ t ∈ q.2, okPt ps q t
def unkI (q : Proc) (p i : Nat) : List U := (List.range (q.1 + 2).toNat).map fun w : Nat => ((p : Int), (i : Int), (w : Int))
def unkP (q : Proc) (p : Nat) : List U := (List.range q.2.length).flatMap fun i => unkI q p i
def unkR (ps : List Proc) : List U := (List.range ps.length).flatMap fun p => unkP (ps.getD p (0, [])) p
theorem flatMap_succ {α : Type} (f : Nat → List α) (k : Nat) : (List.range (k + 1)).flatMap f = (List.range k).flatMap f ++ f k := by
  rw [List.range_succ, List.flatMap_append]; simp
theorem map_succ {α : Type} (f : Nat → α) (k : Nat) : (List.range (k + 1)).map f = (List.range k).map f ++ [f k] := by
  rw [List.range_succ, List.map_append]; rfl
theorem GoodP.at {ps : List Proc} (G : GoodP ps) {k : Nat} (h : k < ps.length) : ps.getD k (0, []) ∈ ps ∧ ps[k]? = some (ps.getD k (0, [])) := by
  rw [List.getD_eq_getElem?_getD, List.getElem?_eq_getElem h]
  exact ⟨List.getElem_mem h, rfl⟩
theorem atI_map {α : Type} {f : α → D} {l : List α} {k : Nat} {x : α} (h : l[k]? = some x) : atI (l.map f) (k : Int) = some (f x) := atI_nat (by rw [List.getElem?_map, h]; rfl)
theorem unkI_len (q : Proc) (p i : Nat) : (unkI q p i).length = (q.1 + 2).toNat := by simp [unkI]
theorem len_flat {α : Type} (f : Nat → List α) (b : Nat) : ∀ k, (∀ i, i < k → (f i).length ≤ b) → ((List.range k).flatMap f).length ≤ k * b
  | 0, _ => by simp
  | k + 1, h => by
    rw [flatMap_succ, List.length_append]
    have h1 := len_flat f b k fun i hi => h i (by omega)
    have h2 := h k (by omega)
    rw [Nat.succ_mul]
    omega
theorem unkP_len {ps : List Proc} (G : GoodP ps) {q : Proc} (hq : q ∈ ps) (p : Nat) : (unkP q p).length ≤ 20 := by
  obtain ⟨h1, h2, h3, h4, _⟩ := G.each q hq
  have := len_flat (fun i => unkI q p i) 4 q.2.length fun i _ => by rw [unkI_len]; omega
  have h5 : q.2.length * 4 ≤ 20 := by omega
  exact Nat.le_trans this h5
theorem unkR_len {ps : List Proc} (G : GoodP ps) : (unkR ps).length ≤ 40 := by
  have := len_flat (fun p => unkP (ps.getD p (0, [])) p) 20 ps.length fun i hi => unkP_len G (G.at hi).1 i
  have h2 : ps.length * 20 ≤ 40 := by have := G.len; omega
  exact Nat.le_trans this h2
def spUnk : Dsp := fun ds μ d μ' => ds.length = 1 ∧ ∃ ps, ds = [procsD ps] ∧ GoodP ps ∧ d = .lst ((unkR ps).map uD) ∧ μ = μ'
abbrev n_l_unknowns : List Str := ["_law_procedures_here", "_law_found", "_law_p", "_law_i", "_law_w"]
theorem sc_l_unknowns : FnScope n_l_unknowns ["_law_procedures_here"] d_l_unknowns.scope := ⟨rfl, rfl, rfl, by decide +kernel, rfl, by decide +kernel, by decide +kernel⟩
theorem c_l_unknowns {g : Gv} (G : Gd g) : Ctr g 1 "_law_unknowns" (spD g.K spUnk) := by
  obtain ⟨fd, F⟩ := G.def_ 51 (d := d_l_unknowns) rfl
  refine ⟨_, G.glo "_law_unknowns", F.kp, fn_of_body F sc_l_unknowns (F.bindsN fun _ _ _ _ _ _ us hl => match us, hl with | [_], _ => rfl) (fun _ _ _ _ h => h.1) fun l ds μ d μ' R h => ?_⟩
  obtain ⟨-, h⟩ := h
  have nd := sc_l_unknowns.nd
  obtain ⟨ps, rfl, G', rfl, rfl⟩ := h
  refine DSs_cons (DS_setN 1 (DN_lst DA_nil) (fun a => ?_) nd)
  refine DSs_cons (DS_for (DI_range (n := ps.length) (G.free "range") (DE.eq (DE_len (G.free "len") (DE_var 0) .tu) (by rw [List.length_map])) (by have := G'.len; omega)) (fun k ρ μ' => ∃ x2 x3 x4, ρ = [some (procsD ps), some (.ptr a), x2, x3, x4] ∧ μ' = (a, .lst (((List.range k).flatMap fun p => unkP (ps.getD p (0, [])) p).map uD)) :: μ) ⟨_, _, _, rfl, rfl⟩ (fun _ _ _ _ => trivial) ?_ ?_)
  · rintro k d ρ μ' hi ⟨x2, x3, x4, rfl, rfl⟩
    obtain ⟨rfl, hk⟩ := rgD_get hi
    obtain ⟨hm, hg⟩ := G'.at hk
    obtain ⟨q1, q2, q3, q4, _⟩ := G'.each _ hm
    have lb := len_flat (fun p => unkP (ps.getD p (0, [])) p) 20 k fun i hi => unkP_len G' (G'.at (by omega)).1 i
    have kl : k ≤ 2 := by have := G'.len; omega
    refine ⟨_, _, DG_name 2 nd, ?_⟩
    have ix : atI (ps.map procD) (k : Int) = some (procD (ps.getD k (0, []))) := atI_map hg
    generalize hq : ps.getD k (0, []) = q at *
    generalize hf : ((List.range k).flatMap fun p => unkP (ps.getD p (0, [])) p) = fl at *
    refine DSs_cons (DS_for (DI_range (n := q.2.length) (G.free "range") (DE.eq (DE_len (G.free "len") (DE_ixT (DE_ixT (DE_var 0) (DE_var 2) ix) DE_int) .tu) (by rw [List.length_map])) (by omega)) (fun i ρ μ' => ∃ x3 x4, ρ = [some (procsD ps), some (.ptr a), some (.int k), x3, x4] ∧ μ' = (a, .lst ((fl ++ (List.range i).flatMap fun i => unkI q k i).map uD)) :: μ) ⟨_, _, rfl, by simp⟩ (fun _ _ _ _ => trivial) ?_ ?_)
    · rintro i d ρ μ' hi ⟨x3, x4, rfl, rfl⟩
      obtain ⟨rfl, hil⟩ := rgD_get hi
      have lb2 := len_flat (fun i => unkI q k i) 4 i fun i _ => by rw [unkI_len]; omega
      refine ⟨_, _, DG_name 3 nd, ?_⟩
      generalize hf2 : (fl ++ (List.range i).flatMap fun i => unkI q k i) = fl2
      have lf2 : fl2.length ≤ 60 := by rw [← hf2, List.length_append]; omega
      refine DSs_cons (DS_for (DI_range (n := (q.1 + 2).toNat) (G.free "range") (DE.eq (DE_add (DE_ixT (DE_ixT (DE_var 0) (DE_var 2) ix) DE_int) DE_int) (by rw [Int.toNat_of_nonneg (by omega)])) (by omega)) (fun w ρ μ' => ∃ x4, ρ = [some (procsD ps), some (.ptr a), some (.int k), some (.int i), x4] ∧ μ' = (a, .lst ((fl2 ++ (List.range w).map fun w : Nat => ((k : Int), (i : Int), (w : Int))).map uD)) :: μ) ⟨_, rfl, by simp⟩ (fun _ _ _ _ => trivial) ?_ ?_)
      · rintro w d ρ μ' hi ⟨x4, rfl, rfl⟩
        obtain ⟨rfl, hw⟩ := rgD_get hi
        refine ⟨_, _, DG_name 4 nd, ?_⟩
        refine DSs_cons (DS_expr (apd 0 (DE_var 1) (DE_tup (DA_cons (DE_var 2) (DA_cons (DE_var 3) (DA_cons (DE_var 4) DA_nil)))) (hl := by simp; omega)) ?_)
        refine DSs_nil ⟨_, rfl, ?_⟩
        rw [map_succ, ← List.append_assoc, List.map_append (l₁ := fl2 ++ _)]
        rfl
      · rintro ρ μ' ⟨x4, rfl, rfl⟩
        refine DSs_nil ⟨_, _, rfl, ?_⟩
        rw [flatMap_succ, ← List.append_assoc, hf2, show (rgD (q.1 + 2).toNat).length = (q.1 + 2).toNat by simp [rgD]]
        rfl
    · rintro ρ μ' ⟨x3, x4, rfl, rfl⟩
      refine DSs_nil ⟨_, _, _, rfl, ?_⟩
      rw [flatMap_succ, hf, hq, show (rgD q.2.length).length = q.2.length by simp [rgD]]
      rfl
  · rintro ρ μ' ⟨x2, x3, x4, rfl, rfl⟩
    rw [show (rgD ps.length).length = ps.length by simp [rgD]]
    refine DSs_freeze 1 [] (h := ?_)
    exact DSs_cons (DS_ret (DE_var 1) Ret.rt)
end Od
namespace Od
open PySem PySem.Spec PyProof.Rows L2
def InU (ps : List Proc) (u : U) : Prop := 0 ≤ u.1 ∧ u.1 < ps.length ∧ 0 ≤ u.2.1 ∧ u.2.1 < (prAt ps u.1).2.length ∧ 0 ≤ u.2.2 ∧ u.2.2 < (prAt ps u.1).1 + 2
theorem mem_unkR {ps : List Proc} {u : U} : u ∈ unkR ps ↔ InU ps u := by
  unfold unkR unkP unkI InU prAt
  simp only [List.mem_flatMap, List.mem_range, List.mem_map]
  constructor
  · rintro ⟨p, hp, i, hi, w, hw, rfl⟩
    show 0 ≤ (p : Int) ∧ (p : Int) < ps.length ∧ 0 ≤ (i : Int) ∧ (i : Int) < ((ps.getD (p : Int).toNat (0, [])).2.length : Int) ∧ 0 ≤ (w : Int) ∧ (w : Int) < (ps.getD (p : Int).toNat (0, [])).1 + 2
    rw [Int.toNat_natCast]
    omega
  · rintro ⟨h1, h2, h3, h4, h5, h6⟩
    refine ⟨u.1.toNat, by omega, u.2.1.toNat, by omega, u.2.2.toNat, by omega, ?_⟩
    obtain ⟨a, b, c⟩ := u
    simp only [Prod.mk.injEq]
    simp only at h1 h3 h5
    omega
def ptAt (ps : List Proc) (u : U) : Option Pt := (prAt ps u.1).2[u.2.1.toNat]?
def termsR (ps : List Proc) (u : U) : List Term :=
  match ptAt ps u with
  | some (.draw bs) => bs.map fun b => (b.1, [(u.1, b.2, u.2.2)])
  | some (.reward _ t) => [(1, [(u.1, t, u.2.2)])]
  | some (.call r gs) => ((List.range (prAt ps r).1.toNat).map fun e : Nat => ((1 : Rat), [(r, (0 : Int), (e : Int)), (u.1, gs.getD e 0, u.2.2)])) ++ (if (prAt ps u.1).1 ≤ u.2.2 then [(1, [(r, 0, (prAt ps r).1 + u.2.2 - (prAt ps u.1).1)])] else [])
  | some (.exit e) => if u.2.2 = e then [(1, [])] else []
  | some .reject => if u.2.2 = (prAt ps u.1).1 then [(1, [])] else []
  | some .stop => if u.2.2 = (prAt ps u.1).1 + 1 then [(1, [])] else []
  | none => []
theorem atI_at {α : Type} {f : α → D} {l : List α} {k : Int} {x : α} (h0 : 0 ≤ k) (h : l[k.toNat]? = some x) : atI (l.map f) k = some (f x) := by
  obtain ⟨j, rfl⟩ := Int.eq_ofNat_of_zero_le h0
  rw [Int.toNat_natCast] at h
  exact atI_map h
theorem prAt_at {ps : List Proc} {p : Int} (h0 : 0 ≤ p) (h : p < ps.length) : ps[p.toNat]? = some (prAt ps p) := by
  unfold prAt
  rw [List.getD_eq_getElem?_getD, List.getElem?_eq_getElem (by omega)]; rfl
theorem prAt_mem {ps : List Proc} {p : Int} (h0 : 0 ≤ p) (h : p < ps.length) : prAt ps p ∈ ps := List.mem_of_getElem? (prAt_at h0 h)
theorem ptAt_at {ps : List Proc} {u : U} (h : InU ps u) : ∃ t, ptAt ps u = some t ∧ t ∈ (prAt ps u.1).2 := by
  obtain ⟨h1, h2, h3, h4, _⟩ := h
  have hl : u.2.1.toNat < (prAt ps u.1).2.length := by omega
  exact ⟨_, List.getElem?_eq_getElem hl, List.getElem_mem hl⟩
theorem one_qD : qD 1 = pD 1 1 := rfl
def spTerms : Dsp := fun ds μ d μ' => ds.length = 2 ∧ ∃ ps u, ds = [procsD ps, uD u] ∧ GoodP ps ∧ InU ps u ∧ d = .lst ((termsR ps u).map termD) ∧ μ = μ'
abbrev n_l_terms : List Str := ["_law_procedures_here", "_law_unknown", "_law_p", "_law_i", "_law_w", "_law_exits", "_law_point_here", "_law_chance", "_law_to", "_law_r", "_law_found", "_law_e", "_law_due"]
theorem sc_l_terms : FnScope n_l_terms ["_law_procedures_here", "_law_unknown"] d_l_terms.scope := ⟨rfl, rfl, rfl, by decide +kernel, rfl, by decide +kernel, by decide +kernel⟩
theorem c_l_terms {g : Gv} (G : Gd g) : Ctr g 1 "_law_terms" (spD g.K spTerms) := by
  obtain ⟨fd, F⟩ := G.def_ 52 (d := d_l_terms) rfl
  refine ⟨_, G.glo "_law_terms", F.kp, fn_of_body F sc_l_terms (F.bindsN fun _ _ _ _ _ _ us hl => match us, hl with | [_, _], _ => rfl) (fun _ _ _ _ h => h.1) fun l ds μ d μ' R h => ?_⟩
  obtain ⟨-, h⟩ := h
  have nd := sc_l_terms.nd
  obtain ⟨ps, u, rfl, G', iu, rfl, rfl⟩ := h
  obtain ⟨u1, u2, u3, u4, u5, u6⟩ := id iu
  obtain ⟨t, ht, tm⟩ := ptAt_at iu
  obtain ⟨q1, q2, q3, q4, qt⟩ := G'.each _ (prAt_mem u1 u2)
  have ok := qt t tm
  have ixq := atI_at (f := procD) u1 (prAt_at u1 u2)
  have ixt := atI_at (f := ptD) u3 ht
  obtain ⟨p, i, w⟩ := u
  simp only at u1 u2 u3 u4 u5 u6 ixq ixt ok qt tm
  refine DSs_cons (DS_asg (DE_var 1) (DG_tup (DGs_cons (DG_name 2 nd) (DGs_cons (DG_name 3 nd) (DGs_cons (DG_name 4 nd) DGs_nil)))) ?_)
  refine DSs_cons (DS_set 5 (DE_ixT (DE_ixT (DE_var 0) (DE_var 2) ixq) DE_int) ?_ nd)
  refine DSs_cons (DS_set 6 (DE_ixT (DE_ixT (DE_ixT (DE_var 0) (DE_var 2) ixq) DE_int) (DE_var 3) ixt) ?_ nd)
  have e0 : ∀ ds : List D, (ds.map fun x => x).length = ds.length := fun _ => by simp
  have ret1 : ∀ b : Bool, D.lst ((if b = true then [((1 : Rat), ([] : List U))] else []).map termD) = if b = true then .lst [.tup [pD 1 1, .tup []]] else .lst [] := fun b => by cases b <;> rfl
  have tail : ∀ (due : Int) (ρ7 ρ8 ρ9 ρ10 ρ11 : Option D) (b : Bool), b = decide (w = due) → DSs (cX g l n_l_terms d_l_terms.scope) (d_l_terms.body.drop 9) [some (procsD ps), some (uD (p, i, w)), some (.int p), some (.int i), some (.int w), some (.int (prAt ps p).1), some (ptD t), ρ7, ρ8, ρ9, ρ10, ρ11, some (.int due)] μ (Ret (.lst ((if b = true then [((1 : Rat), ([] : List U))] else []).map termD)) μ) := fun due ρ7 ρ8 ρ9 ρ10 ρ11 b hb => by
    refine DSs_cons (DS_if (DT_eqI (DE_var 4) (DE_var 12)) (fun c => ?_) fun c => ?_)
    · rw [← hb] at c
      rw [ret1, if_pos c]
      exact DSs_cons (DS_ret (DN.de (DN_lst (DA_cons (DE_tup (DA_cons (DE_tup (DA_cons DE_int (DA_cons DE_int DA_nil))) (DA_cons (DE_tup DA_nil) DA_nil))) DA_nil))) Ret.rt)
    · rw [← hb] at c
      rw [ret1, if_neg (by rw [c]; decide)]
      refine DSs_nil ?_
      exact DSs_cons (DS_ret (DN.de (DN_lst DA_nil)) Ret.rt)
  have strNe : ∀ {x y : Str} {Q : Prop}, decide (x = y) = true → decide (x = y) = false → Q := fun h1 h2 => by rw [h1] at h2; cases h2
  cases t with
  | draw bs =>
    refine DSs_cons (DS_if (DT_eqS (DE_ixT (DE_var 6) DE_int) DE_str) (fun _ => ?_) fun h => absurd h (by decide))
    refine DSs_cons (DS_ret (DN.de (lcF [("_law_chance", 7), ("_law_to", 8)] bs brD (fun b => termD (b.1, [(p, b.2, w)])) (DI_tup (DE_ixT (DE_var 6) DE_int)) rfl (fun _ _ => trivial) (fun x hx a l => ⟨_, _, fun s0 H0 Cc cl fp => DG_tup (DGs_cons (DG_name 7 nd) (DGs_cons (DG_name 8 nd) DGs_nil)), by decide, fun s0 H0 Cc cl fp => DE_tup (DA_cons (DE_var 7) (DA_cons (DE_tup (DA_cons (DE_tup (DA_cons (DE_var 2) (DA_cons (DE_var 8) (DA_cons (DE_var 4) DA_nil)))) DA_nil)) DA_nil))⟩) nd rfl)) ?_)
    unfold termsR
    rw [ht, List.map_map]
    exact Ret.rt
  | reward a t =>
    refine DSs_cons (DS_if (DT_eqS (DE_ixT (DE_var 6) DE_int) DE_str) (fun h => absurd h (by decide)) fun _ => ?_)
    refine DSs_nil ?_
    refine DSs_cons (DS_if (DT_eqS (DE_ixT (DE_var 6) DE_int) DE_str) (fun _ => ?_) fun h => absurd h (by decide))
    refine DSs_cons (DS_ret (DN.de (DN_lst (DA_cons (DE_tup (DA_cons (DE_tup (DA_cons DE_int (DA_cons DE_int DA_nil))) (DA_cons (DE_tup (DA_cons (DE_tup (DA_cons (DE_var 2) (DA_cons (DE_ixT (DE_var 6) DE_int) (DA_cons (DE_var 4) DA_nil)))) DA_nil)) DA_nil))) DA_nil))) ?_)
    unfold termsR
    rw [ht]
    exact Ret.rt
  | call r gs =>
    obtain ⟨r1, r2, r3, r4⟩ := ok
    have ixr := atI_at (f := procD) r1 (prAt_at r1 r2)
    obtain ⟨z1, z2, _⟩ := G'.each _ (prAt_mem r1 r2)
    refine DSs_cons (DS_if (DT_eqS (DE_ixT (DE_var 6) DE_int) DE_str) (fun h => absurd h (by decide)) fun _ => ?_)
    refine DSs_nil ?_
    refine DSs_cons (DS_if (DT_eqS (DE_ixT (DE_var 6) DE_int) DE_str) (fun h => absurd h (by decide)) fun _ => ?_)
    refine DSs_nil ?_
    refine DSs_cons (DS_if (DT_eqS (DE_ixT (DE_var 6) DE_int) DE_str) (fun _ => ?_) fun h => absurd h (by decide))
    refine DSs_cons (DS_set 9 (DE_ixT (DE_var 6) DE_int) ?_ nd)
    refine DSs_cons (DS_setLc 10 [("_law_e", 11)] (List.range (prAt ps r).1.toNat) (fun k : Nat => D.int k) (fun _ => true) (fun e : Nat => termD (1, [(r, 0, (e : Int)), (p, gs.getD e 0, w)])) (DI_range (n := (prAt ps r).1.toNat) (G.free "range") (DE.eq (DE_ixT (DE_ixT (DE_var 0) (DE_var 9) ixr) DE_int) (by rw [Int.toNat_of_nonneg z1])) (by omega)) (fun _ _ => trivial) (fun x hx a l => ?_) (fun q => ?_) nd)
    · have hx : x < gs.length := by have := List.mem_range.mp hx; omega
      have ixg : atI (gs.map D.int) (x : Int) = some (.int (gs.getD x 0)) := atI_int (l := gs) (i := (x : Int)) (by omega) (by omega)
      exact ⟨_, _, fun s0 H0 Cc cl fp => DG_name 11 nd, by decide, fun s0 H0 Cc cl fp => DTs_nil, fun _ => fun s0 H0 Cc cl fp => DE_tup (DA_cons (DE_tup (DA_cons DE_int (DA_cons DE_int DA_nil))) (DA_cons (DE_tup (DA_cons (DE_tup (DA_cons (DE_var 9) (DA_cons DE_int (DA_cons (DE_var 11) DA_nil)))) (DA_cons (DE_tup (DA_cons (DE_var 2) (DA_cons (DE_ixT (DE_ixT (DE_var 6) DE_int) (DE_var 11) ixg) (DA_cons (DE_var 4) DA_nil)))) DA_nil))) DA_nil))⟩
    · rw [List.filter_eq_self.mpr fun _ _ => rfl]
      have fin : ∀ (ts : List Term), ts = termsR ps (p, i, w) → DSs (cX g l n_l_terms d_l_terms.scope) ((bodyIf d_l_terms.body 5).drop 3) [some (procsD ps), some (uD (p, i, w)), some (.int p), some (.int i), some (.int w), some (.int (prAt ps p).1), some (ptD (.call r gs)), none, none, some (.int r), some (.ptr q), none, none] ((q, .lst (ts.map termD)) :: μ) (Seq (cX g l n_l_terms d_l_terms.scope) (d_l_terms.body.drop 6) (Ret (.lst ((termsR ps (p, i, w)).map termD)) μ)) := fun ts hts => by
        refine DSs_freeze 10 [] (h := ?_)
        refine DSs_cons (DS_ret (DE_var 10) ?_)
        rw [hts]
        exact Ret.rt
      refine DSs_cons (DS_if (DT_geI (DE_var 4) (DE_var 5)) (fun c => ?_) fun c => ?_)
      · have c : (prAt ps p).1 ≤ w := of_decide_eq_true c
        refine DSs_cons (DS_expr (apd 0 (DE_var 10) (DE_tup (DA_cons (DE_tup (DA_cons DE_int (DA_cons DE_int DA_nil))) (DA_cons (DE_tup (DA_cons (DE_tup (DA_cons (DE_var 9) (DA_cons DE_int (DA_cons (DE_sub (DE_add (DE_ixT (DE_ixT (DE_var 0) (DE_var 9) ixr) DE_int) (DE_var 4)) (DE_var 5)) DA_nil)))) DA_nil)) DA_nil))) (hl := by simp; omega)) ?_)
        refine DSs_nil ?_
        have e : termsR ps (p, i, w) = ((List.range (prAt ps r).1.toNat).map fun e : Nat => ((1 : Rat), [(r, (0 : Int), (e : Int)), (p, gs.getD e 0, w)])) ++ [(1, [(r, 0, (prAt ps r).1 + w - (prAt ps p).1)])] := by
          unfold termsR; rw [ht]; simp only; rw [if_pos c]
        have z := fin _ e.symm
        rw [List.map_append, List.map_map] at z
        exact z
      · have c : ¬ (prAt ps p).1 ≤ w := of_decide_eq_false c
        refine DSs_nil ?_
        have e : termsR ps (p, i, w) = ((List.range (prAt ps r).1.toNat).map fun e : Nat => ((1 : Rat), [(r, (0 : Int), (e : Int)), (p, gs.getD e 0, w)])) := by
          unfold termsR; rw [ht]; simp only; rw [if_neg c, List.append_nil]
        have z := fin _ e.symm
        rw [List.map_map] at z
        exact z
  | exit e =>
    refine DSs_cons (DS_if (DT_eqS (DE_ixT (DE_var 6) DE_int) DE_str) (fun h => absurd h (by decide)) fun _ => ?_)
    refine DSs_nil ?_
    refine DSs_cons (DS_if (DT_eqS (DE_ixT (DE_var 6) DE_int) DE_str) (fun h => absurd h (by decide)) fun _ => ?_)
    refine DSs_nil ?_
    refine DSs_cons (DS_if (DT_eqS (DE_ixT (DE_var 6) DE_int) DE_str) (fun h => absurd h (by decide)) fun _ => ?_)
    refine DSs_nil ?_
    refine DSs_cons (DS_set 12 (DE_var 5) ?_ nd)
    refine DSs_cons (DS_if (DT_eqS (DE_ixT (DE_var 6) DE_int) DE_str) (fun _ => ?_) fun h => absurd h (by decide))
    refine DSs_cons (DS_set 12 (DE_ixT (DE_var 6) DE_int) ?_ nd)
    refine DSs_nil ?_
    refine DSs_cons (DS_if (DT_eqS (DE_ixT (DE_var 6) DE_int) DE_str) (fun h => absurd h (by decide)) fun _ => ?_)
    refine DSs_nil ?_
    have z := tail e none none none none none _ rfl
    unfold termsR
    rw [ht]
    simp only [decide_eq_true_eq] at z
    exact z
  | reject =>
    refine DSs_cons (DS_if (DT_eqS (DE_ixT (DE_var 6) DE_int) DE_str) (fun h => absurd h (by decide)) fun _ => ?_)
    refine DSs_nil ?_
    refine DSs_cons (DS_if (DT_eqS (DE_ixT (DE_var 6) DE_int) DE_str) (fun h => absurd h (by decide)) fun _ => ?_)
    refine DSs_nil ?_
    refine DSs_cons (DS_if (DT_eqS (DE_ixT (DE_var 6) DE_int) DE_str) (fun h => absurd h (by decide)) fun _ => ?_)
    refine DSs_nil ?_
    refine DSs_cons (DS_set 12 (DE_var 5) ?_ nd)
    refine DSs_cons (DS_if (DT_eqS (DE_ixT (DE_var 6) DE_int) DE_str) (fun h => absurd h (by decide)) fun _ => ?_)
    refine DSs_nil ?_
    refine DSs_cons (DS_if (DT_eqS (DE_ixT (DE_var 6) DE_int) DE_str) (fun h => absurd h (by decide)) fun _ => ?_)
    refine DSs_nil ?_
    have z := tail (prAt ps p).1 none none none none none _ rfl
    unfold termsR
    rw [ht]
    simp only [decide_eq_true_eq] at z
    exact z
  | stop =>
    refine DSs_cons (DS_if (DT_eqS (DE_ixT (DE_var 6) DE_int) DE_str) (fun h => absurd h (by decide)) fun _ => ?_)
    refine DSs_nil ?_
    refine DSs_cons (DS_if (DT_eqS (DE_ixT (DE_var 6) DE_int) DE_str) (fun h => absurd h (by decide)) fun _ => ?_)
    refine DSs_nil ?_
    refine DSs_cons (DS_if (DT_eqS (DE_ixT (DE_var 6) DE_int) DE_str) (fun h => absurd h (by decide)) fun _ => ?_)
    refine DSs_nil ?_
    refine DSs_cons (DS_set 12 (DE_var 5) ?_ nd)
    refine DSs_cons (DS_if (DT_eqS (DE_ixT (DE_var 6) DE_int) DE_str) (fun h => absurd h (by decide)) fun _ => ?_)
    refine DSs_nil ?_
    refine DSs_cons (DS_if (DT_eqS (DE_ixT (DE_var 6) DE_int) DE_str) (fun _ => ?_) fun h => absurd h (by decide))
    refine DSs_cons (DS_set 12 (DE_add (DE_var 5) DE_int) ?_ nd)
    refine DSs_nil ?_
    have z := tail ((prAt ps p).1 + 1) none none none none none _ rfl
    unfold termsR
    rw [ht]
    simp only [decide_eq_true_eq] at z
    exact z
end Od
namespace Od
open PySem PySem.Spec PyProof.Rows L2
section
variable {X : Cx} {b f : Expr} {ρ : Rho} {μ μ1 μ2 : Mu} {d : D} {p apos cpos : Pos} {x : Str} {ty tx : TE}
def tKGet (K : PySem.W.Frag) (d : Addr) (ty tx : TE) : TE := fun σ H Q => ty σ H fun y H2 => tx σ H2 fun z H3 => ∃ (zz : Str) (u0 : Value) (v0 : V), y = .str zz ∧ PySem.W.nsIn K d zz = some (some u0) ∧ RelV v0 u0 ∧ Q v0 H3
theorem pe_kget {dd : Addr} {es : Array DictEntry} {n : Nat} (Dk : KDict X.K X.w dd es n) (hg : Gl X x) (hm : X.mg x = some (.ref dd)) (he : PE X b ty) (hf : PE X f tx) (m : M2 X (.Name x p) "get" apos b f cpos) (hdb : (x == ("__debug__" : Str)) = false := by decide) :
    PE X (.Call (.Attribute (.Name x p) "get" apos) [b, f] [] cpos) (tKGet X.K dd ty tx) := by
  refine ⟨fun pins s σ H Q I h => ?_⟩
  refine wpAny_Call_method m.base m.few m.line PySem.F.plainAttrs_dict PySem.F.slot_dict_get PySem.F.type_dict_get (ld_glob I hg hm ?_ hdb)
  refine ⟨kd_type Dk I, fun a e => ?_, ?_⟩
  · cases e
    exact ⟨_, I.kIn _ _ Dk.at_, rfl⟩
  rw [m.trees]
  refine Calls.callWith_builtin rfl (Calls.evalArgs_plain (Calls.spliced_cons (thn (he.run pins s σ H _ I h) fun iv s2 ⟨y, H2, I2, ry, q2⟩ =>
    Calls.spliced_cons (thn (hf.run pins s2 σ H2 _ I2 q2) fun fv s3 ⟨z, H3, I3, rz, zz, u0, v0, ey, e, r0, q3⟩ => Calls.spliced_nil ?_))))
  subst ey
  obtain ⟨t, rfl⟩ := (show ∃ t, iv = Value.str zz t from ry)
  have hmap := PySem.W.mapOf_K (prog := X.prog) (w := X.w) I3.kIn Dk.at_ Dk.lit
  refine call_meetsIn PySem.F.slot_dict_get hmap.typeIs PySem.F.entry_dict_get (PySem.F.args_dict_get_3 _ _ _) (meets_dict_get_default (strKind X.prog X.w) dd (strKind_is X.prog X.w zz t) Dk.low fv) ⟨_, hmap, ?_⟩
  rw [PySem.W.find_K Dk.at_ e]
  exact ⟨v0, H3, I3.tok _, r0, q3⟩
theorem DE_kget {dd : Addr} {es : Array DictEntry} {n : Nat} {zz : Str} {i : Int} {dz : D} (Dk : KDict X.K X.w dd es n) (hm : X.mg x = some (.ref dd)) (hv : ∃ u, PySem.W.nsIn X.K dd zz = some (some u) ∧ RelV (.int i) u) (hb : DE X b ρ μ (.str zz) μ1) (hf : DE X f ρ μ1 dz μ2)
    (m : M2 X (.Name x p) "get" apos b f cpos := by exact ⟨rfl, rfl, rfl, rfl⟩) (hg : Gl X x := by rfl) (hdb : (x == ("__debug__" : Str)) = false := by decide) :
    DE X (.Call (.Attribute (.Name x p) "get" apos) [b, f] [] cpos) ρ μ (.int i) μ2 := fun B H σ Q S L k => by
  obtain ⟨u, hu, ru⟩ := hv
  exact peW (pe_kget Dk hg hm pe_w pe_w m hdb) (hb B H σ _ S L fun B1 H1 y i1 S1 r1 => hf B1 H1 σ _ S1 (L.inc i1) fun B2 H2 z i2 S2 r2 => ⟨zz, u, .int i, r1, hu, ru, k B2 H2 _ (i1.trans i2) S2 rfl⟩)
end
section
variable {g : Gv}
theorem Gd.tab (G : Gd g) : ∃ es n, KDict g.K g.w (He.ga g.K "LENGTHS") es n := G.t.tab 0 rfl
theorem Gd.ex2 (G : Gd g) : He.tupB g.K "ONE" [.int 1, .int 1] = true ∧ He.valsB g.K (He.ga g.K "LENGTHS") [("exit", .int 2), ("draw", .int 2), ("call", .int 3), ("reward", .int 3), ("reject", .int 1), ("stop", .int 1)] = true ∧
    PySem.W.kitOne g.K (.ref (He.ga g.K "Graph")) (.ref (He.ga g.K "Graph")) = some true ∧ PySem.W.findIn g.K (.ref (He.ga g.K "Graph")) "__class__" = some (some (.builtin "object.__class__")) ∧
    PySem.W.specialIn g.K (.builtin "object.__class__") "__get__" = some (some (.builtin "getset_descriptor.__get__")) ∧ PySem.W.takesIn g.K (.builtin "object.__class__") = some true ∧ PySem.W.mroIn g.K (He.ga g.K "Graph") (.type "object") = some true := by
  have h := G.ex
  unfold exB at h
  simp only [Bool.and_eq_true, decide_eq_true_eq] at h
  obtain ⟨_, h2, h3, h4, h5, h6, h7, h8⟩ := h
  exact ⟨h2, h3, h4, He.eqO_ok h5, He.eqO_ok h6, h7, h8⟩
theorem Gd.len_at (G : Gd g) {q : Str × He.Dv} (h : q ∈ ([("exit", .int 2), ("draw", .int 2), ("call", .int 3), ("reward", .int 3), ("reject", .int 1), ("stop", .int 1)] : List (Str × He.Dv))) : ∃ u, PySem.W.nsIn g.K (He.ga g.K "LENGTHS") q.1 = some (some u) ∧ RelV (q.2.v g.K) u := He.valsB_ok G.ex2.2.1 h
theorem Gd.one (G : Gd g) (H : Hp) : SqT g.K H (He.ga g.K "ONE") [.int 1, .int 1] := He.tupB_ok G.ex2.1 H
end
end Od
namespace Od
open PySem PySem.Spec PyProof.Rows L2
def spIsInt : Dsp := fun ds μ d μ' => ds.length = 1 ∧ ∃ i, ds = [.int i] ∧ d = .bl true ∧ μ = μ'
abbrev n_is_integer_rationals : List Str := ["x"]
theorem sc_is_integer_rationals : FnScope n_is_integer_rationals ["x"] d_is_integer_rationals.scope := ⟨rfl, rfl, rfl, by decide +kernel, rfl, by decide +kernel, by decide +kernel⟩
theorem c_is_integer_rationals {g : Gv} (G : Gd g) : Ctr g 1 "is_integer_rationals" (spD g.K spIsInt) := by
  obtain ⟨fd, F⟩ := G.def_ 3 (d := d_is_integer_rationals) rfl
  refine ⟨_, G.glo "is_integer_rationals", F.kp, fn_of_body F sc_is_integer_rationals (F.bindsN fun _ _ _ _ _ _ us hl => match us, hl with | [_], _ => rfl) (fun _ _ _ _ h => h.1) fun l ds μ d μ' R h => ?_⟩
  obtain ⟨-, h⟩ := h
  have nd := sc_is_integer_rationals.nd
  obtain ⟨i, rfl, rfl, rfl⟩ := h
  exact DSs_cons (DS_ret (DE.eq (DE_and (DE_isi (T' := "int") (t := true) (G.free "isinstance") (G.free "int") (DE_var 0)) fun _ => DE_one (DE_not (DE_isi (T' := "bool") (t := false) (G.free "isinstance") (G.free "bool") (DE_var 0)))) rfl) Ret.rt)
abbrev n_is_integer_graphs : List Str := ["value"]
theorem sc_is_integer_graphs : FnScope n_is_integer_graphs ["value"] d_is_integer_graphs.scope := ⟨rfl, rfl, rfl, by decide +kernel, rfl, by decide +kernel, by decide +kernel⟩
theorem c_is_integer_graphs {g : Gv} (G : Gd g) : Ctr g 1 "is_integer_graphs" (spD g.K spIsInt) := by
  obtain ⟨fd, F⟩ := G.def_ 7 (d := d_is_integer_graphs) rfl
  refine ⟨_, G.glo "is_integer_graphs", F.kp, fn_of_body F sc_is_integer_graphs (F.bindsN fun _ _ _ _ _ _ us hl => match us, hl with | [_], _ => rfl) (fun _ _ _ _ h => h.1) fun l ds μ d μ' R h => ?_⟩
  obtain ⟨-, h⟩ := h
  have nd := sc_is_integer_graphs.nd
  obtain ⟨i, rfl, rfl, rfl⟩ := h
  exact DSs_cons (DS_ret (DE.eq (DE_and (DE_isi (T' := "int") (t := true) (G.free "isinstance") (G.free "int") (DE_var 0)) fun _ => DE_one (DE_not (DE_isi (T' := "bool") (t := false) (G.free "isinstance") (G.free "bool") (DE_var 0)))) rfl) Ret.rt)
def spIsIndex : Dsp := fun ds μ d μ' => ds.length = 2 ∧ ∃ i m, ds = [.int i, .int m] ∧ 0 ≤ i ∧ i < m ∧ d = .bl true ∧ μ = μ'
abbrev n_is_index : List Str := ["value", "many"]
theorem sc_is_index : FnScope n_is_index ["value", "many"] d_is_index.scope := ⟨rfl, rfl, rfl, by decide +kernel, rfl, by decide +kernel, by decide +kernel⟩
theorem c_is_index {g : Gv} (G : Gd g) : Ctr g 2 "is_index" (spD g.K spIsIndex) := by
  obtain ⟨fd, F⟩ := G.def_ 8 (d := d_is_index) rfl
  refine ⟨_, G.glo "is_index", F.kp, fn_of_body F sc_is_index (F.bindsN fun _ _ _ _ _ _ us hl => match us, hl with | [_, _], _ => rfl) (fun _ _ _ _ h => h.1) fun l ds μ d μ' R h => ?_⟩
  obtain ⟨-, h⟩ := h
  have nd := sc_is_index.nd
  obtain ⟨i, m, rfl, h0, h1, rfl, rfl⟩ := h
  refine DSs_cons (DS_ret (DE_and (DE_call (c_is_integer_graphs G) R (DA_cons (DE_var 0) DA_nil) ⟨rfl, _, rfl, rfl, rfl⟩) fun _ => DE_one (DE_chain op_le op_lt DE_int (DE_var 0) (DE_var 1))) ?_)
  rw [decide_eq_true h0, decide_eq_true h1]
  exact Ret.rt
def spIsRat : Dsp := fun ds μ d μ' => ds.length = 1 ∧ ∃ q : Rat, ds = [qD q] ∧ d = .bl true ∧ μ = μ'
abbrev n_is_rational : List Str := ["x", "n", "d"]
theorem sc_is_rational : FnScope n_is_rational ["x"] d_is_rational.scope := ⟨rfl, rfl, rfl, by decide +kernel, rfl, by decide +kernel, by decide +kernel⟩
theorem c_is_rational {g : Gv} (G : Gd g) : Ctr g 2 "is_rational" (spD g.K spIsRat) := by
  obtain ⟨fd, F⟩ := G.def_ 4 (d := d_is_rational) rfl
  refine ⟨_, G.glo "is_rational", F.kp, fn_of_body F sc_is_rational (F.bindsN fun _ _ _ _ _ _ us hl => match us, hl with | [_], _ => rfl) (fun _ _ _ _ h => h.1) fun l ds μ d μ' R h => ?_⟩
  obtain ⟨-, h⟩ := h
  have nd := sc_is_rational.nd
  obtain ⟨q, rfl, rfl, rfl⟩ := h
  refine DSs_cons (DS_if (DW.dt (DW_or (DT_not (DT_isi (T' := "tuple") (t := true) (G.free "isinstance") (G.free "tuple") (DE_var 0))) fun _ => DW_or1 (DT_neI (DE_len (G.free "len") (DE_var 0) .tu) DE_int))) (fun c => absurd c (by exact Bool.false_ne_true)) fun _ => ?_)
  refine DSs_nil ?_
  refine DSs_cons (DS_asg (DE_var 0) (DG_tup (DGs_cons (DG_name 1 nd) (DGs_cons (DG_name 2 nd) DGs_nil))) ?_)
  have h1 : (0 : Int) < (q.den : Int) := by have := q.den_pos; omega
  have h2 : Nat.gcd q.num.natAbs (q.den : Int).natAbs = 1 := q.reduced
  refine DSs_cons (DS_ret (DE_and (DE_call (c_is_integer_rationals G) R (DA_cons (DE_var 1) DA_nil) ⟨rfl, _, rfl, rfl, rfl⟩) fun _ => DE_and (DE_call (c_is_integer_rationals G) R (DA_cons (DE_var 2) DA_nil) ⟨rfl, _, rfl, rfl, rfl⟩) fun _ => DE_and (DE_gtI (DE_var 2) DE_int) fun _ => DE_one (DE_eqI (DE_gcd G.gcd (DE_var 1) (DE_var 2)) DE_int)) ?_)
  rw [decide_eq_true h1, h2]
  exact Ret.rt
theorem gcd_of (n : Int) (d : Nat) (hd : d ≠ 0) : (n.fdiv (Nat.gcd n.natAbs d : Nat) = (mkRat n d).num) ∧ ((d : Int).fdiv (Nat.gcd n.natAbs d : Nat) = ((mkRat n d).den : Int)) := by
  have h := low_num (n := n) (d := (d : Int)) (s := (Int.gcd n d : Int)) (by omega) (by rw [if_neg (by omega)])
  exact h
def spReduced : Dsp := fun ds μ d μ' => ds.length = 2 ∧ ∃ (n : Int) (m : Nat), ds = [.int n, .int m] ∧ m ≠ 0 ∧ m < 2 ^ 9000 ∧ d = qD (mkRat n m) ∧ μ = μ'
abbrev n_reduced : List Str := ["n", "d", "common"]
theorem sc_reduced : FnScope n_reduced ["n", "d"] d_reduced.scope := ⟨rfl, rfl, rfl, by decide +kernel, rfl, by decide +kernel, by decide +kernel⟩
theorem c_reduced {g : Gv} (G : Gd g) : Ctr g 1 "reduced" (spD g.K spReduced) := by
  obtain ⟨fd, F⟩ := G.def_ 5 (d := d_reduced) rfl
  refine ⟨_, G.glo "reduced", F.kp, fn_of_body F sc_reduced (F.bindsN fun _ _ _ _ _ _ us hl => match us, hl with | [_, _], _ => rfl) (fun _ _ _ _ h => h.1) fun l ds μ d μ' R h => ?_⟩
  obtain ⟨-, h⟩ := h
  have nd := sc_reduced.nd
  obtain ⟨n, m, rfl, h0, hb, rfl, rfl⟩ := h
  refine DSs_cons (DS_set 2 (DE_gcd G.gcd (DE_var 0) (DE_var 1)) ?_ nd)
  have hg0 : 0 < Nat.gcd n.natAbs m := Nat.gcd_pos_of_pos_right _ (by omega)
  have hgl : Nat.gcd n.natAbs m ≤ m := Nat.le_of_dvd (by omega) (Nat.gcd_dvd_right _ _)
  obtain ⟨e1, e2⟩ := gcd_of n m h0
  have sl : ((Nat.gcd n.natAbs m : Nat) : Int).natAbs.log2 < 9000 := log2_lt (by rw [Int.natAbs_natCast]; omega) (by decide)
  have s0 : ((Nat.gcd n.natAbs m : Nat) : Int) ≠ 0 := by omega
  refine DSs_cons (DS_ret (DE_tup (DA_cons (DE_fdivX (DE_var 0) (DE_var 2) s0 sl) (DA_cons (DE_fdivX (DE_var 1) (DE_var 2) s0 sl) DA_nil))) ?_)
  rw [e1, e2]
  exact Ret.rt
abbrev n_plus : List Str := ["a", "b"]
theorem sc_plus : FnScope n_plus ["a", "b"] d_plus.scope := ⟨rfl, rfl, rfl, by decide +kernel, rfl, by decide +kernel, by decide +kernel⟩
theorem c_plus {g : Gv} (G : Gd g) : Ctr g 2 "plus" (spD g.K spPlus) := by
  obtain ⟨fd, F⟩ := G.def_ 6 (d := d_plus) rfl
  refine ⟨_, G.glo "plus", F.kp, fn_of_body F sc_plus (F.bindsN fun _ _ _ _ _ _ us hl => match us, hl with | [_, _], _ => rfl) (fun _ _ _ _ h => h.1) fun l ds μ d μ' R h => ?_⟩
  obtain ⟨-, h⟩ := h
  have nd := sc_plus.nd
  obtain ⟨p, q, rfl, hp, hq, rfl, rfl⟩ := h
  have hd := den2 hp hq
  have e : ((p.den : Int) * q.den) = ((p.den * q.den : Nat) : Int) := by rw [Int.natCast_mul]
  refine DSs_cons (DS_ret (DE_call (c_reduced G) R (DA_cons (DE_add (DE_mulW (DE_ixT (DE_var 0) DE_int) (DE_ixT (DE_var 1) DE_int) (mulw hp.1 hq.d)) (DE_mulW (DE_ixT (DE_var 0) DE_int) (DE_ixT (DE_var 1) DE_int) (mulw hp.d hq.1))) (DA_cons (DE.eq (DE_mulW (DE_ixT (DE_var 0) DE_int) (DE_ixT (DE_var 1) DE_int) (mulw hp.d hq.d)) (congrArg D.int e)) DA_nil)) ⟨rfl, _, _, rfl, ?_, ?_, rfl, rfl⟩) ?_)
  · have := hd.1; rw [e] at this; omega
  · have := hd.2; rw [e, Int.natAbs_natCast] at this; exact this
  · rw [Rat.add_def', Int.mul_comm (p.den : Int) q.num]
    exact Ret.rt
def spForm : Dsp := fun ds μ d μ' => ds.length = 1 ∧ ∃ t, ds = [ptD t] ∧ d = .bl true ∧ μ = μ'
theorem all_true {α : Type} (l : List α) : ((l.map fun _ => true).all fun z => z) = true := by simp
theorem all_map {α : Type} (l : List α) : (l.map fun _ => D.bl true) = (l.map fun _ => true).map D.bl := by rw [List.map_map]; rfl
abbrev n_has_form : List Str := ["point", "one"]
theorem sc_has_form : FnScope n_has_form ["point"] d_has_form.scope := ⟨rfl, rfl, rfl, by decide +kernel, rfl, by decide +kernel, by decide +kernel⟩
theorem c_has_form {g : Gv} (G : Gd g) : Ctr g 2 "has_form" (spD g.K spForm) := by
  obtain ⟨fd, F⟩ := G.def_ 9 (d := d_has_form) rfl
  refine ⟨_, G.glo "has_form", F.kp, fn_of_body F sc_has_form (F.bindsN fun _ _ _ _ _ _ us hl => match us, hl with | [_], _ => rfl) (fun _ _ _ _ h => h.1) fun l ds μ d μ' R h => ?_⟩
  obtain ⟨-, h⟩ := h
  have nd := sc_has_form.nd
  obtain ⟨t, rfl, rfl, rfl⟩ := h
  obtain ⟨es, nn, K⟩ := G.tab
  cases t with
  | draw bs =>
    refine DSs_cons (DS_if (DW.dt (DW_or (DT_not (DT_isi (T' := "tuple") (t := true) (G.free "isinstance") (G.free "tuple") (DE_var 0))) fun _ => DW_or (DT_eqI (DE_len (G.free "len") (DE_var 0) .tu) DE_int) fun _ => DW_or1 (DT_not (DT_isi (T' := "str") (t := true) (G.free "isinstance") (G.free "str") (DE_ixT (DE_var 0) DE_int))))) (fun c => absurd c (by exact Bool.false_ne_true)) fun _ => ?_)
    refine DSs_nil ?_
    refine DSs_cons (DS_if (DT_neI (DE_len (G.free "len") (DE_var 0) .tu) (DE_kget K (G.glo "LENGTHS") (G.len_at (q := ("draw", .int 2)) (by simp)) (DE_ixT (DE_var 0) DE_int) DE_int)) (fun c => absurd c (by exact Bool.false_ne_true)) fun _ => ?_)
    refine DSs_nil ?_
    refine DSs_cons (DS_if (DT_eqS (DE_ixT (DE_var 0) DE_int) DE_str) (fun h => absurd h (by decide)) fun _ => ?_)
    refine DSs_nil ?_
    refine DSs_cons (DS_if (DT_eqS (DE_ixT (DE_var 0) DE_int) DE_str) (fun _ => ?_) fun h => absurd h (by decide))
    refine DSs_cons (DS_ret (DE_and (DE_isi (T' := "tuple") (t := true) (G.free "isinstance") (G.free "tuple") (DE_ixT (DE_var 0) DE_int)) fun _ => DE_one (DE_all_ (bs := bs.map fun _ => true) (G.free "all") (DN.de (lcF [("one", 1)] bs brD (fun _ => .bl true) (DI_tup (DE_ixT (DE_var 0) DE_int)) rfl (fun _ _ => trivial) (fun x hx a l => ⟨_, _, fun s0 H0 Cc cl fp => DG_name 1 nd, by decide, fun s0 H0 Cc cl fp => DE.eq (DE_and (DE_isi (T' := "tuple") (t := true) (G.free "isinstance") (G.free "tuple") (DE_var 1)) fun _ => DE_one (DE_eqI (DE_len (G.free "len") (DE_var 1) .tu) DE_int)) (by rfl)⟩) nd (congrArg D.lst (all_map bs)))))) ?_)
    rw [all_true bs]
    exact Ret.rt
  | call r gs =>
    refine DSs_cons (DS_if (DW.dt (DW_or (DT_not (DT_isi (T' := "tuple") (t := true) (G.free "isinstance") (G.free "tuple") (DE_var 0))) fun _ => DW_or (DT_eqI (DE_len (G.free "len") (DE_var 0) .tu) DE_int) fun _ => DW_or1 (DT_not (DT_isi (T' := "str") (t := true) (G.free "isinstance") (G.free "str") (DE_ixT (DE_var 0) DE_int))))) (fun c => absurd c (by exact Bool.false_ne_true)) fun _ => ?_)
    refine DSs_nil ?_
    refine DSs_cons (DS_if (DT_neI (DE_len (G.free "len") (DE_var 0) .tu) (DE_kget K (G.glo "LENGTHS") (G.len_at (q := ("call", .int 3)) (by simp)) (DE_ixT (DE_var 0) DE_int) DE_int)) (fun c => absurd c (by exact Bool.false_ne_true)) fun _ => ?_)
    refine DSs_nil ?_
    refine DSs_cons (DS_if (DT_eqS (DE_ixT (DE_var 0) DE_int) DE_str) (fun h => absurd h (by decide)) fun _ => ?_)
    refine DSs_nil ?_
    refine DSs_cons (DS_if (DT_eqS (DE_ixT (DE_var 0) DE_int) DE_str) (fun h => absurd h (by decide)) fun _ => ?_)
    refine DSs_nil ?_
    refine DSs_cons (DS_if (DT_eqS (DE_ixT (DE_var 0) DE_int) DE_str) (fun h => absurd h (by decide)) fun _ => ?_)
    refine DSs_nil ?_
    refine DSs_cons (DS_if (DT_eqS (DE_ixT (DE_var 0) DE_int) DE_str) (fun _ => ?_) fun h => absurd h (by decide))
    exact DSs_cons (DS_ret (DE_and (DE_call (c_is_integer_graphs G) R (DA_cons (DE_ixT (DE_var 0) DE_int) DA_nil) ⟨rfl, _, rfl, rfl, rfl⟩) fun _ => DE_one (DE_isi (T' := "tuple") (t := true) (G.free "isinstance") (G.free "tuple") (DE_ixT (DE_var 0) DE_int))) Ret.rt)
  | exit e =>
    refine DSs_cons (DS_if (DW.dt (DW_or (DT_not (DT_isi (T' := "tuple") (t := true) (G.free "isinstance") (G.free "tuple") (DE_var 0))) fun _ => DW_or (DT_eqI (DE_len (G.free "len") (DE_var 0) .tu) DE_int) fun _ => DW_or1 (DT_not (DT_isi (T' := "str") (t := true) (G.free "isinstance") (G.free "str") (DE_ixT (DE_var 0) DE_int))))) (fun c => absurd c (by exact Bool.false_ne_true)) fun _ => ?_)
    refine DSs_nil ?_
    refine DSs_cons (DS_if (DT_neI (DE_len (G.free "len") (DE_var 0) .tu) (DE_kget K (G.glo "LENGTHS") (G.len_at (q := ("exit", .int 2)) (by simp)) (DE_ixT (DE_var 0) DE_int) DE_int)) (fun c => absurd c (by exact Bool.false_ne_true)) fun _ => ?_)
    refine DSs_nil ?_
    refine DSs_cons (DS_if (DT_eqS (DE_ixT (DE_var 0) DE_int) DE_str) (fun _ => ?_) fun h => absurd h (by decide))
    exact DSs_cons (DS_ret (DE_call (c_is_integer_graphs G) R (DA_cons (DE_ixT (DE_var 0) DE_int) DA_nil) ⟨rfl, _, rfl, rfl, rfl⟩) Ret.rt)
  | reward a t =>
    refine DSs_cons (DS_if (DW.dt (DW_or (DT_not (DT_isi (T' := "tuple") (t := true) (G.free "isinstance") (G.free "tuple") (DE_var 0))) fun _ => DW_or (DT_eqI (DE_len (G.free "len") (DE_var 0) .tu) DE_int) fun _ => DW_or1 (DT_not (DT_isi (T' := "str") (t := true) (G.free "isinstance") (G.free "str") (DE_ixT (DE_var 0) DE_int))))) (fun c => absurd c (by exact Bool.false_ne_true)) fun _ => ?_)
    refine DSs_nil ?_
    refine DSs_cons (DS_if (DT_neI (DE_len (G.free "len") (DE_var 0) .tu) (DE_kget K (G.glo "LENGTHS") (G.len_at (q := ("reward", .int 3)) (by simp)) (DE_ixT (DE_var 0) DE_int) DE_int)) (fun c => absurd c (by exact Bool.false_ne_true)) fun _ => ?_)
    refine DSs_nil ?_
    refine DSs_cons (DS_if (DT_eqS (DE_ixT (DE_var 0) DE_int) DE_str) (fun h => absurd h (by decide)) fun _ => ?_)
    refine DSs_nil ?_
    refine DSs_cons (DS_if (DT_eqS (DE_ixT (DE_var 0) DE_int) DE_str) (fun h => absurd h (by decide)) fun _ => ?_)
    refine DSs_nil ?_
    refine DSs_cons (DS_if (DT_eqS (DE_ixT (DE_var 0) DE_int) DE_str) (fun h => absurd h (by decide)) fun _ => ?_)
    refine DSs_nil ?_
    refine DSs_cons (DS_if (DT_eqS (DE_ixT (DE_var 0) DE_int) DE_str) (fun h => absurd h (by decide)) fun _ => ?_)
    refine DSs_nil ?_
    exact DSs_cons (DS_ret DE_bl Ret.rt)
  | reject =>
    refine DSs_cons (DS_if (DW.dt (DW_or (DT_not (DT_isi (T' := "tuple") (t := true) (G.free "isinstance") (G.free "tuple") (DE_var 0))) fun _ => DW_or (DT_eqI (DE_len (G.free "len") (DE_var 0) .tu) DE_int) fun _ => DW_or1 (DT_not (DT_isi (T' := "str") (t := true) (G.free "isinstance") (G.free "str") (DE_ixT (DE_var 0) DE_int))))) (fun c => absurd c (by exact Bool.false_ne_true)) fun _ => ?_)
    refine DSs_nil ?_
    refine DSs_cons (DS_if (DT_neI (DE_len (G.free "len") (DE_var 0) .tu) (DE_kget K (G.glo "LENGTHS") (G.len_at (q := ("reject", .int 1)) (by simp)) (DE_ixT (DE_var 0) DE_int) DE_int)) (fun c => absurd c (by exact Bool.false_ne_true)) fun _ => ?_)
    refine DSs_nil ?_
    refine DSs_cons (DS_if (DT_eqS (DE_ixT (DE_var 0) DE_int) DE_str) (fun h => absurd h (by decide)) fun _ => ?_)
    refine DSs_nil ?_
    refine DSs_cons (DS_if (DT_eqS (DE_ixT (DE_var 0) DE_int) DE_str) (fun h => absurd h (by decide)) fun _ => ?_)
    refine DSs_nil ?_
    refine DSs_cons (DS_if (DT_eqS (DE_ixT (DE_var 0) DE_int) DE_str) (fun h => absurd h (by decide)) fun _ => ?_)
    refine DSs_nil ?_
    refine DSs_cons (DS_if (DT_eqS (DE_ixT (DE_var 0) DE_int) DE_str) (fun h => absurd h (by decide)) fun _ => ?_)
    refine DSs_nil ?_
    exact DSs_cons (DS_ret DE_bl Ret.rt)
  | stop =>
    refine DSs_cons (DS_if (DW.dt (DW_or (DT_not (DT_isi (T' := "tuple") (t := true) (G.free "isinstance") (G.free "tuple") (DE_var 0))) fun _ => DW_or (DT_eqI (DE_len (G.free "len") (DE_var 0) .tu) DE_int) fun _ => DW_or1 (DT_not (DT_isi (T' := "str") (t := true) (G.free "isinstance") (G.free "str") (DE_ixT (DE_var 0) DE_int))))) (fun c => absurd c (by exact Bool.false_ne_true)) fun _ => ?_)
    refine DSs_nil ?_
    refine DSs_cons (DS_if (DT_neI (DE_len (G.free "len") (DE_var 0) .tu) (DE_kget K (G.glo "LENGTHS") (G.len_at (q := ("stop", .int 1)) (by simp)) (DE_ixT (DE_var 0) DE_int) DE_int)) (fun c => absurd c (by exact Bool.false_ne_true)) fun _ => ?_)
    refine DSs_nil ?_
    refine DSs_cons (DS_if (DT_eqS (DE_ixT (DE_var 0) DE_int) DE_str) (fun h => absurd h (by decide)) fun _ => ?_)
    refine DSs_nil ?_
    refine DSs_cons (DS_if (DT_eqS (DE_ixT (DE_var 0) DE_int) DE_str) (fun h => absurd h (by decide)) fun _ => ?_)
    refine DSs_nil ?_
    refine DSs_cons (DS_if (DT_eqS (DE_ixT (DE_var 0) DE_int) DE_str) (fun h => absurd h (by decide)) fun _ => ?_)
    refine DSs_nil ?_
    refine DSs_cons (DS_if (DT_eqS (DE_ixT (DE_var 0) DE_int) DE_str) (fun h => absurd h (by decide)) fun _ => ?_)
    refine DSs_nil ?_
    exact DSs_cons (DS_ret DE_bl Ret.rt)
end Od
namespace Od
open PySem PySem.Spec PyProof.Rows L2
def okCh (q : Rat) : Bool := decide (0 < q.num) && decide (q.den ≤ 60) && decide (q.num ≤ 60)
theorem menu_ch : ∀ row ∈ menu, ∀ q ∈ row, okCh q = true := by decide +kernel
def smB (q : Rat) : Bool := decide (q.num.natAbs < 2 ^ 20) && decide (q.den < 2 ^ 20)
theorem smB_sm {q : Rat} (h : smB q = true) : Sm q := by
  unfold smB at h
  rw [Bool.and_eq_true] at h
  have h1 : q.num.natAbs < 2 ^ 20 := of_decide_eq_true h.1
  have h2 : q.den < 2 ^ 20 := of_decide_eq_true h.2
  have : 2 ^ 20 ≤ 2 ^ 4400 := Nat.pow_le_pow_right (by decide) (by decide)
  exact ⟨by omega, by omega⟩
def sumL (l : List Rat) : Rat := l.foldl (· + ·) 0
theorem menu_sum : ∀ row ∈ menu, sumL row = 1 ∧ 1 ≤ row.length ∧ row.length ≤ 4 ∧ ∀ k ∈ List.range 5, smB (sumL (row.take k)) = true := by decide +kernel
def spChance : Dsp := fun ds μ d μ' => ds.length = 1 ∧ ∃ q : Rat, ds = [qD q] ∧ 0 < q.num ∧ q.den ≤ 60 ∧ d = .bl true ∧ μ = μ'
abbrev n_is_chance : List Str := ["value"]
theorem sc_is_chance : FnScope n_is_chance ["value"] d_is_chance.scope := ⟨rfl, rfl, rfl, by decide +kernel, rfl, by decide +kernel, by decide +kernel⟩
theorem c_is_chance {g : Gv} (G : Gd g) : Ctr g 3 "is_chance" (spD g.K spChance) := by
  obtain ⟨fd, F⟩ := G.def_ 10 (d := d_is_chance) rfl
  refine ⟨_, G.glo "is_chance", F.kp, fn_of_body F sc_is_chance (F.bindsN fun _ _ _ _ _ _ us hl => match us, hl with | [_], _ => rfl) (fun _ _ _ _ h => h.1) fun l ds μ d μ' R h => ?_⟩
  obtain ⟨-, h⟩ := h
  have nd := sc_is_chance.nd
  obtain ⟨q, rfl, h0, h1, rfl, rfl⟩ := h
  refine DSs_cons (DS_ret (DE_and (DE_call (c_is_rational G) R (DA_cons (DE_var 0) DA_nil) ⟨rfl, _, rfl, rfl, rfl⟩) fun _ => DE_and (DE_gtI (DE_ixT (DE_var 0) DE_int) DE_int) fun _ => DE_one (DE_leI (DE_ixT (DE_var 0) DE_int) (DE_gint (G.intc "MOST_DENOMINATOR" 60)))) ?_)
  rw [decide_eq_true h0, decide_eq_true (show (q.den : Int) ≤ 60 by omega)]
  exact Ret.rt
def spAmount : Dsp := fun ds μ d μ' => ds.length = 1 ∧ ∃ q : Rat, ds = [qD q] ∧ 0 ≤ q.num ∧ q.num ≤ 1000 ∧ q.den ≤ 12 ∧ d = .bl true ∧ μ = μ'
abbrev n_is_amount : List Str := ["value"]
theorem sc_is_amount : FnScope n_is_amount ["value"] d_is_amount.scope := ⟨rfl, rfl, rfl, by decide +kernel, rfl, by decide +kernel, by decide +kernel⟩
theorem c_is_amount {g : Gv} (G : Gd g) : Ctr g 3 "is_amount" (spD g.K spAmount) := by
  obtain ⟨fd, F⟩ := G.def_ 11 (d := d_is_amount) rfl
  refine ⟨_, G.glo "is_amount", F.kp, fn_of_body F sc_is_amount (F.bindsN fun _ _ _ _ _ _ us hl => match us, hl with | [_], _ => rfl) (fun _ _ _ _ h => h.1) fun l ds μ d μ' R h => ?_⟩
  obtain ⟨-, h⟩ := h
  have nd := sc_is_amount.nd
  obtain ⟨q, rfl, h0, h1, h2, rfl, rfl⟩ := h
  refine DSs_cons (DS_ret (DE_and (DE_call (c_is_rational G) R (DA_cons (DE_var 0) DA_nil) ⟨rfl, _, rfl, rfl, rfl⟩) fun _ => DE_and (DE_chain op_le op_le DE_int (DE_ixT (DE_var 0) DE_int) (DE_gint (G.intc "MOST_AMOUNT" 1000))) fun _ => DE_one (DE_leI (DE_ixT (DE_var 0) DE_int) (DE_gint (G.intc "MOST_AMOUNT_DENOMINATOR" 12)))) ?_)
  rw [decide_eq_true h0, decide_eq_true h1, decide_eq_true (show (q.den : Int) ≤ 12 by omega)]
  exact Ret.rt
theorem sumL_take {l : List Rat} {k : Nat} {x : Rat} (h : l[k]? = some x) : sumL (l.take (k + 1)) = sumL (l.take k) + x := by
  rw [take_get h]
  unfold sumL
  rw [List.foldl_append]; rfl
def spDrawP : Dsp := fun ds μ d μ' => ds.length = 2 ∧ ∃ (bs : List (Rat × Int)) (m : Int), ds = [.tup (bs.map brD), .int m] ∧ bs.map (·.1) ∈ menu ∧ (∀ b ∈ bs, 0 ≤ b.2 ∧ b.2 < m) ∧ d = .non ∧ μ = μ'
theorem py_pD (a b : Int) : py (pD a b) = some (.tuple [.int a, .int b]) := rfl
abbrev n_draw_problem : List Str := ["branches", "many", "total", "chance", "point"]
theorem sc_draw_problem : FnScope n_draw_problem ["branches", "many"] d_draw_problem.scope := ⟨rfl, rfl, rfl, by decide +kernel, rfl, by decide +kernel, by decide +kernel⟩
theorem c_draw_problem {g : Gv} (G : Gd g) : Ctr g 4 "draw_problem" (spD g.K spDrawP) := by
  obtain ⟨fd, F⟩ := G.def_ 12 (d := d_draw_problem) rfl
  refine ⟨_, G.glo "draw_problem", F.kp, fn_of_body F sc_draw_problem (F.bindsN fun _ _ _ _ _ _ us hl => match us, hl with | [_, _], _ => rfl) (fun _ _ _ _ h => h.1) fun l ds μ d μ' R h => ?_⟩
  obtain ⟨-, h⟩ := h
  have nd := sc_draw_problem.nd
  obtain ⟨bs, m, rfl, hm, hb, rfl, rfl⟩ := h
  obtain ⟨s1, s2, s3, s4⟩ := menu_sum _ hm
  rw [List.length_map] at s2 s3
  have hc := menu_ch _ hm
  have hu : (cX g l n_draw_problem d_draw_problem.scope).A.units + 64 < cLine := R.units
  refine DSs_cons (DS_if (DT_not (DT_chain op_le op_le DE_int (DE_len (G.free "len") (DE_var 0) .tu) (DE_gint (G.intc "MOST_BRANCHES" 4)))) (fun c => ?_) fun _ => ?_)
  · rw [List.length_map, decide_eq_true (show (1 : Int) ≤ (bs.length : Nat) by omega), decide_eq_true (show ((bs.length : Nat) : Int) ≤ 4 by omega)] at c
    exact absurd c (by decide)
  refine DSs_nil ?_
  refine DSs_cons (DS_set 2 (DE_tup (DA_cons DE_int (DA_cons DE_int DA_nil))) ?_ nd)
  refine DSs_cons (DS_for (DI_tup (DE_var 0)) (fun k ρ μ' => ∃ x3 x4, ρ = [some (.tup (bs.map brD)), some (.int m), some (qD (sumL ((bs.map (·.1)).take k))), x3, x4] ∧ μ' = μ) ⟨_, _, rfl, rfl⟩ (fun _ _ _ _ => trivial) ?_ ?_)
  · rintro k d ρ μ' hi ⟨x3, x4, rfl, rfl⟩
    rw [List.getElem?_map] at hi
    cases hx : bs[k]? with
    | none => rw [hx] at hi; cases hi
    | some b =>
      rw [hx] at hi; cases hi
      have hbm := List.mem_of_getElem? hx
      have hk := (List.getElem?_eq_some_iff.mp hx).1
      have hq := hc b.1 (List.mem_map_of_mem hbm)
      have hx1 : (bs.map (·.1))[k]? = some b.1 := by rw [List.getElem?_map, hx]; rfl
      unfold okCh at hq
      simp only [Bool.and_eq_true, decide_eq_true_eq] at hq
      refine ⟨_, _, DG_tup (DGs_cons (DG_name 3 nd) (DGs_cons (DG_name 4 nd) DGs_nil)), ?_⟩
      refine DSs_cons (DS_if (DT_not (DT_val (DE_call (c_is_chance G) R (DA_cons (DE_var 3) DA_nil) ⟨rfl, _, rfl, hq.1.1, hq.1.2, rfl, rfl⟩))) (fun c => absurd c (by decide)) fun _ => ?_)
      refine DSs_nil ?_
      refine DSs_cons (DS_if (DT_not (DT_val (DE_call (c_is_index G) R (DA_cons (DE_var 4) (DA_cons (DE_var 1) DA_nil)) ⟨rfl, _, _, rfl, (hb b hbm).1, (hb b hbm).2, rfl, rfl⟩))) (fun c => absurd c (by decide)) fun _ => ?_)
      refine DSs_nil ?_
      refine DSs_cons (DS_set 2 (DE_call (c_plus G) R (DA_cons (DE_var 2) (DA_cons (DE_var 3) DA_nil)) ⟨rfl, _, _, rfl, smB_sm (s4 k (List.mem_range.mpr (by omega))), ?_, rfl, rfl⟩) ?_ nd)
      · refine smB_sm ?_
        unfold smB
        rw [Bool.and_eq_true, decide_eq_true_eq, decide_eq_true_eq]
        omega
      · refine DSs_nil ⟨some (qD b.1), some (.int b.2), ?_, rfl⟩
        rw [sumL_take hx1]
        rfl
  · rintro ρ μ' ⟨x3, x4, rfl, rfl⟩
    rw [List.take_of_length_le (by simp), s1]
    refine DSs_cons (DS_ret (DE_ifExp (b1 := true) (DT_cmp (op_eqD hu) (vEqD (p := .tuple [.int 1, .int 1]) (q := .tuple [.int 1, .int 1]) rfl rfl (by decide) (by decide)) (DE_var 2) (DE_tup (DA_cons DE_int (DA_cons DE_int DA_nil)))) (fun _ => DE_non) fun h => nomatch h) Ret.rt)
def spPts : Dsp := fun ds μ d μ' => ds.length = 2 ∧ ∃ (gs : List Int) (m : Int), ds = [.tup (gs.map .int), .int m] ∧ (∀ b ∈ gs, 0 ≤ b ∧ b < m) ∧ d = .non ∧ μ = μ'
abbrev n_points_problem : List Str := ["points", "many", "point"]
theorem sc_points_problem : FnScope n_points_problem ["points", "many"] d_points_problem.scope := ⟨rfl, rfl, rfl, by decide +kernel, rfl, by decide +kernel, by decide +kernel⟩
theorem c_points_problem {g : Gv} (G : Gd g) : Ctr g 3 "points_problem" (spD g.K spPts) := by
  obtain ⟨fd, F⟩ := G.def_ 13 (d := d_points_problem) rfl
  refine ⟨_, G.glo "points_problem", F.kp, fn_of_body F sc_points_problem (F.bindsN fun _ _ _ _ _ _ us hl => match us, hl with | [_, _], _ => rfl) (fun _ _ _ _ h => h.1) fun l ds μ d μ' R h => ?_⟩
  obtain ⟨-, h⟩ := h
  have nd := sc_points_problem.nd
  obtain ⟨gs, m, rfl, hb, rfl, rfl⟩ := h
  refine DSs_cons (DS_if (DT_val (DE_all_ (bs := gs.map fun _ => true) (G.free "all") (DN.de (lcF [("point", 2)] gs .int (fun _ => .bl true) (DI_tup (DE_var 0)) rfl (fun _ _ => trivial) (fun x hx a l => ⟨_, _, fun s0 H0 Cc cl fp => DG_name 2 nd, by decide, fun s0 H0 Cc cl fp => DE_call (c_is_index G) R (DA_cons (DE_var 2) (DA_cons (DE_var 1) DA_nil)) ⟨rfl, _, _, rfl, (hb x hx).1, (hb x hx).2, rfl, rfl⟩⟩) nd (congrArg D.lst (all_map gs)))))) (fun _ => ?_) fun c => ?_)
  · exact DSs_cons (DS_ret DE_non Ret.rt)
  · rw [all_true gs] at c
    exact absurd c (by decide)
def spPointP : Dsp := fun ds μ d μ' => ds.length = 3 ∧ ∃ (ps : List Proc) (q : Proc) (t : Pt), ds = [procsD ps, procD q, ptD t] ∧ okPt ps q t ∧ d = .non ∧ μ = μ'
abbrev n_point_problem : List Str := ["procedures", "procedure", "point", "many", "word"]
theorem sc_point_problem : FnScope n_point_problem ["procedures", "procedure", "point"] d_point_problem.scope := ⟨rfl, rfl, rfl, by decide +kernel, rfl, by decide +kernel, by decide +kernel⟩
theorem c_point_problem {g : Gv} (G : Gd g) : Ctr g 5 "point_problem" (spD g.K spPointP) := by
  obtain ⟨fd, F⟩ := G.def_ 14 (d := d_point_problem) rfl
  refine ⟨_, G.glo "point_problem", F.kp, fn_of_body F sc_point_problem (F.bindsN fun _ _ _ _ _ _ us hl => match us, hl with | [_, _, _], _ => rfl) (fun _ _ _ _ h => h.1) fun l ds μ d μ' R h => ?_⟩
  obtain ⟨-, h⟩ := h
  have nd := sc_point_problem.nd
  obtain ⟨ps, q, t, rfl, ok, rfl, rfl⟩ := h
  have ml : D.int (((q.2.map ptD).length : Nat) : Int) = .int ((q.2.length : Nat) : Int) := by rw [List.length_map]
  refine DSs_cons (DS_set 3 (DE.eq (DE_len (G.free "len") (DE_ixT (DE_var 1) DE_int) .tu) ml) ?_ nd)
  cases t with
  | draw bs =>
    refine DSs_cons (DS_if (DT_not (DT_val (DE_call (c_has_form G) R (DA_cons (DE_var 2) DA_nil) ⟨rfl, .draw bs, rfl, rfl, rfl⟩))) (fun c => absurd c (by decide)) fun _ => ?_)
    refine DSs_nil ?_
    refine DSs_cons (DS_set 4 (DE_ixT (DE_var 2) DE_int) ?_ nd)
    refine DSs_cons (DS_if (DT_eqS (DE_var 4) DE_str) (fun h => absurd h (by decide)) fun _ => ?_)
    refine DSs_nil ?_
    refine DSs_cons (DS_if (DT_eqS (DE_var 4) DE_str) (fun _ => ?_) fun h => absurd h (by decide))
    exact DSs_cons (DS_ret (DE_call (c_draw_problem G) R (DA_cons (DE_ixT (DE_var 2) DE_int) (DA_cons (DE_var 3) DA_nil)) ⟨rfl, _, _, rfl, ok.1, ok.2, rfl, rfl⟩) Ret.rt)
  | call r gs =>
    obtain ⟨r1, r2, r3, r4⟩ := ok
    have ixr := atI_at (f := procD) r1 (prAt_at r1 r2)
    refine DSs_cons (DS_if (DT_not (DT_val (DE_call (c_has_form G) R (DA_cons (DE_var 2) DA_nil) ⟨rfl, .call r gs, rfl, rfl, rfl⟩))) (fun c => absurd c (by decide)) fun _ => ?_)
    refine DSs_nil ?_
    refine DSs_cons (DS_set 4 (DE_ixT (DE_var 2) DE_int) ?_ nd)
    refine DSs_cons (DS_if (DT_eqS (DE_var 4) DE_str) (fun h => absurd h (by decide)) fun _ => ?_)
    refine DSs_nil ?_
    refine DSs_cons (DS_if (DT_eqS (DE_var 4) DE_str) (fun h => absurd h (by decide)) fun _ => ?_)
    refine DSs_nil ?_
    refine DSs_cons (DS_if (DT_eqS (DE_var 4) DE_str) (fun h => absurd h (by decide)) fun _ => ?_)
    refine DSs_nil ?_
    refine DSs_cons (DS_if (DT_eqS (DE_var 4) DE_str) (fun _ => ?_) fun h => absurd h (by decide))
    refine DSs_cons (DS_if (DT_not (DT_val (DE_call (c_is_index G) R (DA_cons (DE_ixT (DE_var 2) DE_int) (DA_cons (DE.eq (DE_len (G.free "len") (DE_var 0) .tu) (by rw [List.length_map])) DA_nil)) ⟨rfl, r, ps.length, rfl, r1, r2, rfl, rfl⟩))) (fun c => absurd c (by decide)) fun _ => ?_)
    refine DSs_nil ?_
    refine DSs_cons (DS_if (DT_neI (DE_len (G.free "len") (DE_ixT (DE_var 2) DE_int) .tu) (DE_ixT (DE_ixT (DE_var 0) (DE_ixT (DE_var 2) DE_int) ixr) DE_int)) (fun c => ?_) fun _ => ?_)
    · rw [List.length_map, decide_eq_true r3] at c
      exact absurd c (by decide)
    refine DSs_nil ?_
    exact DSs_cons (DS_ret (DE_call (c_points_problem G) R (DA_cons (DE_ixT (DE_var 2) DE_int) (DA_cons (DE_var 3) DA_nil)) ⟨rfl, gs, _, rfl, r4, rfl, rfl⟩) Ret.rt)
  | exit e =>
    refine DSs_cons (DS_if (DT_not (DT_val (DE_call (c_has_form G) R (DA_cons (DE_var 2) DA_nil) ⟨rfl, .exit e, rfl, rfl, rfl⟩))) (fun c => absurd c (by decide)) fun _ => ?_)
    refine DSs_nil ?_
    refine DSs_cons (DS_set 4 (DE_ixT (DE_var 2) DE_int) ?_ nd)
    refine DSs_cons (DS_if (DT_eqS (DE_var 4) DE_str) (fun _ => ?_) fun h => absurd h (by decide))
    exact DSs_cons (DS_ret (DE_ifExp (DT_val (DE_call (c_is_index G) R (DA_cons (DE_ixT (DE_var 2) DE_int) (DA_cons (DE_ixT (DE_var 1) DE_int) DA_nil)) ⟨rfl, _, _, rfl, ok.1, ok.2, rfl, rfl⟩)) (fun _ => DE_non) fun h => nomatch h) Ret.rt)
  | reward a t =>
    obtain ⟨a1, a2, a3, a4, a5⟩ := ok
    refine DSs_cons (DS_if (DT_not (DT_val (DE_call (c_has_form G) R (DA_cons (DE_var 2) DA_nil) ⟨rfl, .reward a t, rfl, rfl, rfl⟩))) (fun c => absurd c (by decide)) fun _ => ?_)
    refine DSs_nil ?_
    refine DSs_cons (DS_set 4 (DE_ixT (DE_var 2) DE_int) ?_ nd)
    refine DSs_cons (DS_if (DT_eqS (DE_var 4) DE_str) (fun h => absurd h (by decide)) fun _ => ?_)
    refine DSs_nil ?_
    refine DSs_cons (DS_if (DT_eqS (DE_var 4) DE_str) (fun h => absurd h (by decide)) fun _ => ?_)
    refine DSs_nil ?_
    refine DSs_cons (DS_if (DT_eqS (DE_var 4) DE_str) (fun h => absurd h (by decide)) fun _ => ?_)
    refine DSs_nil ?_
    refine DSs_cons (DS_if (DT_eqS (DE_var 4) DE_str) (fun h => absurd h (by decide)) fun _ => ?_)
    refine DSs_nil ?_
    refine DSs_cons (DS_if (DT_eqS (DE_var 4) DE_str) (fun _ => ?_) fun h => absurd h (by decide))
    exact DSs_cons (DS_ret (DE_ifExp (DT_val (DE_call (c_is_amount G) R (DA_cons (DE_ixT (DE_var 2) DE_int) DA_nil) ⟨rfl, _, rfl, a1, by omega, a3, rfl, rfl⟩)) (fun _ => DE_call (c_points_problem G) R (DA_cons (DE_tup (DA_cons (DE_ixT (DE_var 2) DE_int) DA_nil)) (DA_cons (DE_var 3) DA_nil)) ⟨rfl, [t], _, rfl, by intro b hb; rw [List.mem_singleton] at hb; omega, rfl, rfl⟩) fun h => nomatch h) Ret.rt)
  | reject =>
    refine DSs_cons (DS_if (DT_not (DT_val (DE_call (c_has_form G) R (DA_cons (DE_var 2) DA_nil) ⟨rfl, .reject, rfl, rfl, rfl⟩))) (fun c => absurd c (by decide)) fun _ => ?_)
    refine DSs_nil ?_
    refine DSs_cons (DS_set 4 (DE_ixT (DE_var 2) DE_int) ?_ nd)
    refine DSs_cons (DS_if (DT_eqS (DE_var 4) DE_str) (fun h => absurd h (by decide)) fun _ => ?_)
    refine DSs_nil ?_
    refine DSs_cons (DS_if (DT_eqS (DE_var 4) DE_str) (fun h => absurd h (by decide)) fun _ => ?_)
    refine DSs_nil ?_
    refine DSs_cons (DS_if (DT_eqS (DE_var 4) DE_str) (fun h => absurd h (by decide)) fun _ => ?_)
    refine DSs_nil ?_
    refine DSs_cons (DS_if (DT_eqS (DE_var 4) DE_str) (fun h => absurd h (by decide)) fun _ => ?_)
    refine DSs_nil ?_
    refine DSs_cons (DS_if (DT_eqS (DE_var 4) DE_str) (fun h => absurd h (by decide)) fun _ => ?_)
    refine DSs_nil ?_
    exact DSs_cons (DS_ret DE_non Ret.rt)
  | stop =>
    refine DSs_cons (DS_if (DT_not (DT_val (DE_call (c_has_form G) R (DA_cons (DE_var 2) DA_nil) ⟨rfl, .stop, rfl, rfl, rfl⟩))) (fun c => absurd c (by decide)) fun _ => ?_)
    refine DSs_nil ?_
    refine DSs_cons (DS_set 4 (DE_ixT (DE_var 2) DE_int) ?_ nd)
    refine DSs_cons (DS_if (DT_eqS (DE_var 4) DE_str) (fun h => absurd h (by decide)) fun _ => ?_)
    refine DSs_nil ?_
    refine DSs_cons (DS_if (DT_eqS (DE_var 4) DE_str) (fun h => absurd h (by decide)) fun _ => ?_)
    refine DSs_nil ?_
    refine DSs_cons (DS_if (DT_eqS (DE_var 4) DE_str) (fun h => absurd h (by decide)) fun _ => ?_)
    refine DSs_nil ?_
    refine DSs_cons (DS_if (DT_eqS (DE_var 4) DE_str) (fun h => absurd h (by decide)) fun _ => ?_)
    refine DSs_nil ?_
    refine DSs_cons (DS_if (DT_eqS (DE_var 4) DE_str) (fun h => absurd h (by decide)) fun _ => ?_)
    refine DSs_nil ?_
    exact DSs_cons (DS_ret DE_non Ret.rt)
def spCheckP : Dsp := fun ds μ d μ' => ds.length = 2 ∧ ∃ (k : Int) (q : Proc), ds = [.int k, procD q] ∧ 0 ≤ q.1 ∧ q.1 ≤ 3 ∧ 1 ≤ q.2.length ∧ q.2.length ≤ 16 ∧ d = .non ∧ μ = μ'
abbrev n_check_procedure : List Str := ["at", "procedure"]
theorem sc_check_procedure : FnScope n_check_procedure ["at", "procedure"] d_check_procedure.scope := ⟨rfl, rfl, rfl, by decide +kernel, rfl, by decide +kernel, by decide +kernel⟩
theorem c_check_procedure {g : Gv} (G : Gd g) : Ctr g 2 "check_procedure" (spD g.K spCheckP) := by
  obtain ⟨fd, F⟩ := G.def_ 15 (d := d_check_procedure) rfl
  refine ⟨_, G.glo "check_procedure", F.kp, fn_of_body F sc_check_procedure (F.bindsN fun _ _ _ _ _ _ us hl => match us, hl with | [_, _], _ => rfl) (fun _ _ _ _ h => h.1) fun l ds μ d μ' R h => ?_⟩
  obtain ⟨-, h⟩ := h
  have nd := sc_check_procedure.nd
  obtain ⟨k, q, rfl, h0, h1, h2, h3, rfl, rfl⟩ := h
  refine DSs_cons (DS_if (DW.dt (DW_or (DT_not (DT_isi (T' := "tuple") (t := true) (G.free "isinstance") (G.free "tuple") (DE_var 1))) fun _ => DW_or1 (DT_neI (DE_len (G.free "len") (DE_var 1) .tu) DE_int))) (fun c => absurd c (by exact Bool.false_ne_true)) fun _ => ?_)
  refine DSs_nil ?_
  refine DSs_cons (DS_if (DW.dt (DW_or (DT_not (DT_val (DE_call (c_is_integer_graphs G) R (DA_cons (DE_ixT (DE_var 1) DE_int) DA_nil) ⟨rfl, _, rfl, rfl, rfl⟩))) fun _ => DW_or1 (DT_not (DT_isi (T' := "tuple") (t := true) (G.free "isinstance") (G.free "tuple") (DE_ixT (DE_var 1) DE_int))))) (fun c => absurd c (by exact Bool.false_ne_true)) fun _ => ?_)
  refine DSs_nil ?_
  refine DSs_cons (DS_if (DT_not (DT_chain op_le op_le DE_int (DE_ixT (DE_var 1) DE_int) (DE_gint (G.intc "MOST_EXITS" 3)))) (fun c => ?_) fun _ => ?_)
  · rw [decide_eq_true h0, decide_eq_true h1] at c
    exact absurd c (by decide)
  refine DSs_nil ?_
  refine DSs_cons (DS_if (DT_not (DT_chain op_le op_le DE_int (DE_len (G.free "len") (DE_ixT (DE_var 1) DE_int) .tu) (DE_gint (G.intc "MOST_POINTS" 16)))) (fun c => ?_) fun _ => ?_)
  · rw [List.length_map, decide_eq_true (show (1 : Int) ≤ (q.2.length : Nat) by omega), decide_eq_true (show ((q.2.length : Nat) : Int) ≤ 16 by omega)] at c
    exact absurd c (by decide)
  refine DSs_nil ?_
  exact DSs_nil Ret.nx
end Od
namespace Od
open PySem PySem.Spec PyProof.Rows L2
def sumN (l : List Nat) : Nat := l.foldr (· + ·) 0
def spCheckPs : Dsp := fun ds μ d μ' => ds.length = 1 ∧ ∃ ps, ds = [procsD ps] ∧ GoodP ps ∧ d = .non ∧ μ = μ'
theorem sum_le {l : List Int} {b : Int} (h : ∀ x ∈ l, x ≤ b) (h0 : 0 ≤ b) : l.sum ≤ l.length * b := by
  induction l with
  | nil => simp
  | cons x l ih =>
    have h1 := h x (by simp)
    have h2 := ih fun y hy => h y (by simp [hy])
    rw [List.sum_cons, List.length_cons, Int.natCast_succ, Int.add_mul]
    omega
abbrev n_check_procedures : List Str := ["procedures", "at", "procedure", "i", "point", "problem"]
theorem sc_check_procedures : FnScope n_check_procedures ["procedures"] d_check_procedures.scope := ⟨rfl, rfl, rfl, by decide +kernel, rfl, by decide +kernel, by decide +kernel⟩
theorem c_check_procedures {g : Gv} (G : Gd g) : Ctr g 6 "check_procedures" (spD g.K spCheckPs) := by
  obtain ⟨fd, F⟩ := G.def_ 16 (d := d_check_procedures) rfl
  refine ⟨_, G.glo "check_procedures", F.kp, fn_of_body F sc_check_procedures (F.bindsN fun _ _ _ _ _ _ us hl => match us, hl with | [_], _ => rfl) (fun _ _ _ _ h => h.1) fun l ds μ d μ' R h => ?_⟩
  obtain ⟨-, h⟩ := h
  have nd := sc_check_procedures.nd
  obtain ⟨ps, rfl, G', rfl, rfl⟩ := h
  have hl := G'.len
  refine DSs_cons (DS_if (DT_not (DT_isi (T' := "tuple") (t := true) (G.free "isinstance") (G.free "tuple") (DE_var 0))) (fun c => absurd c (by decide)) fun _ => ?_)
  refine DSs_nil ?_
  refine DSs_cons (DS_if (DT_not (DT_chain op_le op_le DE_int (DE_len (G.free "len") (DE_var 0) .tu) (DE_gint (G.intc "MOST_PROCEDURES" 6)))) (fun c => ?_) fun _ => ?_)
  · rw [List.length_map, decide_eq_true (show (1 : Int) ≤ (ps.length : Nat) by omega), decide_eq_true (show ((ps.length : Nat) : Int) ≤ 6 by omega)] at c
    exact absurd c (by decide)
  refine DSs_nil ?_
  refine DSs_cons (DS_for (DI_enum (G.free "enumerate") (DE_var 0)) (fun k ρ μ' => ∃ x1 x2, ρ = [some (procsD ps), x1, x2, none, none, none] ∧ μ' = μ) ⟨_, _, rfl, rfl⟩ (fun _ _ _ _ => trivial) ?_ ?_)
  · rintro k d ρ μ' hi ⟨x1, x2, rfl, rfl⟩
    obtain ⟨u, v, h1, h2, rfl⟩ := pairs_get hi
    obtain ⟨rfl, _⟩ := rgD_get h1
    rw [List.getElem?_map] at h2
    cases hx : ps[k]? with
    | none => rw [hx] at h2; cases h2
    | some q =>
      rw [hx] at h2; cases h2
      obtain ⟨q1, q2, q3, q4, _⟩ := G'.each q (List.mem_of_getElem? hx)
      refine ⟨_, _, DG_tup (DGs_cons (DG_name 1 nd) (DGs_cons (DG_name 2 nd) DGs_nil)), ?_⟩
      refine DSs_cons (DS_expr (DE_call (c_check_procedure G) R (DA_cons (DE_var 1) (DA_cons (DE_var 2) DA_nil)) ⟨rfl, _, q, rfl, q1, by omega, by omega, by omega, rfl, rfl⟩) ?_)
      exact DSs_nil ⟨_, _, rfl, rfl⟩
  rintro ρ μ' ⟨x1, x2, rfl, rfl⟩
  refine DSs_cons (DS_if (DT_gtI (DE_sum (ns := ps.map fun q => ((q.2.length : Nat) : Int)) (G.free "sum") (DN.de (lcF [("procedure", 2)] ps procD (fun q => .int ((q.2.length : Nat) : Int)) (DI_tup (DE_var 0)) rfl (fun _ _ => trivial) (fun x hx a l => ⟨_, _, fun s0 H0 Cc cl fp => DG_name 2 nd, by decide, fun s0 H0 Cc cl fp => DE.eq (DE_len (G.free "len") (DE_ixT (DE_var 2) DE_int) .tu) (by rw [List.length_map])⟩) nd (by rw [List.map_map]; rfl)))) (DE_gint (G.intc "MOST_IN_ALL" 40))) (fun c => ?_) fun _ => ?_)
  · have := sum_le (l := ps.map fun q => ((q.2.length : Nat) : Int)) (b := 5) (fun x hx => by
      obtain ⟨q, hq, rfl⟩ := List.mem_map.mp hx
      have := (G'.each q hq).2.2.2.1
      omega) (by omega)
    rw [List.length_map] at this
    have c := of_decide_eq_true c
    omega
  refine DSs_nil ?_
  refine DSs_cons (DS_for (DI_enum (G.free "enumerate") (DE_var 0)) (fun k ρ μ2 => ∃ x1 x2 x3 x4 x5, ρ = [some (procsD ps), x1, x2, x3, x4, x5] ∧ μ2 = μ') ⟨_, _, _, _, _, rfl, rfl⟩ (fun _ _ _ _ => trivial) ?_ ?_)
  · rintro k d ρ μ' hi ⟨x1, x2, x3, x4, x5, rfl, rfl⟩
    obtain ⟨u, v, h1, h2, rfl⟩ := pairs_get hi
    obtain ⟨rfl, _⟩ := rgD_get h1
    rw [List.getElem?_map] at h2
    cases hx : ps[k]? with
    | none => rw [hx] at h2; cases h2
    | some q =>
      rw [hx] at h2; cases h2
      obtain ⟨q1, q2, q3, q4, q5⟩ := G'.each q (List.mem_of_getElem? hx)
      refine ⟨_, _, DG_tup (DGs_cons (DG_name 1 nd) (DGs_cons (DG_name 2 nd) DGs_nil)), ?_⟩
      refine DSs_cons (DS_for (DI_enum (G.free "enumerate") (DE_ixT (DE_var 2) DE_int)) (fun i ρ μ2 => ∃ x3 x4 x5, ρ = [some (procsD ps), some (.int k), some (procD q), x3, x4, x5] ∧ μ2 = μ') ⟨_, _, _, rfl, rfl⟩ (fun _ _ _ _ => trivial) ?_ ?_)
      · rintro i d ρ μ' hi ⟨x3, x4, x5, rfl, rfl⟩
        obtain ⟨u, v, h1, h2, rfl⟩ := pairs_get hi
        obtain ⟨rfl, _⟩ := rgD_get h1
        rw [List.getElem?_map] at h2
        cases hx : q.2[i]? with
        | none => rw [hx] at h2; cases h2
        | some t =>
          rw [hx] at h2; cases h2
          refine ⟨_, _, DG_tup (DGs_cons (DG_name 3 nd) (DGs_cons (DG_name 4 nd) DGs_nil)), ?_⟩
          refine DSs_cons (DS_set 5 (DE_call (c_point_problem G) R (DA_cons (DE_var 0) (DA_cons (DE_var 2) (DA_cons (DE_var 4) DA_nil))) ⟨rfl, ps, q, t, rfl, q5 t (List.mem_of_getElem? hx), rfl, rfl⟩) ?_ nd)
          refine DSs_cons (DS_if (DT_notN (DE_var 5)) (fun c => absurd c (by decide)) fun _ => ?_)
          refine DSs_nil ?_
          exact DSs_nil ⟨_, _, _, rfl, rfl⟩
      · rintro ρ μ' ⟨x3, x4, x5, rfl, rfl⟩
        exact DSs_nil ⟨_, _, _, _, _, rfl, rfl⟩
  · rintro ρ μ' ⟨x1, x2, x3, x4, x5, rfl, rfl⟩
    exact DSs_nil Ret.nx
end Od
namespace Od
open PySem PySem.Spec PyProof.Rows L2
mutual
def noG : D → Bool
  | .tup ds => noGs ds
  | .lst ds => noGs ds
  | .gtup ds => noGs ds
  | .dic ks => noGk ks
  | .grf _ _ => false
  | _ => true
def noGs : List D → Bool
  | [] => true
  | d :: ds => noG d && noGs ds
def noGk : List (List Int × D) → Bool
  | [] => true
  | (_, d) :: ks => noG d && noGk ks
end
/-- B' holds what B holds, but for one instance -/
structure Wi (B B' : Hp) : Prop where
  i : ∀ a u, B a = some u → (∀ C dx fs, u ≠ .ins C dx fs) → B' a = some u
theorem Wi.rd {B B' : Hp} (w : Wi B B') {a : Addr} {u : HO} (r : Rd B a u) (n : ∀ C dx fs, u ≠ .ins C dx fs) : Rd B' a u := by
  rcases r with r | ⟨o, r⟩
  · exact .inl (w.i _ _ r n)
  · exact .inr ⟨o, w.i _ _ r fun _ _ _ z => nomatch z⟩
section
variable {K : PySem.W.Frag} {B B' : Hp}
mutual
theorem Rep.wi (w : Wi B B') : ∀ (d : D) (v : V), noG d = true → Rep K B d v → Rep K B' d v
  | .non, _, _, h => h
  | .bl _, _, _, h => h
  | .int _, _, _, h => h
  | .str _, _, _, h => h
  | .tup ds, v, n, h => by
    obtain ⟨a, xs, e, hb, r⟩ := h
    exact ⟨a, xs, e, w.i _ _ hb (fun _ _ _ z => nomatch z), Reps.wi w ds xs n r⟩
  | .lst ds, v, n, h => by
    obtain ⟨a, xs, e, hb, r⟩ := h
    exact ⟨a, xs, e, w.i _ _ hb (fun _ _ _ z => nomatch z), Reps.wi w ds xs n r⟩
  | .dic ks, v, n, h => by
    obtain ⟨a, ws, e, hb, r⟩ := h
    exact ⟨a, ws, e, w.rd hb (fun _ _ _ z => nomatch z), RepK.wi w ks ws n r⟩
  | .gtup ds, v, n, h => by
    obtain ⟨a, xs, o, e, hb, hd, r⟩ := h
    exact ⟨a, xs, o, e, w.i _ _ hb (fun _ _ _ z => nomatch z), hd, Reps.wi w ds xs n r⟩
  | .ptr _, _, _, h => h
  | .any, _, _, h => h
  | .grf C d, v, n, _ => nomatch n
  | .slst ns, v, _, h => by
    obtain ⟨a, e, r⟩ := h
    refine ⟨a, e, ?_⟩
    rcases r with r | r
    · exact .inl (w.rd r fun _ _ _ z => nomatch z)
    · exact .inr r
theorem Reps.wi (w : Wi B B') : ∀ (ds : List D) (xs : List V), noGs ds = true → Reps K B ds xs → Reps K B' ds xs
  | [], _, _, h => h
  | d :: ds, xs, n, h => by
    obtain ⟨x, r, e, h1, h2⟩ := h
    rw [noGs, Bool.and_eq_true] at n
    exact ⟨x, r, e, Rep.wi w d x n.1 h1, Reps.wi w ds r n.2 h2⟩
theorem RepK.wi (w : Wi B B') : ∀ (ks : List (List Int × D)) (ws : List (List Key × V)), noGk ks = true → RepK K B ks ws → RepK K B' ks ws
  | [], _, _, h => h
  | (k, d) :: ks, ws, n, h => by
    obtain ⟨x, r, e, h1, h2⟩ := h
    rw [noGk, Bool.and_eq_true] at n
    exact ⟨x, r, e, Rep.wi w d x n.1 h1, RepK.wi w ks r n.2 h2⟩
end
theorem Own.wi (w : Wi B B') {H H' : Hp} {a : Addr} {d : D} (n : noG d = true) (h : Own K B H a d) (e : H' a = H a) : Own K B' H' a d := by
  cases d with
  | lst ds => obtain ⟨xs, h1, h2⟩ := h; exact ⟨xs, e.trans h1, Reps.wi w _ _ n h2⟩
  | dic ks => obtain ⟨ws, h1, h2⟩ := h; exact ⟨ws, e.trans h1, RepK.wi w _ _ n h2⟩
  | _ => exact h.elim
end
theorem noGs_map {α : Type} {f : α → D} (h : ∀ x, noG (f x) = true) : ∀ l : List α, noGs (l.map f) = true
  | [] => rfl
  | x :: l => by rw [List.map_cons, noGs, h x, noGs_map h l]; rfl
theorem noG_pt (t : Pt) : noG (ptD t) = true := by
  cases t with
  | draw bs =>
    show (true && ((noGs (bs.map brD)) && true)) = true
    rw [noGs_map fun _ => rfl]; rfl
  | call r gs =>
    show (true && (true && ((noGs (gs.map .int)) && true))) = true
    rw [noGs_map fun _ => rfl]; rfl
  | _ => rfl
theorem noG_procs (ps : List Proc) : noG (procsD ps) = true := noGs_map (fun q => by
  show (true && ((noGs (q.2.map ptD)) && true)) = true
  rw [noGs_map noG_pt]; rfl) ps
theorem noG_st (st : Stm) : noG (stD st) = true := by
  show ((noGs (st.sc.map .int)) && true) = true
  rw [noGs_map fun _ => rfl]; rfl
/-- Graph.__init__ -/
def spInit (K : PySem.W.Frag) (C : Addr) : Sp := fun vs H Q _ => ∃ (x dx : Addr) (y : V) (ps : List Proc) (B : Hp) (μ : Mu), vs = [.ref x, y] ∧ H x = some (.ins C dx []) ∧ B x = none ∧ (∀ p ∈ μ, p.1 ≠ x) ∧ Sat K B H μ ∧ Rep K B (procsD ps) y ∧ GoodP ps ∧ (∀ p ∈ μ, noG p.2 = true) ∧
  ∀ B' H', Inc B B' → B' x = none → Sat K B' H' μ → H' x = some (.ins C dx [("procedures", y)]) → Q .non H'
abbrev n_G_init : List Str := ["self", "procedures"]
theorem sc_G_init : FnScope n_G_init ["self", "procedures"] d_G_init.scope := ⟨rfl, rfl, rfl, by decide +kernel, rfl, by decide +kernel, by decide +kernel⟩
theorem c_G_init {g : Gv} (G : Gd g) : ∃ (f : Addr) (fd : FuncData) (ps : List Str), Mk g.K (He.ga g.K "Graph") f ∧ FnOk g.P g.w g.K g.mg g.base C8.CX0 7 f fd ps (spInit g.K (He.ga g.K "Graph")) ∧ KBn g.K fd ps 1 ["procedures"] (fun us ws => us ++ ws) (fun vs zs => vs ++ zs) := by
  obtain ⟨fd, F⟩ := G.def_ 17 (d := d_G_init) rfl
  have M : Mk g.K (He.ga g.K "Graph") (He.ma g.K (He.ga g.K "Graph") "__init__") := He.mkr_ok (G.d.fact 25 (f := .mkr "Graph") rfl)
  have cls : Cls g.K (He.ga g.K "Graph") := He.cls_ok (G.d.fact 24 (f := .cls "Graph") rfl)
  have noat : NoAttr g.K (He.ga g.K "Graph") "procedures" := He.noat_ok (G.d.fact 26 (f := .noat "Graph" "procedures") rfl)
  refine ⟨_, fd, ["self", "procedures"], M, F.ok sc_G_init (fun vs H Q E h => ?_) (fun cdv A outer s H vs Q E hr h => ?_), ⟨fun s us ws KI l1 l2 => ?_, fun r1 r2 => r1.append r2⟩⟩
  · obtain ⟨x, dx, y, ps, B, μ, rfl, _⟩ := h
    rfl
  · obtain ⟨x, dx, y, ps, B, μ, rfl, hx, hB, hμ, S, r, G', hno, k⟩ := h
    refine ⟨wSs (cX g ⟨_, _, cdv, A, outer, s, H, E⟩ n_G_init d_G_init.scope) d_G_init.body, PSs.nox pss_w, ?_⟩
    obtain ⟨fc, hm, kp, fdc, psc, Fc, hb⟩ := (c_check_procedures G).ex
    refine pssW (pss_cons (ps_expr (pe_call Fc hr rfl hm kp hb .nil (E := fun _ _ _ => True) C8.pass0 (pa_cons (pv 1) pa_nil))) (pss_one (ps_fld (pv 0) (pv 1) rfl))) ?_
    have i1 : Inc B (upd B x (.ins (He.ga g.K "Graph") dx [])) := Inc.new hB
    have S1 : Sat g.K (upd B x (.ins (He.ga g.K "Graph") dx [])) H μ := ⟨fun b u e => by
      by_cases hb : b = x
      · subst hb; rw [upd_same] at e; cases e; exact hx
      · rw [upd_ne hb] at e; exact S.sub _ _ e, S.nd, fun p hp => ⟨by rw [upd_ne (hμ p hp)]; exact (S.own p hp).1, (S.own p hp).2.inc i1 rfl⟩⟩
    refine ⟨y, rfl, ?_⟩
    refine ⟨_, [procsD ps], μ, .non, μ, S1, ⟨y, [], rfl, r.inc i1, rfl⟩, ⟨rfl, ps, rfl, G', rfl, rfl⟩, fun B' H' v i S' r' => ?_⟩
    have bx : B' x = some (.ins (He.ga g.K "Graph") dx []) := i _ _ upd_same
    refine ⟨y, rfl, .ref x, rfl, x, _, dx, [], rfl, S'.sub _ _ bx, cls, noat, by decide, ?_⟩
    show Q .non _
    have w : Wi B' (fun a => if a = x then none else B' a) := ⟨fun a u e n => by
      by_cases hb : a = x
      · subst hb; rw [bx] at e; cases e; exact absurd rfl (n _ _ _)
      · show (if a = x then none else B' a) = _
        rw [if_neg hb]; exact e⟩
    refine k (fun a => if a = x then none else B' a) _ (fun b u e => ?_) (by simp) ⟨fun b u e => ?_, S'.nd, fun p hp => ⟨?_, ?_⟩⟩ upd_same
    · have ne : b ≠ x := fun z => by subst z; rw [hB] at e; cases e
      show (if b = x then none else B' b) = _
      rw [if_neg ne]
      exact i _ _ (i1 _ _ e)
    · by_cases hb : b = x
      · simp [hb] at e
      · simp only [hb, if_false] at e
        rw [upd_ne hb]; exact S'.sub _ _ e
    · show (if p.1 = x then none else B' p.1) = none
      rw [if_neg (hμ p hp)]; exact (S'.own p hp).1
    · exact (S'.own p hp).2.wi w (hno p hp) (upd_ne (hμ p hp))
  · obtain ⟨oc, od, dV, kV, doc, pm, an, cdv, ct, osl, rfl, lk, hcd, hD, hK⟩ := F.ex
    rcases hD with ⟨_, rfl⟩ | ⟨e, _⟩
    · match us, ws, l1, l2 with
      | [u], [w], _, _ => exact BindsTo.of_eq rfl
    · exact absurd rfl e
section
variable {X : Cx} {j : Nat} {e : Expr} {ρ : Rho} {μ μ1 : Mu} {p pos kpos : Pos} {ps : List Proc}
/-- Graph(procedures=e) -/
theorem DE_graph (G : Gd (gvOf X)) (hr : Room j X.A) (ha : DE X e ρ μ (procsD ps) μ1) (hk : 8 ≤ j) (G' : GoodP ps) (hno : ∀ p ∈ μ1, noG p.2 = true) (hg : Gl X "Graph" := by rfl)
    (hall : (backToKw pos (keywordEach [⟨some "procedures", e, kpos⟩] X.env)).all (·.1.isSome) = true := by rfl) (hks : (backToKw pos (keywordEach [⟨some "procedures", e, kpos⟩] X.env)).filterMap (·.1) = (["procedures"] : List Str) := by rfl)
    (hpl : ((backTo pos (starEach [] X.env)).any (·.1) || (backToKw pos (keywordEach [⟨some "procedures", e, kpos⟩] X.env)).any (·.1.isNone)) = false := by rfl) :
    DE X (.Call (.Name "Graph" p) [] [⟨some "procedures", e, kpos⟩] pos) ρ μ (.grf (He.ga X.K "Graph") (procsD ps)) μ1 := fun B H σ Q S L k => by
  obtain ⟨f, fd, pz, M, F, hb⟩ := c_G_init G
  refine peW (pe_makeK0 M F (hr.mono hk) hg (G.glo "Graph") hb (E := fun _ _ _ => True) C8.pass0 (pk_cons pe_w pk_nil) hall hks (by decide) hpl) ?_
  show wE X e σ H _
  refine ha B H σ _ S L fun B1 H1 y i1 S1 r1 => ⟨rfl, rfl, fun x dx hx hdx hne => ?_⟩
  have nB : ∀ a, H1 a = none → B1 a = none := fun a h => by
    cases e : B1 a with
    | none => rfl
    | some u => rw [S1.sub _ _ e] at h; cases h
  have nm : ∀ a, H1 a = none → ∀ p ∈ μ1, p.1 ≠ a := fun a h p hp z => by
    obtain ⟨u, e, _⟩ := (S1.own p hp).2.some
    rw [z, h] at e; cases e
  refine ⟨x, dx, y, ps, B1, μ1, rfl, upd_same, nB x hx, nm x hx, ⟨fun b u e => ?_, S1.nd, fun p hp => ⟨(S1.own p hp).1, ?_⟩⟩, r1, G', hno, fun B' H' i bx S' hx' => ?_⟩
  · have h1 : b ≠ x := fun z => by rw [z, nB x hx] at e; cases e
    have h2 : b ≠ dx := fun z => by rw [z, nB dx hdx] at e; cases e
    rw [upd_ne h1, upd_ne h2]; exact S1.sub _ _ e
  · exact (S1.own p hp).2.inc (Inc.refl _) (by rw [upd_ne (nm x hx p hp), upd_ne (nm dx hdx p hp)])
  · have i2 : Inc B' (upd B' x (.ins (He.ga X.K "Graph") dx [("procedures", y)])) := Inc.new bx
    refine ⟨rfl, k _ _ _ (i1.trans (i.trans i2)) (?_ : Sat X.K (upd B' x (.ins (He.ga X.K "Graph") dx [("procedures", y)])) H' μ1) ⟨x, dx, y, rfl, upd_same, (r1.inc i).inc i2⟩⟩
    refine ⟨fun b u e => ?_, S'.nd, fun p hp => ⟨?_, (S'.own p hp).2.inc i2 rfl⟩⟩
    · by_cases hb : b = x
      · subst hb; rw [upd_same] at e; cases e; exact hx'
      · rw [upd_ne hb] at e; exact S'.sub _ _ e
    · rw [upd_ne (nm x hx p hp)]; exact (S'.own p hp).1
end
end Od
namespace Od
open PySem PySem.Spec PyProof.Rows L2
section
variable {X : Cx} {scope : Scope} {e a b c tg iter tg1 iter1 elt : Expr} {ρ ρ' ρ1 ρ2 : Rho} {μ μ' μ0 μ1 μ2 : Mu} {d d1 d2 : D} {pos cp p2 : Pos} {ds items : List D} {C : Mu → Prop}
theorem lc2 (own : List (Str × Nat)) (vs1 : List Nat) {α β : Type} (xs : List α) (enc : α → D) (g : α → List β) (enc1 : α → β → D) (f : α → β → D) (hI : DI X tg iter ρ μ items C μ') (hi : items = xs.map enc) (hC : ∀ a l, C ((a, .lst l) :: μ')) (hn : ((xs.flatMap g).length ≤ 16777215))
    (hs : ∀ x ∈ xs, ∃ ρ' is, (Blk X scope fun Y => DG Y tg (enc x) (wipeR ρ (own.map (·.2))) ρ' is) ∧ (∀ j ∈ is, j ∈ own.map (·.2)) ∧
      ∀ a l, (Blk X scope fun Y => DI Y tg1 iter1 ρ' ((a, .lst l) :: μ') ((g x).map (enc1 x)) (fun _ => True) ((a, .lst l) :: μ')) ∧
        ∀ y ∈ g x, ∃ ρ2 is2, (Blk X scope fun Y => DG Y tg1 (enc1 x y) (wipeR ρ' vs1) ρ2 is2) ∧ (∀ j ∈ is2, j ∈ vs1) ∧ ∀ l, Blk X scope fun Y => DE Y elt ρ2 ((a, .lst l) :: μ') (f x y) ((a, .lst l) :: μ'))
    (hN : X.N.Nodup) (hd : .lst (xs.flatMap fun x => (g x).map (f x)) = d) (hv : ∀ i ∈ vs1, i ∈ own.map (·.2) := by decide) (ok : blkC X.N X.env.scope scope own = true := by kernel_rfl) (hc : X.calm = true := by rfl) (hfs : ∀ x, foldedSetIterable iter X.env x = pure x := by intro _; rfl) (hfs1 : ∀ env x, foldedSetIterable iter1 env x = pure x := by intro _ _; rfl) :
    DN X (.ListComp elt [⟨tg, iter, [], 0⟩, ⟨tg1, iter1, [], 0⟩] scope pos) ρ μ d μ' := by
  subst hd hi
  exact DN_lc2 own vs1 xs enc g enc1 f hI hC hn hs hN hv ok hc hfs hfs1
theorem DE_isiG (G : Gd (gvOf X)) (ha : DE X a ρ μ (.grf (He.ga X.K "Graph") d) μ1) (hg : Gl X "isinstance" := by rfl) (hg2 : Gl X "Graph" := by rfl)
    (he : starEach (a :: [.Name "Graph" p2]) X.env = (false, eval a X.env) :: starEach [.Name "Graph" p2] X.env := by rfl) (he2 : starEach [.Name "Graph" p2] X.env = (false, eval (.Name "Graph" p2) X.env) :: starEach [] X.env := by rfl)
    (hpl : (backTo pos (starEach [.Name "Graph" p2] X.env)).any (·.1) = false := by rfl) : DE X (.Call (.Name "isinstance" cp) [a, .Name "Graph" p2] [] pos) ρ μ (.bl true) μ1 := fun B H σ Q S L k => by
  obtain ⟨_, _, h1, h2, h3, h4, h5⟩ := G.ex2
  have cls : Cls X.K (He.ga X.K "Graph") := He.cls_ok (G.d.fact 24 (f := .cls "Graph") rfl)
  refine peW (pe_callB call_isi hg (G.free "isinstance") boot_isi' (pa_cons pe_w (pa_cons (pe_glob (v := .ref (He.ga X.K "Graph")) hg2 (G.glo "Graph") rfl) pa_nil he2) he) (he := he) (hpl := hpl)) ?_
  refine ha B H σ _ S L fun B1 H1 x i S1 r => ?_
  obtain ⟨ad, dx, y, rfl, e1, ry⟩ := r
  exact ⟨.ref ad, .ref (He.ga X.K "Graph"), .ref (He.ga X.K "Graph"), .ref (He.ga X.K "Graph"), true, rfl, .own _, .base (.ins (S1.sub _ _ e1) cls h2 h3 h4 h5), h1, k B1 H1 _ i S1 rfl⟩
end
theorem Gd.cls {g : Gv} (G : Gd g) : Cls g.K (He.ga g.K "Graph") := He.cls_ok (G.d.fact 24 (f := .cls "Graph") rfl)
theorem Gd.noat {g : Gv} (G : Gd g) : NoAttr g.K (He.ga g.K "Graph") "procedures" := He.noat_ok (G.d.fact 26 (f := .noat "Graph" "procedures") rfl)
end Od
namespace Od
open PySem PySem.Spec PyProof.Rows L2
abbrev grD (g : Gv) (ps : List Proc) : D := .grf (He.ga g.K "Graph") (procsD ps)
def spIsChain (g : Gv) : Dsp := fun ds μ d μ' => ds.length = 1 ∧ ∃ ps, ds = [grD g ps] ∧ d = .bl true ∧ μ = μ'
abbrev n_G_is_chain : List Str := ["self", "exits", "points", "point"]
theorem sc_G_is_chain : FnScope n_G_is_chain ["self"] d_G_is_chain.scope := ⟨rfl, rfl, rfl, by decide +kernel, rfl, by decide +kernel, by decide +kernel⟩
theorem c_G_is_chain {g : Gv} (G : Gd g) : Mtd g 1 (He.ga g.K "Graph") "is_chain" (spD g.K (spIsChain g)) := by
  obtain ⟨fd, F⟩ := G.def_ 18 (d := d_G_is_chain) rfl
  refine ⟨_, G.meth "Graph" "is_chain", fn_of_body F sc_G_is_chain (F.bindsN fun _ _ _ _ _ _ us hl => match us, hl with | [_], _ => rfl) (fun _ _ _ _ h => h.1) fun l ds μ d μ' R h => ?_⟩
  obtain ⟨-, h⟩ := h
  have nd := sc_G_is_chain.nd
  obtain ⟨ps, rfl, rfl, rfl⟩ := h
  refine DSs_cons (DS_for (DI_tup (DV.de (DV_fld (DV_var 0) G.cls G.noat))) (fun k ρ μ' => ∃ x1 x2 x3, ρ = [some (grD g ps), x1, x2, x3] ∧ μ' = μ) ⟨_, _, _, rfl, rfl⟩ (fun _ _ _ _ => trivial) ?_ ?_)
  · rintro k d ρ μ' hi ⟨x1, x2, x3, rfl, rfl⟩
    rw [List.getElem?_map] at hi
    cases hx : ps[k]? with
    | none => rw [hx] at hi; cases hi
    | some q =>
      rw [hx] at hi; cases hi
      refine ⟨_, _, DG_tup (DGs_cons (DG_name 1 nd) (DGs_cons (DG_name 2 nd) DGs_nil)), ?_⟩
      refine DSs_cons (DS_for (DI_tup (DE_var 2)) (fun k ρ μ2 => ∃ x3, ρ = [some (grD g ps), some (.int q.1), some (.tup (q.2.map ptD)), x3] ∧ μ2 = μ') ⟨_, rfl, rfl⟩ (fun _ _ _ _ => trivial) ?_ ?_)
      · rintro i d ρ μ' hi ⟨x3, rfl, rfl⟩
        rw [List.getElem?_map] at hi
        cases hx : q.2[i]? with
        | none => rw [hx] at hi; cases hi
        | some t =>
          rw [hx] at hi; cases hi
          refine ⟨_, _, DG_name 3 nd, ?_⟩
          cases t with
          | _ =>
            refine DSs_cons (DS_if (DT_eqS (DE_ixT (DE_var 3) DE_int) DE_str) (fun h => absurd h (by decide)) fun _ => ?_)
            refine DSs_nil ?_
            exact DSs_nil ⟨_, rfl, rfl⟩
      · rintro ρ μ' ⟨x3, rfl, rfl⟩
        exact DSs_nil ⟨_, _, _, rfl, rfl⟩
  · rintro ρ μ' ⟨x1, x2, x3, rfl, rfl⟩
    exact DSs_cons (DS_ret DE_bl Ret.rt)
theorem enum_eq {α : Type} (f : α → D) (l : List α) (z : α) : enumD (l.map f) = (List.range l.length).map fun k : Nat => D.tup [.int k, f (l.getD k z)] := by
  apply List.ext_getElem?
  intro i
  rw [List.getElem?_map]
  by_cases hi : i < l.length
  · rw [List.getElem?_range hi]
    unfold enumD pairs
    rw [List.getElem?_zipWith]
    unfold rgD
    rw [List.length_map, List.getElem?_map, List.getElem?_range hi, List.getElem?_map, List.getElem?_eq_getElem hi]
    have e : l.getD i z = l[i] := by rw [List.getD_eq_getElem?_getD, List.getElem?_eq_getElem hi]; rfl
    show some _ = some (D.tup [D.int i, f (l.getD i z)])
    rw [e]
  · have h1 : (List.range l.length)[i]? = none := List.getElem?_eq_none (by simp; omega)
    have h2 : (enumD (l.map f))[i]? = none := List.getElem?_eq_none (by unfold enumD pairs rgD; simp; omega)
    rw [h1, h2]; rfl
def plD (x : Nat × Nat) : D := .tup [.int x.1, .int x.2]
def placesN (ps : List Proc) : List (Nat × Nat) := (List.range ps.length).flatMap fun k => (List.range (ps.getD k (0, [])).2.length).map fun i => (k, i)
def spPlaces (g : Gv) : Dsp := fun ds μ d μ' => ds.length = 1 ∧ ∃ ps, ds = [grD g ps] ∧ GoodP ps ∧ d = .lst ((placesN ps).map plD) ∧ μ = μ'
theorem placesN_len {ps : List Proc} (G : GoodP ps) : (placesN ps).length ≤ 10 := by
  have := len_flat (fun k => (List.range (ps.getD k (0, [])).2.length).map fun i => (k, i)) 5 ps.length fun i hi => by
    have := (G.each _ (G.at hi).1).2.2.2.1
    rw [List.length_map, List.length_range]; omega
  have h2 : ps.length * 5 ≤ 10 := by have := G.len; omega
  exact Nat.le_trans this h2
abbrev n_G_places : List Str := ["self", "p", "procedure", "i"]
theorem sc_G_places : FnScope n_G_places ["self"] d_G_places.scope := ⟨rfl, rfl, rfl, by decide +kernel, rfl, by decide +kernel, by decide +kernel⟩
theorem c_G_places {g : Gv} (G : Gd g) : Mtd g 1 (He.ga g.K "Graph") "places" (spD g.K (spPlaces g)) := by
  obtain ⟨fd, F⟩ := G.def_ 19 (d := d_G_places) rfl
  refine ⟨_, G.meth "Graph" "places", fn_of_body F sc_G_places (F.bindsN fun _ _ _ _ _ _ us hl => match us, hl with | [_], _ => rfl) (fun _ _ _ _ h => h.1) fun l ds μ d μ' R h => ?_⟩
  obtain ⟨-, h⟩ := h
  have nd := sc_G_places.nd
  obtain ⟨ps, rfl, G', rfl, rfl⟩ := h
  refine DSs_cons (DS_ret (DN.de (lc2 [("p", 1), ("procedure", 2), ("i", 3)] [3] (List.range ps.length) (fun k : Nat => D.tup [.int k, procD (ps.getD k (0, []))]) (fun k => List.range (ps.getD k (0, [])).2.length) (fun _ (i : Nat) => .int i) (fun k i => plD (k, i)) (DI_enum (G.free "enumerate") (DV.de (DV_fld (DV_var 0) G.cls G.noat))) (enum_eq procD ps (0, [])) (fun _ _ => trivial) ?_ (fun k hk => ?_) nd ?_)) Ret.rt)
  · have := len_flat (fun k => List.range (ps.getD k (0, [])).2.length) 5 ps.length fun i hi => by
      have := (G'.each _ (G'.at hi).1).2.2.2.1
      rw [List.length_range]; omega
    have h2 : ps.length * 5 ≤ 10 := by have := G'.len; omega
    omega
  · have hq := G'.each _ (G'.at (List.mem_range.mp hk)).1
    refine ⟨_, _, fun s0 H0 Cc cl fp => DG_tup (DGs_cons (DG_name 1 nd) (DGs_cons (DG_name 2 nd) DGs_nil)), by decide, fun a l => ⟨fun s0 H0 Cc cl fp => DI_range (n := (ps.getD k (0, [])).2.length) (G.free "range") (DE.eq (DE_len (G.free "len") (DE_ixT (DE_var 2) DE_int) .tu) (by rw [List.length_map])) (by omega), fun y hy => ⟨_, _, fun s0 H0 Cc cl fp => DG_name 3 nd, by decide, fun l s0 H0 Cc cl fp => DE_tup (DA_cons (DE_var 1) (DA_cons (DE_var 3) DA_nil))⟩⟩⟩
  · unfold placesN
    rw [List.map_flatMap]
    simp only [List.map_map]
    rfl
def InP (ps : List Proc) (p i : Int) : Prop := 0 ≤ p ∧ p < ps.length ∧ 0 ≤ i ∧ i < (prAt ps p).2.length
def spIsPlace (g : Gv) : Dsp := fun ds μ d μ' => ds.length = 2 ∧ ∃ ps p i, ds = [grD g ps, .tup [.int p, .int i]] ∧ InP ps p i ∧ d = .bl true ∧ μ = μ'
abbrev n_G_is_place : List Str := ["self", "value"]
theorem sc_G_is_place : FnScope n_G_is_place ["self", "value"] d_G_is_place.scope := ⟨rfl, rfl, rfl, by decide +kernel, rfl, by decide +kernel, by decide +kernel⟩
theorem c_G_is_place {g : Gv} (G : Gd g) : Mtd g 3 (He.ga g.K "Graph") "is_place" (spD g.K (spIsPlace g)) := by
  obtain ⟨fd, F⟩ := G.def_ 20 (d := d_G_is_place) rfl
  refine ⟨_, G.meth "Graph" "is_place", fn_of_body F sc_G_is_place (F.bindsN fun _ _ _ _ _ _ us hl => match us, hl with | [_, _], _ => rfl) (fun _ _ _ _ h => h.1) fun l ds μ d μ' R h => ?_⟩
  obtain ⟨-, h⟩ := h
  have nd := sc_G_is_place.nd
  obtain ⟨ps, p, i, rfl, ⟨h1, h2, h3, h4⟩, rfl, rfl⟩ := h
  have ixq := atI_at (f := procD) h1 (prAt_at h1 h2)
  refine DSs_cons (DS_if (DW.dt (DW_or (DT_not (DT_isi (T' := "tuple") (t := true) (G.free "isinstance") (G.free "tuple") (DE_var 1))) fun _ => DW_or (DT_neI (DE_len (G.free "len") (DE_var 1) .tu) DE_int) fun _ => DW_or1 (DT_not (DT_val (DE_call (c_is_index G) R (DA_cons (DE_ixT (DE_var 1) DE_int) (DA_cons (DE.eq (DE_len (G.free "len") (DV.de (DV_fld (DV_var 0) G.cls G.noat)) .tu) (by rw [List.length_map])) DA_nil)) ⟨rfl, p, ps.length, rfl, h1, h2, rfl, rfl⟩))))) (fun c => absurd c (by exact Bool.false_ne_true)) fun _ => ?_)
  refine DSs_nil ?_
  exact DSs_cons (DS_ret (DE_call (c_is_index G) R (DA_cons (DE_ixT (DE_var 1) DE_int) (DA_cons (DE.eq (DE_len (G.free "len") (DE_ixT (DE_ixT (DV.de (DV_fld (DV_var 0) G.cls G.noat)) (DE_ixT (DE_var 1) DE_int) ixq) DE_int) .tu) (by rw [List.length_map])) DA_nil)) ⟨rfl, i, (prAt ps p).2.length, rfl, h3, h4, rfl, rfl⟩) Ret.rt)
def spChkPlace (g : Gv) : Dsp := fun ds μ d μ' => ds.length = 2 ∧ ∃ ps p i, ds = [grD g ps, .tup [.int p, .int i]] ∧ InP ps p i ∧ d = .non ∧ μ = μ'
abbrev n_G_check_place : List Str := ["self", "place"]
theorem sc_G_check_place : FnScope n_G_check_place ["self", "place"] d_G_check_place.scope := ⟨rfl, rfl, rfl, by decide +kernel, rfl, by decide +kernel, by decide +kernel⟩
theorem c_G_check_place {g : Gv} (G : Gd g) : Mtd g 4 (He.ga g.K "Graph") "check_place" (spD g.K (spChkPlace g)) := by
  obtain ⟨fd, F⟩ := G.def_ 21 (d := d_G_check_place) rfl
  refine ⟨_, G.meth "Graph" "check_place", fn_of_body F sc_G_check_place (F.bindsN fun _ _ _ _ _ _ us hl => match us, hl with | [_, _], _ => rfl) (fun _ _ _ _ h => h.1) fun l ds μ d μ' R h => ?_⟩
  obtain ⟨-, h⟩ := h
  have nd := sc_G_check_place.nd
  obtain ⟨ps, p, i, rfl, ip, rfl, rfl⟩ := h
  refine DSs_cons (DS_if (DT_not (DT_val (DE_meth (c_G_is_place G) G.cls R (DE_var 0) (DA_cons (DE_var 1) DA_nil) ⟨rfl, ps, p, i, rfl, ip, rfl, rfl⟩))) (fun c => absurd c (by decide)) fun _ => ?_)
  refine DSs_nil ?_
  exact DSs_nil Ret.nx
def spPointAt (g : Gv) : Dsp := fun ds μ d μ' => ds.length = 2 ∧ ∃ ps p i t, ds = [grD g ps, .tup [.int p, .int i]] ∧ InP ps p i ∧ (prAt ps p).2[i.toNat]? = some t ∧ d = ptD t ∧ μ = μ'
abbrev n_G_point_at : List Str := ["self", "place"]
theorem sc_G_point_at : FnScope n_G_point_at ["self", "place"] d_G_point_at.scope := ⟨rfl, rfl, rfl, by decide +kernel, rfl, by decide +kernel, by decide +kernel⟩
theorem c_G_point_at {g : Gv} (G : Gd g) : Mtd g 5 (He.ga g.K "Graph") "point_at" (spD g.K (spPointAt g)) := by
  obtain ⟨fd, F⟩ := G.def_ 22 (d := d_G_point_at) rfl
  refine ⟨_, G.meth "Graph" "point_at", fn_of_body F sc_G_point_at (F.bindsN fun _ _ _ _ _ _ us hl => match us, hl with | [_, _], _ => rfl) (fun _ _ _ _ h => h.1) fun l ds μ d μ' R h => ?_⟩
  obtain ⟨-, h⟩ := h
  have nd := sc_G_point_at.nd
  obtain ⟨ps, p, i, t, rfl, ip, ht, rfl, rfl⟩ := h
  have ixq := atI_at (f := procD) ip.1 (prAt_at ip.1 ip.2.1)
  have ixt := atI_at (f := ptD) ip.2.2.1 ht
  refine DSs_cons (DS_expr (DE_meth (c_G_check_place G) G.cls R (DE_var 0) (DA_cons (DE_var 1) DA_nil) ⟨rfl, ps, p, i, rfl, ip, rfl, rfl⟩) ?_)
  exact DSs_cons (DS_ret (DE_ixT (DE_ixT (DE_ixT (DV.de (DV_fld (DV_var 0) G.cls G.noat)) (DE_ixT (DE_var 1) DE_int) ixq) DE_int) (DE_ixT (DE_var 1) DE_int) ixt) Ret.rt)
def spWays (g : Gv) : Dsp := fun ds μ d μ' => ds.length = 2 ∧ ∃ ps p i, ds = [grD g ps, .tup [.int p, .int i]] ∧ GoodP ps ∧ InP ps p i ∧ d = .lst (rgD ((prAt ps p).1 + 2).toNat) ∧ μ = μ'
abbrev n_G_ways : List Str := ["self", "place"]
theorem sc_G_ways : FnScope n_G_ways ["self", "place"] d_G_ways.scope := ⟨rfl, rfl, rfl, by decide +kernel, rfl, by decide +kernel, by decide +kernel⟩
theorem c_G_ways {g : Gv} (G : Gd g) : Mtd g 5 (He.ga g.K "Graph") "ways" (spD g.K (spWays g)) := by
  obtain ⟨fd, F⟩ := G.def_ 23 (d := d_G_ways) rfl
  refine ⟨_, G.meth "Graph" "ways", fn_of_body F sc_G_ways (F.bindsN fun _ _ _ _ _ _ us hl => match us, hl with | [_, _], _ => rfl) (fun _ _ _ _ h => h.1) fun l ds μ d μ' R h => ?_⟩
  obtain ⟨-, h⟩ := h
  have nd := sc_G_ways.nd
  obtain ⟨ps, p, i, rfl, G', ip, rfl, rfl⟩ := h
  have ixq := atI_at (f := procD) ip.1 (prAt_at ip.1 ip.2.1)
  obtain ⟨q1, q2, _⟩ := G'.each _ (prAt_mem ip.1 ip.2.1)
  refine DSs_cons (DS_expr (DE_meth (c_G_check_place G) G.cls R (DE_var 0) (DA_cons (DE_var 1) DA_nil) ⟨rfl, ps, p, i, rfl, ip, rfl, rfl⟩) ?_)
  exact DSs_cons (DS_ret (DN.de (DN_listRg (G.free "list") (G.free "range") (DE.eq (DE_add (DE_ixT (DE_ixT (DV.de (DV_fld (DV_var 0) G.cls G.noat)) (DE_ixT (DE_var 1) DE_int) ixq) DE_int) DE_int) (by rw [Int.toNat_of_nonneg (by omega)])) (by omega))) Ret.rt)
def spChkChain (g : Gv) : Dsp := fun ds μ d μ' => ds.length = 1 ∧ ∃ ps, ds = [grD g ps] ∧ d = .non ∧ μ = μ'
abbrev n_check_chain : List Str := ["graph"]
theorem sc_check_chain : FnScope n_check_chain ["graph"] d_check_chain.scope := ⟨rfl, rfl, rfl, by decide +kernel, rfl, by decide +kernel, by decide +kernel⟩
theorem c_check_chain {g : Gv} (G : Gd g) : Ctr g 2 "check_chain" (spD g.K (spChkChain g)) := by
  obtain ⟨fd, F⟩ := G.def_ 24 (d := d_check_chain) rfl
  refine ⟨_, G.glo "check_chain", F.kp, fn_of_body F sc_check_chain (F.bindsN fun _ _ _ _ _ _ us hl => match us, hl with | [_], _ => rfl) (fun _ _ _ _ h => h.1) fun l ds μ d μ' R h => ?_⟩
  obtain ⟨-, h⟩ := h
  have nd := sc_check_chain.nd
  obtain ⟨ps, rfl, rfl, rfl⟩ := h
  refine DSs_cons (DS_if (DT_not (DT_val (DE_isiG G (DE_var 0)))) (fun c => absurd c (by decide)) fun _ => ?_)
  refine DSs_nil ?_
  refine DSs_cons (DS_if (DT_not (DT_val (DE_meth0 (c_G_is_chain G) G.cls R (DE_var 0) ⟨rfl, ps, rfl, rfl, rfl⟩))) (fun c => absurd c (by decide)) fun _ => ?_)
  refine DSs_nil ?_
  exact DSs_nil Ret.nx
theorem InU.inP {ps : List Proc} {u : U} (h : InU ps u) : InP ps u.1 u.2.1 := ⟨h.1, h.2.1, h.2.2.1, h.2.2.2.1⟩
def spIsUnk (g : Gv) : Dsp := fun ds μ d μ' => ds.length = 2 ∧ ∃ ps u, ds = [grD g ps, uD u] ∧ InU ps u ∧ d = .bl true ∧ μ = μ'
abbrev n_is_unknown : List Str := ["graph", "value", "way"]
theorem sc_is_unknown : FnScope n_is_unknown ["graph", "value"] d_is_unknown.scope := ⟨rfl, rfl, rfl, by decide +kernel, rfl, by decide +kernel, by decide +kernel⟩
theorem c_is_unknown {g : Gv} (G : Gd g) : Ctr g 4 "is_unknown" (spD g.K (spIsUnk g)) := by
  obtain ⟨fd, F⟩ := G.def_ 25 (d := d_is_unknown) rfl
  refine ⟨_, G.glo "is_unknown", F.kp, fn_of_body F sc_is_unknown (F.bindsN fun _ _ _ _ _ _ us hl => match us, hl with | [_, _], _ => rfl) (fun _ _ _ _ h => h.1) fun l ds μ d μ' R h => ?_⟩
  obtain ⟨-, h⟩ := h
  have nd := sc_is_unknown.nd
  obtain ⟨ps, u, rfl, iu, rfl, rfl⟩ := h
  have ixq := atI_at (f := procD) iu.1 (prAt_at iu.1 iu.2.1)
  refine DSs_cons (DS_if (DW.dt (DW_or (DT_not (DT_isi (T' := "tuple") (t := true) (G.free "isinstance") (G.free "tuple") (DE_var 1))) fun _ => DW_or (DT_neI (DE_len (G.free "len") (DE_var 1) .tu) DE_int) fun _ => DW_or1 (DT_not (DT_val (DE_meth (c_G_is_place G) G.cls R (DE_var 0) (DA_cons (DE_place (DE_var 1) DE_int) DA_nil) ⟨rfl, ps, u.1, u.2.1, rfl, iu.inP, rfl, rfl⟩))))) (fun c => absurd c (by exact Bool.false_ne_true)) fun _ => ?_)
  refine DSs_nil ?_
  refine DSs_cons (DS_set 2 (DE_ixT (DE_var 1) DE_int) ?_ nd)
  refine DSs_cons (DS_ret (DE_and (DE_isi (T' := "int") (t := true) (G.free "isinstance") (G.free "int") (DE_var 2)) fun _ => DE_and (DE_not (DE_isi (T' := "bool") (t := false) (G.free "isinstance") (G.free "bool") (DE_var 2))) fun _ => DE_one (DE_chain op_le op_lt DE_int (DE_var 2) (DE_add (DE_ixT (DE_ixT (DV.de (DV_fld (DV_var 0) G.cls G.noat)) (DE_ixT (DE_var 1) DE_int) ixq) DE_int) DE_int))) ?_)
  rw [decide_eq_true iu.2.2.2.2.1, decide_eq_true iu.2.2.2.2.2]
  exact Ret.rt
def spChkUnk (g : Gv) : Dsp := fun ds μ d μ' => ds.length = 2 ∧ ∃ ps u, ds = [grD g ps, uD u] ∧ InU ps u ∧ d = .non ∧ μ = μ'
abbrev n_check_unknown : List Str := ["graph", "unknown"]
theorem sc_check_unknown : FnScope n_check_unknown ["graph", "unknown"] d_check_unknown.scope := ⟨rfl, rfl, rfl, by decide +kernel, rfl, by decide +kernel, by decide +kernel⟩
theorem c_check_unknown {g : Gv} (G : Gd g) : Ctr g 5 "check_unknown" (spD g.K (spChkUnk g)) := by
  obtain ⟨fd, F⟩ := G.def_ 26 (d := d_check_unknown) rfl
  refine ⟨_, G.glo "check_unknown", F.kp, fn_of_body F sc_check_unknown (F.bindsN fun _ _ _ _ _ _ us hl => match us, hl with | [_, _], _ => rfl) (fun _ _ _ _ h => h.1) fun l ds μ d μ' R h => ?_⟩
  obtain ⟨-, h⟩ := h
  have nd := sc_check_unknown.nd
  obtain ⟨ps, u, rfl, iu, rfl, rfl⟩ := h
  refine DSs_cons (DS_expr (DE_call (c_check_chain G) R (DA_cons (DE_var 0) DA_nil) ⟨rfl, ps, rfl, rfl, rfl⟩) ?_)
  refine DSs_cons (DS_if (DT_not (DT_val (DE_call (c_is_unknown G) R (DA_cons (DE_var 0) (DA_cons (DE_var 1) DA_nil)) ⟨rfl, ps, u, rfl, iu, rfl, rfl⟩))) (fun c => absurd c (by decide)) fun _ => ?_)
  refine DSs_nil ?_
  exact DSs_nil Ret.nx
theorem mem_places {ps : List Proc} {x : Nat × Nat} (h : x ∈ placesN ps) : InP ps x.1 x.2 := by
  unfold placesN at h
  simp only [List.mem_flatMap, List.mem_range, List.mem_map] at h
  obtain ⟨p, hp, i, hi, rfl⟩ := h
  show 0 ≤ (p : Int) ∧ (p : Int) < ps.length ∧ 0 ≤ (i : Int) ∧ (i : Int) < ((ps.getD (p : Int).toNat (0, [])).2.length : Int)
  rw [Int.toNat_natCast]
  omega
theorem unk_places (ps : List Proc) : (placesN ps).flatMap (fun x => (List.range ((prAt ps x.1).1 + 2).toNat).map fun w : Nat => uD ((x.1 : Int), (x.2 : Int), (w : Int))) = (unkR ps).map uD := by
  unfold placesN unkR unkP unkI
  simp only [List.flatMap_assoc, List.map_flatMap, List.map_map, List.flatMap_map]
  rfl
def spAllU (g : Gv) : Dsp := fun ds μ d μ' => ds.length = 1 ∧ ∃ ps, ds = [grD g ps] ∧ GoodP ps ∧ d = .lst ((unkR ps).map uD) ∧ μ = μ'
abbrev n_all_unknowns : List Str := ["graph", "procedure", "point", "way"]
theorem sc_all_unknowns : FnScope n_all_unknowns ["graph"] d_all_unknowns.scope := ⟨rfl, rfl, rfl, by decide +kernel, rfl, by decide +kernel, by decide +kernel⟩
theorem c_all_unknowns {g : Gv} (G : Gd g) : Ctr g 6 "all_unknowns" (spD g.K (spAllU g)) := by
  obtain ⟨fd, F⟩ := G.def_ 27 (d := d_all_unknowns) rfl
  refine ⟨_, G.glo "all_unknowns", F.kp, fn_of_body F sc_all_unknowns (F.bindsN fun _ _ _ _ _ _ us hl => match us, hl with | [_], _ => rfl) (fun _ _ _ _ h => h.1) fun l ds μ d μ' R h => ?_⟩
  obtain ⟨-, h⟩ := h
  have nd := sc_all_unknowns.nd
  obtain ⟨ps, rfl, G', rfl, rfl⟩ := h
  refine DSs_cons (DS_ret (DN.de (lc2 [("procedure", 1), ("point", 2), ("way", 3)] [3] (placesN ps) plD (fun x => List.range ((prAt ps x.1).1 + 2).toNat) (fun _ (w : Nat) => .int w) (fun x w => uD ((x.1 : Int), (x.2 : Int), (w : Int))) (DI_lst (DE_meth0 (c_G_places G) G.cls R (DE_var 0) ⟨rfl, ps, rfl, G', rfl, rfl⟩)) rfl (fun _ _ => trivial) ?_ (fun x hx => ?_) nd (congrArg D.lst (unk_places ps)))) Ret.rt)
  · have e := congrArg List.length (unk_places ps)
    rw [List.length_map] at e
    have h2 := unkR_len G'
    have e3 : ((placesN ps).flatMap fun x => List.range ((prAt ps x.1).1 + 2).toNat).length = ((placesN ps).flatMap (fun x => (List.range ((prAt ps x.1).1 + 2).toNat).map fun w : Nat => uD ((x.1 : Int), (x.2 : Int), (w : Int)))).length := by
      simp [List.length_flatMap]
    omega
  · have ip := mem_places hx
    refine ⟨_, _, fun s0 H0 Cc cl fp => DG_tup (DGs_cons (DG_name 1 nd) (DGs_cons (DG_name 2 nd) DGs_nil)), by decide, fun a l => ⟨fun s0 H0 Cc cl fp => DI_lst (DE_meth (c_G_ways G) G.cls R (DE_var 0) (DA_cons (DE_tup (DA_cons (DE_var 1) (DA_cons (DE_var 2) DA_nil))) DA_nil) ⟨rfl, ps, x.1, x.2, rfl, G', ip, rfl, rfl⟩), fun y hy => ⟨_, _, fun s0 H0 Cc cl fp => DG_name 3 nd, by decide, fun l s0 H0 Cc cl fp => DE_tup (DA_cons (DE_var 1) (DA_cons (DE_var 2) (DA_cons (DE_var 3) DA_nil)))⟩⟩⟩
end Od
namespace Od
open PySem PySem.Spec PyProof.Rows L2
def pT (fs : List U) : D := .tup [.any, .tup (fs.map uD)]
def spCallT (g : Gv) : Dsp := fun ds μ d μ' => ds.length = 3 ∧ ∃ ps u r gs, ds = [grD g ps, uD u, ptD (.call r gs)] ∧ GoodP ps ∧ InU ps u ∧ ptAt ps u = some (.call r gs) ∧ okPt ps (prAt ps u.1) (.call r gs) ∧ d = .lst ((termsR ps u).map fun t => pT t.2) ∧ μ = μ'
abbrev n_call_terms : List Str := ["graph", "unknown", "point", "procedure", "_", "way", "called", "found", "exit_at", "goes_on", "beyond"]
theorem sc_call_terms : FnScope n_call_terms ["graph", "unknown", "point"] d_call_terms.scope := ⟨rfl, rfl, rfl, by decide +kernel, rfl, by decide +kernel, by decide +kernel⟩
theorem c_call_terms {g : Gv} (G : Gd g) : Ctr g 1 "call_terms" (spD g.K (spCallT g)) := by
  obtain ⟨fd, F⟩ := G.def_ 28 (d := d_call_terms) rfl
  refine ⟨_, G.glo "call_terms", F.kp, fn_of_body F sc_call_terms (F.bindsN fun _ _ _ _ _ _ us hl => match us, hl with | [_, _, _], _ => rfl) (fun _ _ _ _ h => h.1) fun l ds μ d μ' R h => ?_⟩
  obtain ⟨-, h⟩ := h
  have nd := sc_call_terms.nd
  obtain ⟨ps, u, r, gs, rfl, G', iu, ht, ok, rfl, rfl⟩ := h
  obtain ⟨r1, r2, r3, r4⟩ := ok
  obtain ⟨u1, u2, u3, u4, u5, u6⟩ := id iu
  have ixr := atI_at (f := procD) r1 (prAt_at r1 r2)
  have ixq := atI_at (f := procD) u1 (prAt_at u1 u2)
  obtain ⟨z1, z2, _⟩ := G'.each _ (prAt_mem r1 r2)
  obtain ⟨p, i, w⟩ := u
  simp only at u1 u2 u3 u4 u5 u6 ixq
  have hone : ∃ f, g.mg "ONE" = some (.ref f) := ⟨_, G.glo "ONE"⟩
  refine DSs_cons (DS_asg (DE_var 1) (DG_tup (DGs_cons (DG_name 3 nd) (DGs_cons (DG_name 4 nd) (DGs_cons (DG_name 5 nd) DGs_nil)))) ?_)
  refine DSs_cons (DS_set 6 (DE_ixT (DE_var 2) DE_int) ?_ nd)
  refine DSs_cons (DS_setN 7 (DN_lst DA_nil) (fun q => ?_) nd)
  refine DSs_cons (DS_for (DI_enum (G.free "enumerate") (DE_ixT (DE_var 2) DE_int)) (fun k ρ μ' => ∃ x8 x9 x10, ρ = [some (grD g ps), some (uD (p, i, w)), some (ptD (.call r gs)), some (.int p), some (.int i), some (.int w), some (.int r), some (.ptr q), x8, x9, x10] ∧ μ' = (q, .lst ((List.range k).map fun e : Nat => pT [(r, (0 : Int), (e : Int)), (p, gs.getD e 0, w)])) :: μ) ⟨_, _, _, rfl, rfl⟩ (fun _ _ _ _ => trivial) ?_ ?_)
  · rintro k d ρ μ' hi ⟨x8, x9, x10, rfl, rfl⟩
    obtain ⟨a, b, h1, h2, rfl⟩ := pairs_get hi
    obtain ⟨rfl, hk⟩ := rgD_get h1
    rw [List.length_map] at hk
    have e : gs[k]? = some (gs.getD k 0) := by rw [List.getD_eq_getElem?_getD, List.getElem?_eq_getElem hk]; rfl
    rw [List.getElem?_map, e] at h2
    cases h2
    refine ⟨_, _, DG_tup (DGs_cons (DG_name 8 nd) (DGs_cons (DG_name 9 nd) DGs_nil)), ?_⟩
    refine DSs_cons (DS_expr (apd 0 (DE_var 7) (DE_tup (DA_cons (DE_gany (G.glo "ONE")) (DA_cons (DE_tup (DA_cons (DE_tup (DA_cons (DE_var 6) (DA_cons DE_int (DA_cons (DE_var 8) DA_nil)))) (DA_cons (DE_tup (DA_cons (DE_var 3) (DA_cons (DE_var 9) (DA_cons (DE_var 5) DA_nil)))) DA_nil))) DA_nil))) (hl := by simp; omega)) ?_)
    refine DSs_nil ⟨_, _, x10, rfl, ?_⟩
    rw [map_succ]
    rfl
  · rintro ρ μ' ⟨x8, x9, x10, rfl, rfl⟩
    have le : (enumD (gs.map D.int)).length = (prAt ps r).1.toNat := by
      unfold enumD pairs rgD
      simp
      omega
    rw [le]
    refine DSs_cons (DS_set 10 (DE_sub (DE_var 5) (DE_ixT (DE_ixT (DV.de (DV_fld (DV_var 0) G.cls G.noat)) (DE_var 3) ixq) DE_int)) ?_ nd)
    have ht2 : ∀ c, ((prAt ps p).1 ≤ w ↔ c = true) → (termsR ps (p, i, w)).map (fun t => pT t.2) = ((List.range (prAt ps r).1.toNat).map fun e : Nat => pT [(r, (0 : Int), (e : Int)), (p, gs.getD e 0, w)]) ++ (if c = true then [pT [(r, 0, (prAt ps r).1 + (w - (prAt ps p).1))]] else []) := fun c hc => by
      unfold termsR
      rw [ht]
      simp only
      rw [List.map_append, List.map_map]
      congr 1
      by_cases h : (prAt ps p).1 ≤ w
      · rw [if_pos h, if_pos (hc.mp h)]
        show [pT [_]] = _
        rw [show (prAt ps r).1 + w - (prAt ps p).1 = (prAt ps r).1 + (w - (prAt ps p).1) by omega]
      · rw [if_neg h, if_neg fun z => h (hc.mpr z)]
        rfl
    refine DSs_cons (DS_if (DT_geI (DE_var 10) DE_int) (fun c => ?_) fun c => ?_)
    · have c : (0 : Int) ≤ w - (prAt ps p).1 := of_decide_eq_true c
      refine DSs_cons (DS_expr (apd 0 (DE_var 7) (DE_tup (DA_cons (DE_gany (G.glo "ONE")) (DA_cons (DE_tup (DA_cons (DE_tup (DA_cons (DE_var 6) (DA_cons DE_int (DA_cons (DE_add (DE_ixT (DE_ixT (DV.de (DV_fld (DV_var 0) G.cls G.noat)) (DE_var 6) ixr) DE_int) (DE_var 10)) DA_nil)))) DA_nil)) DA_nil))) (hl := by simp; omega)) ?_)
      refine DSs_nil ?_
      refine DSs_freeze 7 [] (h := ?_)
      refine DSs_cons (DS_ret (DE_var 7) ?_)
      rw [ht2 true ⟨fun _ => rfl, fun _ => by omega⟩]
      exact Ret.rt
    · have c : ¬ (0 : Int) ≤ w - (prAt ps p).1 := of_decide_eq_false c
      refine DSs_nil ?_
      refine DSs_freeze 7 [] (h := ?_)
      refine DSs_cons (DS_ret (DE_var 7) ?_)
      rw [ht2 false ⟨fun z => absurd z (by omega), fun z => nomatch z⟩, if_neg (by decide), List.append_nil]
      exact Ret.rt
def spAllT (g : Gv) : Dsp := fun ds μ d μ' => ds.length = 2 ∧ ∃ ps u, ds = [grD g ps, uD u] ∧ GoodP ps ∧ InU ps u ∧ d = .lst ((termsR ps u).map fun t => pT t.2) ∧ μ = μ'
abbrev n_all_terms : List Str := ["graph", "unknown", "procedure", "_", "way", "point", "word", "exits", "chance", "goes_on", "ends"]
theorem sc_all_terms : FnScope n_all_terms ["graph", "unknown"] d_all_terms.scope := ⟨rfl, rfl, rfl, by decide +kernel, rfl, by decide +kernel, by decide +kernel⟩
theorem c_all_terms {g : Gv} (G : Gd g) : Ctr g 6 "all_terms" (spD g.K (spAllT g)) := by
  obtain ⟨fd, F⟩ := G.def_ 29 (d := d_all_terms) rfl
  refine ⟨_, G.glo "all_terms", F.kp, fn_of_body F sc_all_terms (F.bindsN fun _ _ _ _ _ _ us hl => match us, hl with | [_, _], _ => rfl) (fun _ _ _ _ h => h.1) fun l ds μ d μ' R h => ?_⟩
  obtain ⟨-, h⟩ := h
  have nd := sc_all_terms.nd
  obtain ⟨ps, u, rfl, G', iu, rfl, rfl⟩ := h
  obtain ⟨u1, u2, u3, u4, u5, u6⟩ := id iu
  obtain ⟨t, ht, tm⟩ := ptAt_at iu
  have ixq := atI_at (f := procD) u1 (prAt_at u1 u2)
  obtain ⟨q1, q2, q3, q4, qt⟩ := G'.each _ (prAt_mem u1 u2)
  have ok := qt t tm
  have iup := iu.inP
  obtain ⟨p, i, w⟩ := u
  simp only at u1 u2 u3 u4 u5 u6 ixq ok qt tm iup
  refine DSs_cons (DS_asg (DE_var 1) (DG_tup (DGs_cons (DG_name 2 nd) (DGs_cons (DG_name 3 nd) (DGs_cons (DG_name 4 nd) DGs_nil)))) ?_)
  refine DSs_cons (DS_set 5 (DE_meth (c_G_point_at G) G.cls R (DE_var 0) (DA_cons (DE_place (DE_var 1) DE_int) DA_nil) ⟨rfl, ps, p, i, t, rfl, iup, ht, rfl, rfl⟩) ?_ nd)
  have sk : ∀ (b : Bool), D.lst ((if b = true then [((1 : Rat), ([] : List U))] else []).map fun t => pT t.2) = if b = true then .lst [.tup [.any, .tup []]] else .lst [] := fun b => by cases b <;> rfl
  cases t with
  | draw bs =>
    refine DSs_cons (DS_set 6 (DE_ixT (DE_var 5) DE_int) ?_ nd)
    refine DSs_cons (DS_set 7 (DE_ixT (DE_ixT (DV.de (DV_fld (DV_var 0) G.cls G.noat)) (DE_var 2) ixq) DE_int) ?_ nd)
    refine DSs_cons (DS_if (DT_eqS (DE_var 6) DE_str) (fun _ => ?_) fun h => absurd h (by decide))
    refine DSs_cons (DS_ret (DN.de (lcF [("chance", 8), ("goes_on", 9)] bs brD (fun b => pT [(p, b.2, w)]) (DI_tup (DE_ixT (DE_var 5) DE_int)) rfl (fun _ _ => trivial) (fun x hx a l => ⟨_, _, fun s0 H0 Cc cl fp => DG_tup (DGs_cons (DG_name 8 nd) (DGs_cons (DG_name 9 nd) DGs_nil)), by decide, fun s0 H0 Cc cl fp => DE_tup (DA_cons (DE.any (DE_var 8)) (DA_cons (DE_tup (DA_cons (DE_tup (DA_cons (DE_var 2) (DA_cons (DE_var 9) (DA_cons (DE_var 4) DA_nil)))) DA_nil)) DA_nil))⟩) nd rfl)) ?_)
    unfold termsR
    rw [ht, List.map_map]
    exact Ret.rt
  | reward a t =>
    refine DSs_cons (DS_set 6 (DE_ixT (DE_var 5) DE_int) ?_ nd)
    refine DSs_cons (DS_set 7 (DE_ixT (DE_ixT (DV.de (DV_fld (DV_var 0) G.cls G.noat)) (DE_var 2) ixq) DE_int) ?_ nd)
    refine DSs_cons (DS_if (DT_eqS (DE_var 6) DE_str) (fun h => absurd h (by decide)) fun _ => ?_)
    refine DSs_nil ?_
    refine DSs_cons (DS_if (DT_eqS (DE_var 6) DE_str) (fun _ => ?_) fun h => absurd h (by decide))
    refine DSs_cons (DS_ret (DN.de (DN_lst (DA_cons (DE_tup (DA_cons (DE_gany (G.glo "ONE")) (DA_cons (DE_tup (DA_cons (DE_tup (DA_cons (DE_var 2) (DA_cons (DE_ixT (DE_var 5) DE_int) (DA_cons (DE_var 4) DA_nil)))) DA_nil)) DA_nil))) DA_nil))) ?_)
    unfold termsR
    rw [ht]
    exact Ret.rt
  | call r gs =>
    refine DSs_cons (DS_set 6 (DE_ixT (DE_var 5) DE_int) ?_ nd)
    refine DSs_cons (DS_set 7 (DE_ixT (DE_ixT (DV.de (DV_fld (DV_var 0) G.cls G.noat)) (DE_var 2) ixq) DE_int) ?_ nd)
    refine DSs_cons (DS_if (DT_eqS (DE_var 6) DE_str) (fun h => absurd h (by decide)) fun _ => ?_)
    refine DSs_nil ?_
    refine DSs_cons (DS_if (DT_eqS (DE_var 6) DE_str) (fun h => absurd h (by decide)) fun _ => ?_)
    refine DSs_nil ?_
    refine DSs_cons (DS_if (DT_eqS (DE_var 6) DE_str) (fun _ => ?_) fun h => absurd h (by decide))
    exact DSs_cons (DS_ret (DE_call (c_call_terms G) R (DA_cons (DE_var 0) (DA_cons (DE_var 1) (DA_cons (DE_var 5) DA_nil))) ⟨rfl, ps, (p, i, w), r, gs, rfl, G', iu, ht, ok, rfl, rfl⟩) Ret.rt)
  | exit e =>
    refine DSs_cons (DS_set 6 (DE_ixT (DE_var 5) DE_int) ?_ nd)
    refine DSs_cons (DS_set 7 (DE_ixT (DE_ixT (DV.de (DV_fld (DV_var 0) G.cls G.noat)) (DE_var 2) ixq) DE_int) ?_ nd)
    refine DSs_cons (DS_if (DT_eqS (DE_var 6) DE_str) (fun h => absurd h (by decide)) fun _ => ?_)
    refine DSs_nil ?_
    refine DSs_cons (DS_if (DT_eqS (DE_var 6) DE_str) (fun h => absurd h (by decide)) fun _ => ?_)
    refine DSs_nil ?_
    refine DSs_cons (DS_if (DT_eqS (DE_var 6) DE_str) (fun h => absurd h (by decide)) fun _ => ?_)
    refine DSs_nil ?_
    refine DSs_cons (DS_set 10 (DE_add (DE_var 7) (DE_intB (G.free "int") (DE_eqS (DE_var 6) DE_str))) ?_ nd)
    refine DSs_cons (DS_if (DT_eqS (DE_var 6) DE_str) (fun _ => ?_) fun h => absurd h (by decide))
    refine DSs_cons (DS_set 10 (DE_ixT (DE_var 5) DE_int) ?_ nd)
    refine DSs_nil ?_
    have z := sk (decide (w = e))
    refine DSs_cons (DS_ret (d := if decide (w = e) = true then .lst [.tup [.any, .tup []]] else .lst []) (DE_ifExp (DT_eqI (DE_var 4) (DE_var 10)) (fun h => DE.eq (DN.de (DN_lst (DA_cons (DE_tup (DA_cons (DE_gany (G.glo "ONE")) (DA_cons (DE_tup DA_nil) DA_nil))) DA_nil))) (by rw [if_pos h])) fun h => DE.eq (DN.de (DN_lst DA_nil)) (by rw [if_neg (by rw [h]; decide)])) ?_)
    rw [← z]
    unfold termsR
    rw [ht]
    simp only [decide_eq_true_eq]
    exact Ret.rt
  | reject =>
    refine DSs_cons (DS_set 6 (DE_ixT (DE_var 5) DE_int) ?_ nd)
    refine DSs_cons (DS_set 7 (DE_ixT (DE_ixT (DV.de (DV_fld (DV_var 0) G.cls G.noat)) (DE_var 2) ixq) DE_int) ?_ nd)
    refine DSs_cons (DS_if (DT_eqS (DE_var 6) DE_str) (fun h => absurd h (by decide)) fun _ => ?_)
    refine DSs_nil ?_
    refine DSs_cons (DS_if (DT_eqS (DE_var 6) DE_str) (fun h => absurd h (by decide)) fun _ => ?_)
    refine DSs_nil ?_
    refine DSs_cons (DS_if (DT_eqS (DE_var 6) DE_str) (fun h => absurd h (by decide)) fun _ => ?_)
    refine DSs_nil ?_
    refine DSs_cons (DS_set 10 (DE.eq (DE_add (DE_var 7) (DE_intB (G.free "int") (DE_eqS (DE_var 6) DE_str))) (d' := .int (prAt ps p).1) (by rw [if_neg (by decide), Int.add_zero])) ?_ nd)
    refine DSs_cons (DS_if (DT_eqS (DE_var 6) DE_str) (fun h => absurd h (by decide)) fun _ => ?_)
    refine DSs_nil ?_
    have z := sk (decide (w = (prAt ps p).1))
    refine DSs_cons (DS_ret (d := if decide (w = (prAt ps p).1) = true then .lst [.tup [.any, .tup []]] else .lst []) (DE_ifExp (DT_eqI (DE_var 4) (DE_var 10)) (fun h => DE.eq (DN.de (DN_lst (DA_cons (DE_tup (DA_cons (DE_gany (G.glo "ONE")) (DA_cons (DE_tup DA_nil) DA_nil))) DA_nil))) (by rw [if_pos h])) fun h => DE.eq (DN.de (DN_lst DA_nil)) (by rw [if_neg (by rw [h]; decide)])) ?_)
    rw [← z]
    unfold termsR
    rw [ht]
    simp only [decide_eq_true_eq]
    exact Ret.rt
  | stop =>
    refine DSs_cons (DS_set 6 (DE_ixT (DE_var 5) DE_int) ?_ nd)
    refine DSs_cons (DS_set 7 (DE_ixT (DE_ixT (DV.de (DV_fld (DV_var 0) G.cls G.noat)) (DE_var 2) ixq) DE_int) ?_ nd)
    refine DSs_cons (DS_if (DT_eqS (DE_var 6) DE_str) (fun h => absurd h (by decide)) fun _ => ?_)
    refine DSs_nil ?_
    refine DSs_cons (DS_if (DT_eqS (DE_var 6) DE_str) (fun h => absurd h (by decide)) fun _ => ?_)
    refine DSs_nil ?_
    refine DSs_cons (DS_if (DT_eqS (DE_var 6) DE_str) (fun h => absurd h (by decide)) fun _ => ?_)
    refine DSs_nil ?_
    refine DSs_cons (DS_set 10 (DE.eq (DE_add (DE_var 7) (DE_intB (G.free "int") (DE_eqS (DE_var 6) DE_str))) (d' := .int ((prAt ps p).1 + 1)) (by rw [if_pos (by decide)])) ?_ nd)
    refine DSs_cons (DS_if (DT_eqS (DE_var 6) DE_str) (fun h => absurd h (by decide)) fun _ => ?_)
    refine DSs_nil ?_
    have z := sk (decide (w = (prAt ps p).1 + 1))
    refine DSs_cons (DS_ret (d := if decide (w = (prAt ps p).1 + 1) = true then .lst [.tup [.any, .tup []]] else .lst []) (DE_ifExp (DT_eqI (DE_var 4) (DE_var 10)) (fun h => DE.eq (DN.de (DN_lst (DA_cons (DE_tup (DA_cons (DE_gany (G.glo "ONE")) (DA_cons (DE_tup DA_nil) DA_nil))) DA_nil))) (by rw [if_pos h])) fun h => DE.eq (DN.de (DN_lst DA_nil)) (by rw [if_neg (by rw [h]; decide)])) ?_)
    rw [← z]
    unfold termsR
    rw [ht]
    simp only [decide_eq_true_eq]
    exact Ret.rt
end Od
namespace Od
open PySem PySem.Spec PyProof.Rows L2
theorem perm_map_inv {α β : Type} {f : α → β} {l m : List β} (h : l.Perm m) : ∀ L0 : List α, m = L0.map f → ∃ L : List α, L.Perm L0 ∧ l = L.map f := by
  induction h with
  | nil => intro L0 e; exact ⟨[], by rw [List.map_eq_nil_iff.mp e.symm], rfl⟩
  | cons x h ih =>
    intro L0 e
    cases L0 with
    | nil => cases e
    | cons y L0 =>
      rw [List.map_cons] at e
      injection e with e1 e2
      obtain ⟨L, p, q⟩ := ih L0 e2
      exact ⟨y :: L, p.cons y, by rw [List.map_cons, ← q, e1]⟩
  | swap x y l =>
    intro L0 e
    match L0, e with
    | [], e => cases e
    | [_], e => simp at e
    | a :: b :: L0, e =>
      simp only [List.map_cons, List.cons.injEq] at e
      exact ⟨b :: a :: L0, List.Perm.swap .., by simp [e.1, e.2.1, e.2.2]⟩
  | trans h1 h2 ih1 ih2 =>
    intro L0 e
    obtain ⟨L, p, q⟩ := ih2 L0 e
    obtain ⟨L', p', q'⟩ := ih1 L q
    exact ⟨L', p'.trans p, q'⟩
def kUK (u : U) : List Key := (uK u).map Sum.inl
section
variable {X : Cx}
theorem rows_of {H : Hp} {kvs : List (List Key × V)} {xs : List (List Key × Addr × Value)} (r : KT H kvs xs) : ∀ us : List U, kvs.map (·.1) = us.map kUK → ∃ L0 : List (Addr × U), xs.map (fun x => Value.ref x.2.1) = L0.map (fun q => Value.ref q.1) ∧ L0.map (·.2) = us ∧ ∀ q ∈ L0, H q.1 = some (.tup ((kUK q.2).map kV)) := by
  induction r with
  | nil => intro us e; cases us with
    | nil => exact ⟨[], rfl, rfl, fun q hq => by cases hq⟩
    | cons _ _ => cases e
  | @cons p q ps qs h t ih =>
    intro us e
    obtain ⟨h1, h2, _⟩ := h
    cases us with
    | nil => cases e
    | cons u us =>
      rw [List.map_cons, List.map_cons] at e
      injection e with e1 e2
      obtain ⟨L0, a, b, c⟩ := ih us e2
      refine ⟨(q.2.1, u) :: L0, by rw [List.map_cons, List.map_cons, a], by rw [List.map_cons, b], fun z hz => ?_⟩
      rcases List.mem_cons.mp hz with z' | z'
      · rw [z', ← e1]; exact h2
      · exact c z z'
theorem kv_ints (u : U) : (kUK u).map kV = (uK u).map V.int := rfl
def rSortU_ : List V → Hp → VK → Prop := fun vs H Q => ∃ (a : Addr) (kvs : List (List Key × V)) (us : List U), vs = [.ref a] ∧ Rd H a (.dT kvs) ∧ kvs.map (·.1) = us.map kUK ∧ us.length < 64 ∧ (∀ u ∈ us, TS.Bd 64 (uK u)) ∧
  ∀ (L : List (Addr × U)) (p : Addr), (L.map (·.2)).Perm us → (∀ q ∈ L, H q.1 = some (.tup ((kUK q.2).map kV))) → L.Pairwise (fun q r => TS.code 64 (uK q.2) ≤ TS.code 64 (uK r.2)) → H p = none → Q (.ref p) (upd H p (.lst (L.map fun q => V.ref q.1)))
theorem cr_sortedU (hc : X.calm = true) : CallR X (.builtin "sorted") rSortU_ := by
  intro pins s σ H vs ws Q I r h
  obtain ⟨a, kvs, us, rfl, hd, hk, h64, hB, q⟩ := h
  rw [Vals.ref1 r]
  obtain ⟨z, lo, xs, rel, dd⟩ := dt_rd I.hok hd
  obtain ⟨L0, e0, eu, hT⟩ := rows_of rel us hk
  obtain ⟨o, es, ep, ho, hex, hdat, hes, his, hnd⟩ := dd
  have hkey : es.toList.map (·.key) = L0.map fun q => Value.ref q.1 := by
    rw [hes, List.map_map, ← e0]; rfl
  have hlen : es.size = L0.length := by
    have := congrArg List.length hkey
    rw [List.length_map, List.length_map, Array.length_toList] at this
    exact this
  have lu : L0.length = us.length := by rw [← eu, List.length_map]
  refine Calls.call_function_entry PyProof.Rows.kind_sorted PyProof.Rows.plain_sorted PyProof.Rows.entry_sorted (PyProof.Rows.args_sorted1 _) ?_
  unfold Builtin.«sorted»
  refine wpAny_bind (m := checkCount "sorted" 1 1 _) (wpAny_pure ?_)
  refine wpAny_bind (PySem.W.kdu_collect (A := X.A.in1) (PySem.KdlSrc.rawDict (prog := X.prog) (w := X.w) (es := es) (ep := ep) lo) (I.ok.hd hc) ⟨o, ho, hex, hdat⟩ (by rw [hlen, lu, sizeLine_eq]; omega) fun h' tk acc hkp hacc => ?_)
  have hvs : acc.toList = L0.map fun q => Value.ref q.1 := by
    rw [← hkey]
    apply List.ext_getElem?
    intro j
    by_cases hj : j < es.size
    · have h1 : j < acc.size := by rw [hacc.1]; exact hj
      obtain ⟨_, e⟩ := hacc.2 j acc[j] (by rw [Array.getElem?_eq_getElem h1])
      rw [Array.getElem?_toList, Array.getElem?_eq_getElem h1, List.getElem?_map, Array.getElem?_toList, Array.getElem?_eq_getElem hj, e]; rfl
    · rw [List.getElem?_eq_none (by rw [Array.length_toList, hacc.1]; omega), List.getElem?_eq_none (by rw [List.length_map, Array.length_toList]; omega)]
  have hvl : acc.toList.length < 64 := by rw [hvs, List.length_map, lu]; exact h64
  have I1 : Inv X pins σ H { s with heap := h', toks := tk } := I.kept hkp
  refine wpAny_bind (wpAny_newList ?_ (by rw [sizeLine_eq]; omega))
  have hoL : (h'.push (seqObj "list" acc.toList.toArray 0)).get? h'.objs.size = some (seqObj "list" acc.toList.toArray 0) := Heap.get?_push_size _ rfl
  show wpAny _ _ _ _ _ { s with heap := h'.push (seqObj "list" acc.toList.toArray 0), toks := tk }
  have tk0 : ∀ q ∈ L0, TS.TupInts (h'.push (seqObj "list" acc.toList.toArray 0)) (.ref q.1) (uK q.2) := fun q hq =>
    (tupI_raw I1 (SqT.of (K := X.K) (hT q hq))).keeps fun b o e _ => Heap.get?_push_of_some _ e
  have x : TS.TupsOk (h'.push (seqObj "list" acc.toList.toArray 0)) 3 64 acc.toList := fun v hv => by
    rw [hvs] at hv
    obtain ⟨q, hq, e⟩ := List.mem_map.mp hv
    rw [← e]
    exact ⟨uK q.2, tk0 q hq, rfl, hB q.2 (by rw [← eu]; exact List.mem_map_of_mem hq)⟩
  refine wpAny_bind (wpAny_holding (TS.call_sort_tups (s := { s with heap := h'.push (seqObj "list" acc.toList.toArray 0), toks := tk }) hoL hvl (by decide) x fun out a1 a2 => ?_))
  obtain ⟨c, hcc⟩ := PyProof.Rows.sortedHeap_at (vs := acc.toList) (out := out) hoL
  obtain ⟨L, pL, eL⟩ := perm_map_inv a1 L0 hvs
  have mL : ∀ q ∈ L, q ∈ L0 := fun q hq => pL.mem_iff.mp hq
  have pw : L.Pairwise (fun q r => TS.code 64 (uK q.2) ≤ TS.code 64 (uK r.2)) := by
    rw [eL] at a2
    refine List.Pairwise.imp_of_mem (fun {q r} hq hr hle => ?_) (List.pairwise_map.mp a2)
    have f1 := (tk0 q (mL q hq)).ints
    have f2 := (tk0 r (mL r hr)).ints
    rw [← f1, ← f2]
    exact hle
  have hlen2 : (L.map fun q => V.ref q.1).length ≤ sizeLine := by
    rw [List.length_map, pL.length_eq, lu, sizeLine_eq]; omega
  have hv : Vals (L.map fun q => V.ref q.1) out.toList := by
    rw [eL]
    clear pL eL mL pw hlen2
    induction L with
    | nil => exact .nil
    | cons y L ih => exact .cons rfl ih
  have hn : H h'.objs.size = none := I1.hok.fresh (Nat.le_refl _)
  refine wpAny_pure ⟨_, rfl, .ref h'.objs.size, upd H h'.objs.size (.lst (L.map fun q => V.ref q.1)), I1.laid (t' := tk) (fun b u e => ?_) (Nat.le_refl _)
    (show ObjOk X.prog X.w _ _ _ (.lst (L.map fun q => V.ref q.1)) from ⟨hlen2, out.toList, c, hv, by rw [Array.toArray_toList]; exact hcc⟩), rfl, q L _ (by rw [← eu]; exact pL.map _) (fun z hz => hT z (mL z hz)) pw hn⟩
  have hb : b < h'.objs.size := Heap.lt_size e
  show (sortedHeap (h'.push (seqObj "list" acc.toList.toArray 0)) h'.objs.size acc.toList out).get? b = some u
  rw [PyProof.Rows.sortedHeap_old (Nat.ne_of_lt hb) (by rw [size_push']; exact Nat.lt_succ_of_lt hb)]
  exact Heap.get?_push_of_some _ e
end
theorem boot_sorted' : bootBuiltins "sorted" = some (.builtin "sorted") := by decide +kernel
theorem repK_keys {K : PySem.W.Frag} {B : Hp} : ∀ {ks : List (List Int × D)} {ws : List (List Key × V)}, RepK K B ks ws → ws.map (·.1) = ks.map fun k => k.1.map Sum.inl
  | [], _, h => by cases h; rfl
  | (k, d) :: ks, _, h => by
    obtain ⟨x, r, rfl, _, h2⟩ := h
    rw [List.map_cons, List.map_cons, repK_keys h2]
theorem reps_keys {K : PySem.W.Frag} {B : Hp} : ∀ L : List (Addr × U), (∀ q ∈ L, B q.1 = some (.tup ((kUK q.2).map kV))) → Reps K B ((L.map (·.2)).map uD) (L.map fun q => V.ref q.1)
  | [], _ => rfl
  | y :: L, h => ⟨.ref y.1, _, rfl, uD_of_key (h y (by simp)), reps_keys L fun q hq => h q (by simp [hq])⟩
theorem code_inj {u v : U} (hu : TS.Bd 64 (uK u)) (hv : TS.Bd 64 (uK v)) (h : TS.code 64 (uK u) = TS.code 64 (uK v)) : u = v := by
  obtain ⟨a, b, c⟩ := u
  obtain ⟨x, y, z⟩ := v
  have e2 : (64 : Int) ^ 2 = 4096 := by decide
  have e1 : (64 : Int) ^ 1 = 64 := by decide
  have e0 : (64 : Int) ^ 0 = 1 := by decide
  have h : a * 64 ^ 2 + (b * 64 ^ 1 + (c * 64 ^ 0 + 0)) = x * 64 ^ 2 + (y * 64 ^ 1 + (z * 64 ^ 0 + 0)) := h
  rw [e2, e1, e0] at h
  have a1 := hu a (by simp [uK]); have a2 := hu b (by simp [uK]); have a3 := hu c (by simp [uK])
  have b1 := hv x (by simp [uK]); have b2 := hv y (by simp [uK]); have b3 := hv z (by simp [uK])
  have : a = x ∧ b = y ∧ c = z := by omega
  obtain ⟨rfl, rfl, rfl⟩ := this
  rfl
section
variable {X : Cx} {a : Expr} {ρ : Rho} {μ μ1 : Mu} {d1 : D} {pos cp : Pos} {ks : List (List Int × D)} {us ys : List U}
theorem DN_sortedU (hm : X.mg "sorted" = none) (ha : DE X a ρ μ d1 μ1) (hd : DicAt X.K μ1 d1 ks) (hk : ks.map (·.1) = us.map uK) (h64 : us.length < 64) (hB : ∀ u ∈ us, TS.Bd 64 (uK u)) (hp : ys.Perm us) (hs : ys.Pairwise (fun u v => TS.code 64 (uK u) ≤ TS.code 64 (uK v)))
    (hc : X.calm = true := by rfl) (hg : Gl X "sorted" := by rfl) (he : starEach [a] X.env = (false, eval a X.env) :: starEach [] X.env := by rfl) : DN X (.Call (.Name "sorted" cp) [a] [] pos) ρ μ (.lst (ys.map uD)) μ1 :=
  DN_callB (cr_sortedU hc) (ds := [d1]) (fun B H xs Q S r k => by
    obtain ⟨x, rfl, rx⟩ := reps1 r
    obtain ⟨p, ws, rfl, e1, rk⟩ := hd.rd S rx
    refine ⟨p, ws, us, rfl, e1, ?_, h64, hB, fun L q hL hT pw hq => ?_⟩
    · rw [repK_keys rk]
      have := congrArg (List.map fun k : List Int => (k.map Sum.inl : List Key)) hk
      rw [List.map_map, List.map_map] at this
      exact this
    · have eL : L.map (·.2) = ys := by
        refine List.Perm.eq_of_pairwise (le := fun u v => TS.code 64 (uK u) ≤ TS.code 64 (uK v)) (fun u v hu hv h1 h2 => ?_) (List.pairwise_map.mpr pw) hs (hL.trans hp.symm)
        exact code_inj (hB u (hL.mem_iff.mp hu)) (hB v (hp.mem_iff.mp hv)) (Int.le_antisymm h1 h2)
      have i1 : Inc B (fun b => if b ∈ L.map (·.1) then H b else B b) := fun b u e => by
        by_cases hb : b ∈ L.map (·.1)
        · simp only [hb, if_true]; exact S.sub _ _ e
        · simp only [hb, if_false]; exact e
      have hin : ∀ q ∈ L, (fun b => if b ∈ L.map (·.1) then H b else B b) q.1 = some (.tup ((kUK q.2).map kV)) := fun q hq => by
        have : q.1 ∈ L.map (·.1) := List.mem_map_of_mem hq
        simp only [this, if_true]; exact hT q hq
      have S2 : Sat X.K (fun b => if b ∈ L.map (·.1) then H b else B b) H μ1 := ⟨fun b u e => by
        by_cases hb : b ∈ L.map (·.1)
        · simp only [hb, if_true] at e; exact e
        · simp only [hb, if_false] at e; exact S.sub _ _ e, S.nd, fun z hz => by
        obtain ⟨h1, h2⟩ := S.own z hz
        obtain ⟨u, h3, m⟩ := h2.some
        have ne : z.1 ∉ L.map (·.1) := fun w => by
          obtain ⟨q, hq, eq⟩ := List.mem_map.mp w
          have := hT q hq
          rw [eq, h3] at this
          cases this; exact m
        exact ⟨by simp only [ne, if_false]; exact h1, h2.inc i1 rfl⟩⟩
      refine k _ _ q i1 (S2.newM hq ⟨_, upd_same, ?_⟩)
      rw [← eL]
      exact reps_keys L hin) hm boot_sorted' (DA_cons ha DA_nil he) hg (he := he)
end
end Od
namespace Od
abbrev Fs := U → List (List U)
def okF (T : Fs) (pos : List U) (u : U) : Bool := (T u).any fun fs => fs.all fun f => decide (f ∈ pos)
def stp (T : Fs) (pos : List U) (u : U) : List U := if u ∈ pos then pos else if okF T pos u = true then pos ++ [u] else pos
def rnd (T : Fs) (us pos : List U) : List U := us.foldl (stp T) pos
def rnds (T : Fs) (us : List U) : Nat → List U
  | 0 => []
  | k + 1 => rnd T us (rnds T us k)
theorem stp_pre (T : Fs) (pos : List U) (u : U) : pos <+: stp T pos u := by
  unfold stp
  split
  · exact List.prefix_refl _
  · split
    · exact List.prefix_append _ _
    · exact List.prefix_refl _
theorem foldl_pre (T : Fs) : ∀ (us pos : List U), pos <+: us.foldl (stp T) pos
  | [], pos => List.prefix_refl _
  | u :: us, pos => (stp_pre T pos u).trans (foldl_pre T us _)
theorem stp_nd {T : Fs} {pos : List U} {u : U} (h : pos.Nodup) : (stp T pos u).Nodup := by
  unfold stp
  split
  · exact h
  · split
    · rename_i h1 _
      rw [List.nodup_append]
      exact ⟨h, by simp, fun a ha b hb => by rw [List.mem_singleton] at hb; subst hb; exact fun e => h1 (e ▸ ha)⟩
    · exact h
theorem foldl_nd {T : Fs} : ∀ {us pos : List U}, pos.Nodup → (us.foldl (stp T) pos).Nodup
  | [], _, h => h
  | u :: us, pos, h => foldl_nd (us := us) (pos := stp T pos u) (stp_nd h)
theorem stp_sub {T : Fs} {pos us : List U} {u : U} (h : ∀ x ∈ pos, x ∈ us) (hu : u ∈ us) : ∀ x ∈ stp T pos u, x ∈ us := by
  unfold stp
  split
  · exact h
  · split
    · intro x hx
      rcases List.mem_append.mp hx with hx | hx
      · exact h x hx
      · rw [List.mem_singleton] at hx; subst hx; exact hu
    · exact h
theorem foldl_sub {T : Fs} {us : List U} : ∀ {vs pos : List U}, (∀ x ∈ vs, x ∈ us) → (∀ x ∈ pos, x ∈ us) → ∀ x ∈ vs.foldl (stp T) pos, x ∈ us
  | [], _, _, h => h
  | v :: vs, pos, hv, h => foldl_sub (vs := vs) (fun x hx => hv x (by simp [hx])) (stp_sub h (hv v (by simp)))
theorem rnds_nd (T : Fs) (us : List U) : ∀ k, (rnds T us k).Nodup
  | 0 => List.nodup_nil
  | k + 1 => foldl_nd (rnds_nd T us k)
theorem rnds_sub (T : Fs) (us : List U) : ∀ k, ∀ x ∈ rnds T us k, x ∈ us
  | 0 => fun x hx => by cases hx
  | k + 1 => foldl_sub (fun x hx => hx) (rnds_sub T us k)
theorem nodup_len {l m : List U} (h : l.Nodup) (s : ∀ x ∈ l, x ∈ m) : l.length ≤ m.length := by
  induction l generalizing m with
  | nil => simp
  | cons x l ih =>
    rw [List.nodup_cons] at h
    have hx := s x (by simp)
    have := ih (m := m.erase x) h.2 fun y hy => by
      have ne : y ≠ x := fun e => h.1 (e ▸ hy)
      exact (List.mem_erase_of_ne ne).mpr (s y (by simp [hy]))
    rw [List.length_erase_of_mem hx] at this
    have : 0 < m.length := List.length_pos_of_mem hx
    simp; omega
theorem rnds_len (T : Fs) (us : List U) (k : Nat) : (rnds T us k).length ≤ us.length := nodup_len (rnds_nd T us k) (rnds_sub T us k)
theorem rnds_grow {T : Fs} {us : List U} : ∀ {k : Nat}, (∀ j, j < k → rnds T us (j + 1) ≠ rnds T us j) → k ≤ (rnds T us k).length
  | 0, _ => Nat.zero_le _
  | k + 1, h => by
    have ih := rnds_grow (T := T) (us := us) (k := k) fun j hj => h j (by omega)
    have hp : rnds T us k <+: rnds T us (k + 1) := foldl_pre T us _
    have hl := hp.length_le
    have ne := h k (by omega)
    have : (rnds T us k).length ≠ (rnds T us (k + 1)).length := fun e => ne (hp.eq_of_length e).symm
    omega
theorem rnds_stay {T : Fs} {us : List U} {k : Nat} (h : rnds T us (k + 1) = rnds T us k) : ∀ j, rnds T us (k + j) = rnds T us k
  | 0 => rfl
  | j + 1 => by
    have := rnds_stay h j
    show rnd T us (rnds T us (k + j)) = _
    rw [this]; exact h
/-- the positive unknowns -/
def posR (T : Fs) (us : List U) : List U := rnds T us (us.length + 1)
theorem posR_of {T : Fs} {us : List U} {k : Nat} (h : rnds T us (k + 1) = rnds T us k) (hk : k ≤ us.length + 1) : rnds T us k = posR T us := by
  obtain ⟨j, hj⟩ := Nat.exists_eq_add_of_le hk
  unfold posR
  rw [hj, rnds_stay h j]
theorem posR_fix (T : Fs) (us : List U) : rnd T us (posR T us) = posR T us := by
  have : ∃ k, k ≤ us.length ∧ rnds T us (k + 1) = rnds T us k := by
    refine Decidable.byContradiction fun hn => ?_
    have := rnds_grow (T := T) (us := us) (k := us.length + 1) fun j hj e => hn ⟨j, by omega, e⟩
    have := rnds_len T us (us.length + 1)
    omega
  obtain ⟨k, hk, e⟩ := this
  rw [← posR_of e (by omega)]
  exact e
theorem posR_sub (T : Fs) (us : List U) : ∀ x ∈ posR T us, x ∈ us := rnds_sub T us _
theorem posR_nd (T : Fs) (us : List U) : (posR T us).Nodup := rnds_nd T us _
def mapD (us : List U) (f : U → D) : List (List Int × D) := us.map fun u => (uK u, f u)
theorem getK_map (us : List U) (f : U → D) (u : U) : getK (mapD us f) (uK u) = if u ∈ us then some (f u) else none := by
  unfold getK mapD
  induction us with
  | nil => rfl
  | cons v us ih =>
    rw [List.map_cons, List.find?_cons]
    by_cases h : v = u
    · subst h
      simp
    · have : uK v ≠ uK u := fun e => h (uK_inj e)
      simp only [this, decide_false]
      rw [ih]
      have e : (u ∈ v :: us) ↔ u ∈ us := by
        rw [List.mem_cons]
        exact ⟨fun z => z.resolve_left fun e => h e.symm, Or.inr⟩
      by_cases h2 : u ∈ us
      · rw [if_pos h2, if_pos (e.mpr h2)]
      · rw [if_neg h2, if_neg fun z => h2 (e.mp z)]
theorem putD_new {us : List U} {f : U → D} {u : U} (h : u ∉ us) (d : D) : putD (mapD us f) (uK u) d = mapD us f ++ [(uK u, d)] := by
  unfold putD
  rw [getK_map, if_neg h]
  rfl
def posD (pos : List U) : List (List Int × D) := mapD pos fun _ => .bl true
theorem posD_put {pos : List U} {u : U} (h : u ∉ pos) : putD (posD pos) (uK u) (.bl true) = posD (pos ++ [u]) := by
  unfold posD
  rw [putD_new h]
  unfold mapD
  rw [List.map_append]; rfl
theorem posD_again {pos : List U} {u : U} (h : u ∈ pos) : putD (posD pos) (uK u) (.bl true) = posD pos := by
  unfold putD posD
  rw [getK_map, if_pos h]
  simp only [Option.isSome_some, if_true]
  unfold mapD
  rw [List.map_map]
  apply List.map_congr_left
  intro x _
  show (if uK x = uK u then (uK x, D.bl true) else (uK x, D.bl true)) = _
  split <;> rfl
theorem posD_get (pos : List U) (u : U) : (getK (posD pos) (uK u)).isSome = decide (u ∈ pos) := by
  unfold posD
  rw [getK_map]
  by_cases h : u ∈ pos <;> simp [h]
end Od
namespace Od
open PySem PySem.Spec PyProof.Rows L2
def facF (ps : List Proc) : Fs := fun u => (termsR ps u).map (·.2)
def posU (ps : List Proc) : List U := posR (facF ps) (unkR ps)
/-- the positive unknowns in their order -/
def livU (ps : List Proc) : List U := (unkR ps).filter fun u => decide (u ∈ posU ps)
def allIn (pos : List U) (fs : List U) : Bool := fs.all fun f => decide (f ∈ pos)
def sysF (ps : List Proc) (u : U) : List (List U) := (facF ps u).filter (allIn (posU ps))
def sysD (ps : List Proc) : D := .dic (mapD (livU ps) fun u => .lst ((sysF ps u).map pT))
theorem unkR_nd (ps : List Proc) : (unkR ps).Nodup := by
  have key : ∀ (f : Nat → List U) (n : Nat), (∀ i, (f i).Nodup) → (∀ i j, i ≠ j → ∀ x ∈ f i, x ∉ f j) → ((List.range n).flatMap f).Nodup := fun f n h1 h2 => by
    induction n with
    | zero => simp
    | succ n ih =>
      rw [flatMap_succ, List.nodup_append]
      refine ⟨ih, h1 n, fun a ha b hb e => ?_⟩
      obtain ⟨i, hi, hx⟩ := List.mem_flatMap.mp ha
      have := List.mem_range.mp hi
      exact h2 i n (by omega) a hx (e ▸ hb)
  have kI : ∀ q p i, (unkI q p i).Nodup := fun q p i => by
    unfold unkI
    refine List.pairwise_map.mpr (List.Pairwise.imp (fun h => ?_) List.nodup_range)
    intro e
    simp only [Prod.mk.injEq, true_and] at e
    omega
  have mI : ∀ {q p i x}, x ∈ unkI q p i → x.1 = (p : Int) ∧ x.2.1 = (i : Int) := fun h => by
    obtain ⟨w, _, rfl⟩ := List.mem_map.mp h
    exact ⟨rfl, rfl⟩
  have mP : ∀ {q p x}, x ∈ unkP q p → x.1 = (p : Int) := fun h => by
    obtain ⟨i, _, hx⟩ := List.mem_flatMap.mp h
    exact (mI hx).1
  refine key _ _ (fun p => key _ _ (fun i => kI _ p i) fun i j hij x hx hx2 => ?_) fun i j hij x hx hx2 => ?_
  · have a := (mI hx).2
    have b := (mI hx2).2
    omega
  · have a := mP hx
    have b := mP hx2
    omega
theorem inU_bd {ps : List Proc} (G : GoodP ps) {u : U} (h : InU ps u) : TS.Bd 64 (uK u) := by
  have hl := G.len
  obtain ⟨q1, q2, q3, q4, _⟩ := G.each _ (prAt_mem h.1 h.2.1)
  obtain ⟨h1, h2, h3, h4, h5, h6⟩ := h
  intro m hm
  unfold uK at hm
  simp only [List.mem_cons, List.not_mem_nil, or_false] at hm
  rcases hm with rfl | rfl | rfl <;> omega
theorem unkR_sorted {ps : List Proc} (G : GoodP ps) : (unkR ps).Pairwise fun u v => TS.code 64 (uK u) ≤ TS.code 64 (uK v) := by
  have cd : ∀ u : U, TS.code 64 (uK u) = u.1 * 4096 + (u.2.1 * 64 + u.2.2) := fun u => by
    have e2 : (64 : Int) ^ 2 = 4096 := by decide
    have e1 : (64 : Int) ^ 1 = 64 := by decide
    have e0 : (64 : Int) ^ 0 = 1 := by decide
    show u.1 * 64 ^ 2 + (u.2.1 * 64 ^ 1 + (u.2.2 * 64 ^ 0 + 0)) = _
    rw [e2, e1, e0]; omega
  have key : ∀ (f : Nat → List U) (n : Nat), (∀ i, i < n → (f i).Pairwise fun u v => TS.code 64 (uK u) ≤ TS.code 64 (uK v)) → (∀ i j, i < j → j < n → ∀ x ∈ f i, ∀ y ∈ f j, TS.code 64 (uK x) ≤ TS.code 64 (uK y)) → ((List.range n).flatMap f).Pairwise fun u v => TS.code 64 (uK u) ≤ TS.code 64 (uK v) := fun f n h1 h2 => by
    induction n with
    | zero => simp
    | succ n ih =>
      rw [flatMap_succ, List.pairwise_append]
      refine ⟨ih (fun i hi => h1 i (by omega)) fun i j a b => h2 i j a (by omega), h1 n (by omega), fun a ha b hb => ?_⟩
      obtain ⟨i, hi, hx⟩ := List.mem_flatMap.mp ha
      have := List.mem_range.mp hi
      exact h2 i n (by omega) (by omega) a hx b hb
  have hl := G.len
  have mI : ∀ {q : Proc} {p i x}, q.1 ≤ 2 → x ∈ unkI q p i → x.1 = (p : Int) ∧ x.2.1 = (i : Int) ∧ 0 ≤ x.2.2 ∧ x.2.2 < 4 := fun hq h => by
    obtain ⟨w, hw, rfl⟩ := List.mem_map.mp h
    have := List.mem_range.mp hw
    exact ⟨rfl, rfl, by show (0 : Int) ≤ (w : Int); omega, by show (w : Int) < 4; omega⟩
  refine key _ _ (fun p hp => ?_) fun p1 p2 h12 hp2 x hx y hy => ?_
  · obtain ⟨q1, q2, q3, q4, _⟩ := G.each _ (G.at hp).1
    refine key _ _ (fun i hi => ?_) fun i j hij hj x hx y hy => ?_
    · unfold unkI
      refine List.pairwise_map.mpr (List.Pairwise.imp (fun h => ?_) List.pairwise_lt_range)
      rw [cd, cd]
      show (p : Int) * 4096 + ((i : Int) * 64 + (_ : Nat)) ≤ (p : Int) * 4096 + ((i : Int) * 64 + (_ : Nat))
      omega
    · have a := mI q2 hx
      have b := mI q2 hy
      rw [cd, cd]
      omega
  · obtain ⟨i, hi, hx⟩ := List.mem_flatMap.mp hx
    obtain ⟨j, hj, hy⟩ := List.mem_flatMap.mp hy
    obtain ⟨q1, q2, q3, q4, _⟩ := G.each _ (G.at (k := p1) (by omega)).1
    obtain ⟨r1, r2, r3, r4, _⟩ := G.each _ (G.at hp2).1
    have a := mI q2 hx
    have b := mI r2 hy
    have := List.mem_range.mp hi
    have := List.mem_range.mp hj
    rw [cd, cd]
    omega
theorem livU_perm (ps : List Proc) : (livU ps).Perm (posU ps) := by
  refine (List.perm_ext_iff_of_nodup ((unkR_nd ps).filter _) (posR_nd _ _)).mpr fun u => ?_
  rw [List.mem_filter, decide_eq_true_eq]
  exact ⟨fun h => h.2, fun h => ⟨posR_sub _ _ u h, h⟩⟩
theorem keys_mapD (us : List U) (f : U → D) : keysD (mapD us f) = us.map uD := by
  unfold keysD mapD
  rw [List.map_map]; rfl
theorem mapD_keys (us : List U) (f : U → D) : (mapD us f).map (·.1) = us.map uK := by
  unfold mapD
  rw [List.map_map]; rfl
def bodyWhile (b : List Stmt) (i : Nat) : List Stmt := match b[i]? with
  | some (.While _ bd _ _) => bd
  | _ => []
def spSys (g : Gv) : Dsp := fun ds μ d μ' => ds.length = 1 ∧ ∃ ps, ds = [grD g ps] ∧ GoodP ps ∧ d = sysD ps ∧ μ = μ'
abbrev n_system_of : List Str := ["graph", "terms", "unknown", "positive", "changed", "factor", "_", "factors", "found", "live", "term"]
theorem sc_system_of : FnScope n_system_of ["graph"] d_system_of.scope := ⟨rfl, rfl, rfl, by decide +kernel, rfl, by decide +kernel, by decide +kernel⟩
theorem c_system_of {g : Gv} (G : Gd g) : Ctr g 7 "system_of" (spD g.K (spSys g)) := by
  obtain ⟨fd, F⟩ := G.def_ 30 (d := d_system_of) rfl
  refine ⟨_, G.glo "system_of", F.kp, fn_of_body F sc_system_of (F.bindsN fun _ _ _ _ _ _ us hl => match us, hl with | [_], _ => rfl) (fun _ _ _ _ h => h.1) fun l ds μ d μ' R h => ?_⟩
  obtain ⟨-, h⟩ := h
  have nd := sc_system_of.nd
  obtain ⟨ps, rfl, G', rfl, rfl⟩ := h
  have hu : (cX g l n_system_of d_system_of.scope).A.units + 1 < cLine := by have := R.un; omega
  have hlen := unkR_len G'
  refine DSs_cons (DS_setDc 1 [("unknown", 2)] (unkR ps) (fun u => .lst ((facF ps u).map pT)) hu (by omega) (unkR_nd ps) (DI_lst (DE_call (c_all_unknowns G) R (DA_cons (DE_var 0) DA_nil) ⟨rfl, ps, rfl, G', rfl, rfl⟩)) (fun _ _ => trivial) (fun u hm a l => ⟨_, _, fun s0 H0 Cc cl fp => DG_name 2 nd, by decide, fun s0 H0 Cc cl fp => (DE_var 2), fun s0 H0 Cc cl fp => DE_call (c_all_terms G) R (DA_cons (DE_var 0) (DA_cons (DE_var 2) DA_nil)) ⟨rfl, ps, u, rfl, G', mem_unkR.mp hm, ?_, rfl⟩⟩) (fun q => ?_) nd (hsw := by rfl))
  · show D.lst (((termsR ps u).map (·.2)).map pT) = _
    rw [List.map_map]; rfl
  refine DSs_freeze 1 [] (h := ?_)
  refine DSs_cons (DS_setN 3 DN_dic (fun q => ?_) nd)
  refine DSs_cons (DS_set 4 DE_bl ?_ nd)
  have getT : ∀ u ∈ unkR ps, getK (mapD (unkR ps) fun u => .lst ((facF ps u).map pT)) (uK u) = some (.lst ((facF ps u).map pT)) := fun u hm => by rw [getK_map, if_pos hm]
  generalize hT : facF ps = T at *
  generalize hus : unkR ps = us at *
  have hposU : posU ps = posR T us := by unfold posU; rw [hT, hus]
  have step : ∀ (P : List U) (u : U), u ∈ us → P.length < 16777216 → ∀ x5 x6 x7 x8 x9 x10 b, DSs (cX g l n_system_of d_system_of.scope) (bodyFor (bodyWhile d_system_of.body 3) 1) [some (grD g ps), some (.dic (mapD us fun u => .lst ((T u).map pT))), some (uD u), some (.ptr q), some (.bl b), x5, x6, x7, x8, x9, x10] ((q, .dic (posD P)) :: μ)
      (fun o => o = .nx [some (grD g ps), some (.dic (mapD us fun u => .lst ((T u).map pT))), some (uD u), some (.ptr q), some (.bl (b || decide (P.length < (stp T P u).length))), x5, x6, x7, x8, x9, x10] ((q, .dic (posD (stp T P u))) :: μ)) := fun P u hm hPl x5 x6 x7 x8 x9 x10 b => by
    have e1 : ((getK (posD P) (uK u)).isSome) = decide (u ∈ P) := posD_get P u
    refine DSs_cons (DS_if (DT_dnotin hu (DE_var 2) (DE_var 3) (.pt 0)) (fun c => ?_) fun c => ?_)
    · rw [e1] at c
      have c : u ∉ P := by simpa using c
      have ea : ((((T u).map fun fs => allIn P fs).any fun z => z)) = okF T P u := by
        rw [List.any_map]; rfl
      refine DSs_cons (DS_if (DT_val (DE_any_ (bs := (T u).map fun fs => allIn P fs) (G.free "any") (DN.de (lcF [("_", 6), ("factors", 7)] (T u) pT (fun fs => .bl (allIn P fs)) (DI_lst (DE_dget hu (DE_var 1) (DE_var 2) .fz (getT u hm))) rfl (fun _ _ => trivial) (fun fs hfs a l => ⟨_, _, fun s0 H0 Cc cl fp => DG_tup (DGs_cons (DG_name 6 nd) (DGs_cons (DG_name 7 nd) DGs_nil)), by decide, fun s0 H0 Cc cl fp => DE.eq (DE_all_ (bs := fs.map fun f => decide (f ∈ P)) (G.free "all") (DN.de (lcF [("factor", 5)] fs uD (fun f => .bl (decide (f ∈ P))) (DI_tup (DE_var 7)) rfl (fun _ _ => trivial) (fun f hf a2 l2 => ⟨_, _, fun s0 H0 Cc cl fp => DG_name 5 nd, by decide, fun s0 H0 Cc cl fp => DE.eq (DE_din hu (DE_var 5) (DE_var 3) (.pt 2)) (by rw [posD_get])⟩) nd (by rw [List.map_map]; rfl)))) (by rw [List.all_map]; rfl)⟩) nd (by rw [List.map_map]; rfl))))) (fun c2 => ?_) fun c2 => ?_)
      · rw [ea] at c2
        have es : stp T P u = P ++ [u] := by unfold stp; rw [if_neg c, if_pos c2]
        refine DSs_cons (DS_put 0 (ks := posD P) hu DE_bl (DE_var 3) (DE_var 2) (by unfold posD mapD; rw [List.length_map]; exact hPl) ?_)
        refine DSs_cons (DS_set 4 DE_bl ?_ nd)
        refine DSs_nil (DSs_nil ?_)
        rw [es, posD_put c, decide_eq_true (by simp), Bool.or_true]
        exact DSs_nil rfl
      · rw [ea] at c2
        have es : stp T P u = P := by unfold stp; rw [if_neg c, if_neg (by rw [c2]; decide)]
        refine DSs_nil (DSs_nil ?_)
        rw [es, decide_eq_false (by omega), Bool.or_false]
        exact DSs_nil rfl
    · rw [e1] at c
      have c : u ∈ P := by simpa using c
      have es : stp T P u = P := by unfold stp; rw [if_pos c]
      refine DSs_nil ?_
      rw [es, decide_eq_false (by omega), Bool.or_false]
      exact DSs_nil rfl
  refine DSs_cons (DS_while (fun m ρ μ' => ∃ k b x2 x5 x6 x7 x8 x9 x10, ρ = [some (grD g ps), some (.dic (mapD us fun u => .lst ((T u).map pT))), x2, some (.ptr q), some (.bl b), x5, x6, x7, x8, x9, x10] ∧ μ' = (q, .dic (posD (rnds T us k))) :: μ ∧
    (b = true → (∀ j, j < k → rnds T us (j + 1) ≠ rnds T us j) ∧ m = us.length + 1 - k) ∧ (b = false → rnds T us k = posR T us ∧ m = 0)) (us.length + 1) ⟨0, true, _, _, _, _, _, _, _, rfl, rfl, fun _ => ⟨fun j hj => absurd hj (Nat.not_lt_zero _), rfl⟩, fun h => nomatch h⟩ ?_)
  rintro m ρ μ' ⟨k, b, x2, x5, x6, x7, x8, x9, x10, rfl, rfl, hb1, hb2⟩
  refine ⟨b, _, DT_val (DE_var 4), fun hb => ?_, fun hb => ?_⟩
  · subst hb
    obtain ⟨hk, rfl⟩ := hb1 rfl
    have hkl := rnds_grow hk
    have hkn := rnds_len T us k
    generalize hP : rnds T us k = P at *
    refine DSs_cons (DS_set 4 DE_bl ?_ nd)
    refine DSs_cons (DS_forD (DV_var 1) (fun i ρ μ' => ∃ x2 x5 x6 x7 x8 x9 x10, ρ = [some (grD g ps), some (.dic (mapD us fun u => .lst ((T u).map pT))), x2, some (.ptr q), some (.bl (decide (P.length < ((us.take i).foldl (stp T) P).length))), x5, x6, x7, x8, x9, x10] ∧ μ' = (q, .dic (posD ((us.take i).foldl (stp T) P))) :: μ) ⟨x2, x5, x6, x7, x8, x9, x10, by simp, rfl⟩ ?_ ?_)
    · rintro i kk d ρ μ' hi ⟨x2, x5, x6, x7, x8, x9, x10, rfl, rfl⟩
      unfold mapD at hi
      rw [List.getElem?_map] at hi
      cases hx : us[i]? with
      | none => rw [hx] at hi; cases hi
      | some u =>
        rw [hx] at hi; cases hi
        have hm := List.mem_of_getElem? hx
        have hpl : ((us.take i).foldl (stp T) P).length < 16777216 := by
          have h1 : ((us.take i).foldl (stp T) P).length ≤ us.length := nodup_len (foldl_nd (by rw [← hP]; exact rnds_nd T us k)) (foldl_sub (fun x hx => List.mem_of_mem_take hx) (by rw [← hP]; exact rnds_sub T us k))
          omega
        refine ⟨_, _, DG_name 2 nd, ?_⟩
        refine DSs.imp (step _ u hm hpl _ _ _ _ _ _ _) ?_
        rintro o rfl
        have e2 : (us.take (i + 1)).foldl (stp T) P = stp T ((us.take i).foldl (stp T) P) u := by
          rw [take_get hx, List.foldl_append]; rfl
        refine ⟨some (uD u), x5, x6, x7, x8, x9, x10, ?_, ?_⟩
        · rw [e2]
          have l1 := (foldl_pre T (us.take i) P).length_le
          have l2 := (stp_pre T ((us.take i).foldl (stp T) P) u).length_le
          have : (decide (P.length < ((us.take i).foldl (stp T) P).length) || decide (((us.take i).foldl (stp T) P).length < (stp T ((us.take i).foldl (stp T) P) u).length)) = decide (P.length < (stp T ((us.take i).foldl (stp T) P) u).length) := by
            rw [Bool.eq_iff_iff]
            simp only [Bool.or_eq_true, decide_eq_true_eq]
            omega
          rw [this]
        · rw [e2]
    · rintro ρ μ' ⟨x2, x5, x6, x7, x8, x9, x10, rfl, rfl⟩
      have el : (mapD us fun u => D.lst ((T u).map pT)).length = us.length := by unfold mapD; rw [List.length_map]
      rw [el, List.take_length]
      have er : us.foldl (stp T) P = rnds T us (k + 1) := by
        show _ = rnd T us (rnds T us k)
        rw [hP]; rfl
      have hp : P <+: rnds T us (k + 1) := by rw [← er]; exact foldl_pre T us P
      rw [er]
      refine DSs_nil ?_
      by_cases hb : P.length < (rnds T us (k + 1)).length
      · refine ⟨us.length + 1 - (k + 1), by omega, k + 1, true, x2, x5, x6, x7, x8, x9, x10, by rw [decide_eq_true hb], rfl, fun _ => ⟨fun j hj => ?_, rfl⟩, fun h => nomatch h⟩
        by_cases hjk : j < k
        · exact hk j hjk
        · obtain rfl : j = k := by omega
          intro e
          rw [e, hP] at hb
          omega
      · have ee : rnds T us (k + 1) = rnds T us k := by
          rw [hP]
          exact (hp.eq_of_length (by have := hp.length_le; omega)).symm
        refine ⟨0, by omega, k + 1, false, x2, x5, x6, x7, x8, x9, x10, by rw [decide_eq_false hb], rfl, (fun h => nomatch h), fun _ => ⟨?_, rfl⟩⟩
        rw [ee]
        exact posR_of ee (by omega)
  · subst hb
    obtain ⟨hPk, _⟩ := hb2 rfl
    rw [hPk]
    have hnlv : (livU ps).Nodup := by unfold livU; exact (unkR_nd ps).filter _
    have hslv : ∀ u ∈ livU ps, u ∈ us := fun u hm => by rw [← hus]; exact (List.mem_filter.mp hm).1
    have hplv := livU_perm ps
    have hsort : (livU ps).Pairwise fun u v => TS.code 64 (uK u) ≤ TS.code 64 (uK v) := by unfold livU; exact (unkR_sorted G').filter _
    have hf : ∀ u, sysF ps u = (T u).filter (allIn (posR T us)) := fun u => by unfold sysF; rw [hT, hposU]
    rw [hposU] at hplv
    have hPl := rnds_len T us (us.length + 1)
    have hPs := posR_sub T us
    have hPl : (posR T us).length ≤ us.length := hPl
    unfold sysD
    simp only [hf]
    generalize livU ps = lv at *
    generalize posR T us = P at *
    have lvl : lv.length ≤ 40 := by rw [hplv.length_eq]; omega
    refine DSs_cons (DS_setN 8 DN_dic (fun q2 => ?_) nd)
    refine DSs_cons (DS_for (DI_lst (DN.de (DN_sortedU (ks := posD P) (us := P) (ys := lv) (G.free "sorted") (DE_var 3) (.pt 1) (mapD_keys P _) (by omega) (fun u hm => inU_bd G' (mem_unkR.mp (by rw [hus]; exact hPs u hm))) hplv hsort))) (fun i ρ μ' => ∃ x2 x5 x6 x7 x9 x10, ρ = [some (grD g ps), some (.dic (mapD us fun u => .lst ((T u).map pT))), x2, some (.ptr q), some (.bl false), x5, x6, x7, some (.ptr q2), x9, x10] ∧ μ' = (q2, .dic (mapD (lv.take i) fun u => .lst (((T u).filter (allIn P)).map pT))) :: (q, .dic (posD P)) :: μ) ⟨x2, x5, x6, x7, x9, x10, rfl, rfl⟩ (fun _ _ _ _ => trivial) ?_ ?_)
    · rintro i d ρ μ' hi ⟨x2, x5, x6, x7, x9, x10, rfl, rfl⟩
      rw [List.getElem?_map] at hi
      cases hx : lv[i]? with
      | none => rw [hx] at hi; cases hi
      | some u =>
        rw [hx] at hi; cases hi
        have hm := hslv u (List.mem_of_getElem? hx)
        have hnew : u ∉ lv.take i := fun h => by
          obtain ⟨j, hj⟩ := List.getElem?_of_mem h
          have hji : j < i := by
            have := (List.getElem?_eq_some_iff.mp hj).1
            rw [List.length_take] at this; omega
          rw [List.getElem?_take_of_lt hji] at hj
          have := (List.getElem?_inj (List.getElem?_eq_some_iff.mp hj).1 hnlv).mp (hj.trans hx.symm)
          omega
        refine ⟨_, _, DG_name 2 nd, ?_⟩
        refine DSs_cons (DS_setLc 9 [("term", 10)] (T u) pT (allIn P) pT (DI_lst (DE_dget hu (DE_var 1) (DE_var 2) .fz (getT u hm))) (fun _ _ => trivial) (fun fs hfs a l => ⟨_, _, fun s0 H0 Cc cl fp => DG_name 10 nd, by decide, fun s0 H0 Cc cl fp => DTs_one (DT.eq (DT_val (DE_all_ (bs := fs.map fun f => decide (f ∈ P)) (G.free "all") (DN.de (lcF [("factor", 5)] fs uD (fun f => .bl (decide (f ∈ P))) (DI_tup (DE_ixT (DE_var 10) DE_int)) rfl (fun _ _ => trivial) (fun f hf a2 l2 => ⟨_, _, fun s0 H0 Cc cl fp => DG_name 5 nd, by decide, fun s0 H0 Cc cl fp => DE.eq (DE_din hu (DE_var 5) (DE_var 3) (.pt 3)) (by rw [posD_get])⟩) nd (by rw [List.map_map]; rfl))))) (by rw [List.all_map]; rfl)), fun _ => fun s0 H0 Cc cl fp => (DE_var 10)⟩) (fun q3 => ?_) nd)
        refine DSs_freeze 9 [] (h := ?_)
        refine DSs_cons (DS_put 0 (ks := mapD (lv.take i) fun u => .lst (((T u).filter (allIn P)).map pT)) hu (DE_var 9) (DE_var 8) (DE_var 2) (by unfold mapD; rw [List.length_map, List.length_take]; omega) ?_)
        refine DSs_nil ⟨some (uD u), x5, x6, x7, _, x10, rfl, ?_⟩
        rw [putD_new hnew, take_get hx]
        unfold mapD
        rw [List.map_append]
        rfl
    · rintro ρ μ' ⟨x2, x5, x6, x7, x9, x10, rfl, rfl⟩
      rw [List.length_map, List.take_length]
      refine DSs_freeze 8 [] (h := ?_)
      exact DSs_cons (DS_ret (DE_var 8) (Ret.of rfl (List.sublist_cons_self _ _)))
end Od
namespace Od
open PySem PySem.Spec PyProof.Rows L2
def blkD (b : List U) : D := .tup (b.map uD)
def pB (b : List U) : PyData := .tuple (b.map pU)
theorem py_blk (b : List U) : py (blkD b) = some (pB b) := by simp [py, blkD, pB, pys_map py_uD]
theorem pUs_eqv : ∀ xs ys : List U, PyData.eqvAll (xs.map pU) (ys.map pU) = decide (xs = ys)
  | [], [] => by simp [PyData.eqvAll]
  | [], _ :: _ => by simp [PyData.eqvAll]
  | _ :: _, [] => by simp [PyData.eqvAll]
  | x :: xs, y :: ys => by
    simp only [List.map_cons, PyData.eqvAll, pUs_eqv xs ys, pU_eqv]
    rw [Bool.eq_iff_iff]
    simp
theorem pB_eqv (x y : List U) : PyData.eqv (pB x) (pB y) = decide (x = y) := by
  unfold pB
  simp only [PyData.eqv]
  exact pUs_eqv x y
theorem plain_U : ∀ us : List U, PyData.plainAll (us.map pU) = true
  | [] => by simp [PyData.plainAll]
  | u :: us => by simp [PyData.plainAll, PyData.plain, pU, plain_U us]
theorem plain_B : ∀ bs : List (List U), PyData.plainAll (bs.map pB) = true
  | [] => by simp [PyData.plainAll]
  | b :: bs => by simp [PyData.plainAll, PyData.plain, pB, plain_U b, plain_B bs]
theorem depth_B (b : List U) : (pB b).depth ≤ 2 := by
  have := pUs_depth b
  simp only [pB, PyData.depth]
  omega
theorem map_eIdx {α β : Type} (f : α → β) : ∀ (l : List α) (j : Nat), (l.eraseIdx j).map f = (l.map f).eraseIdx j
  | [], _ => rfl
  | _ :: _, 0 => rfl
  | x :: l, j + 1 => by
    rw [List.eraseIdx_cons_succ, List.map_cons, List.map_cons, List.eraseIdx_cons_succ, map_eIdx f l j]
theorem place_B {bs : List (List U)} {bk : List U} (hm : bk ∈ bs) : ∃ j, SeqAt.dataPlace (bs.map pB) (pB bk) = some j ∧ bs.eraseIdx j = bs.erase bk := by
  unfold SeqAt.dataPlace
  induction bs with
  | nil => cases hm
  | cons c bs ih =>
    rw [List.map_cons, List.findIdx?_cons, pB_eqv]
    by_cases e : c = bk
    · subst e
      exact ⟨0, by simp, by simp⟩
    · have hm' : bk ∈ bs := by
        rcases List.mem_cons.mp hm with z | z
        · exact absurd z.symm e
        · exact z
      obtain ⟨j, h1, h2⟩ := ih hm'
      refine ⟨j + 1, by simp [e, h1], ?_⟩
      rw [List.eraseIdx_cons_succ, h2, List.erase_cons_tail (by simpa using e)]
section
variable {X : Cx}
theorem mt_remD (hu : X.A.units + 64 < cLine) : MtR X "list.remove" (fun x xs H Q => ∃ (l : Addr) (ys : List V) (y : V) (ps : List PyData) (d : PyData) (j : Nat), x = .ref l ∧ xs = [y] ∧ H l = some (.lst ys) ∧ DpAll X.K H ys ps ∧ Dp X.K H y d ∧ PyData.plainAll ps = true ∧ d.plain = true ∧ d.depth ≤ 2 ∧
    SeqAt.dataPlace ps d = some j ∧ Q .non (upd H l (.lst (ys.eraseIdx j)))) := by
  intro pins s σ H x xs v us Q I rx rs h
  obtain ⟨l, ys, y, ps, d, j, rfl, rfl, hl, hp, hy, h1, h2, h3, hj, q⟩ := h
  cases rx
  obtain ⟨u, rfl, ry⟩ := vals1 rs
  obtain ⟨z, its, n, r, hlen, e⟩ := I.lstM hl
  obtain ⟨as, r1⟩ := Dp.readsAll I ps ys its hp r
  obtain ⟨bs, r2⟩ := Dp.reads I d y u hy ry
  have hsz : its.toArray.size ≤ sizeLine := by rw [List.size_toArray, ← hlen]; exact z
  refine SeqAt.remove_list_data (vs := its.toArray) ⟨_, e, rfl, n, rfl⟩ (by simpa using r1) r2 h1 h2 (by have : min (PyData.depthAll ps) d.depth ≤ d.depth := Nat.min_le_right _ _; omega) hj hsz ?_
  refine ⟨.non, _, I.lset (its' := its.eraseIdx j) hl e ?_ (r.eraseIdx j) ?_, rfl, q⟩
  · show its.toArray.eraseIdxIfInBounds j = (its.eraseIdx j).toArray
    rw [List.eraseIdxIfInBounds_toArray]
  · have := List.length_eraseIdx_le ys j
    omega
variable {a b : Expr} {ρ : Rho} {μ μ1 μ2 μ3 : Mu} {pos apos cpos : Pos} {p : Addr} {bs : List (List U)} {bk : List U}
theorem remB (n : Nat) (hu : X.A.units + 64 < cLine) (ha : DE X a ρ μ (.ptr p) μ1) (hb : DE X b ρ μ1 (blkD bk) μ2) (hn : μ2[n]? = some (p, .lst (bs.map blkD)) := by rfl) (hm : bk ∈ bs) (hr : μ2.set n (p, .lst ((bs.erase bk).map blkD)) = μ3 := by rfl) (hn1 : ∃ es, μ1[n]? = some (p, D.lst es) := by exact ⟨_, rfl⟩) (hbase : attributeBase a "remove" X.env (eval a X.env) = eval a X.env := by rfl)
    (hfew : ((backTo cpos (starEach [b] X.env)).all (fun x => !x.1) && (backToKw cpos (keywordEach [] X.env)).all (fun x => x.1.isSome)
      && decide (([b] : List Expr).length + ([] : List Keyword).length + (if ([] : List Keyword).isEmpty then 0 else 1) < 30)) = true := by rfl)
    (hline : (apos.endLine == cpos.line) = true := by rfl) (hs : starEach [b] X.env = (false, eval b X.env) :: starEach [] X.env := by rfl) (hplain : (backTo cpos (starEach [] X.env)).any (·.1) = false := by rfl) :
    DE X (.Call (.Attribute a "remove" apos) [b] [] cpos) ρ μ .non μ3 := fun B H σ Q S L k => by
  subst hr
  refine peW (pe_bm PySem.F.plainAttrs_list PySem.F.slot_list_remove PySem.F.type_list_remove (mt_remD hu) pe_w (pa_w (es := [b])) hbase hfew hline hs hplain) (ha B H σ _ S L fun B1 H1 x i1 S1 r1 => ?_)
  cases (show x = .ref p from r1)
  obtain ⟨es, hn1⟩ := hn1
  obtain ⟨ys, h1, _⟩ := own_lst S1 hn1
  refine ⟨.inl ⟨rfl, _, SqL.of h1⟩, DA_cons hb DA_nil hs B1 H1 σ _ S1 (L.inc i1) fun B2 H2 xs i2 S2 r2 => ?_⟩
  obtain ⟨y, rfl, ry⟩ := reps1 r2
  obtain ⟨zs, h2, q2⟩ := own_lst S2 hn
  have hplace := place_B hm
  obtain ⟨j, hj, ej⟩ := hplace
  refine ⟨p, zs, y, bs.map pB, pB bk, j, rfl, rfl, h2, dps_of S2.sub _ _ _ (pys_map py_blk bs) q2, dp_of S2.sub _ _ _ (py_blk bk) ry, plain_B bs, ?_, depth_B bk, hj, k B2 _ _ (i1.trans i2) (S2.write hn ⟨_, upd_same, ?_⟩) rfl⟩
  · simp [PyData.plain, pB, plain_U]
  · rw [← ej]
    have := q2.eraseIdx j
    have e2 : (bs.eraseIdx j).map blkD = (bs.map blkD).eraseIdx j := by
      exact map_eIdx blkD bs j
    rw [e2]
    exact this
end
end Od
namespace Od
/-- edges: from a node of us to a list of nodes -/
structure Gr (us : List U) (E : U → List U) : Prop where
  nd : us.Nodup
  sub : ∀ u ∈ us, ∀ x ∈ E u, x ∈ us
  few : ∀ u ∈ us, (E u).length ≤ 900
  len : us.length ≤ 1000
abbrev DS2 := List U × List U
def dst (E : U → List U) (s : DS2) : DS2 := match s.2.getLast? with
  | none => s
  | some h => if h ∈ s.1 then (s.1, s.2.dropLast) else (s.1 ++ [h], s.2.dropLast ++ E h)
def dfsN (E : U → List U) (s : DS2) : Nat → DS2
  | 0 => s
  | k + 1 => dst E (dfsN E s k)
def meas (us : List U) (s : DS2) : Nat := (us.length - s.1.length) * 1000 + s.2.length
structure DInv (us : List U) (s : DS2) : Prop where
  nd : s.1.Nodup
  f : ∀ x ∈ s.1, x ∈ us
  w : ∀ x ∈ s.2, x ∈ us
theorem dst_some {E : U → List U} {s : DS2} {h : U} (e : s.2.getLast? = some h) : dst E s = if h ∈ s.1 then (s.1, s.2.dropLast) else (s.1 ++ [h], s.2.dropLast ++ E h) := by
  unfold dst; rw [e]
theorem last_mem {l : List U} {h : U} (e : l.getLast? = some h) : h ∈ l := List.mem_of_getLast? e
theorem dst_inv {us : List U} {E : U → List U} (G : Gr us E) {s : DS2} {h : U} (I : DInv us s) (e : s.2.getLast? = some h) : DInv us (dst E s) ∧ meas us (dst E s) < meas us s := by
  have hm := last_mem e
  have hu := I.w h hm
  have hpos : 0 < s.2.length := List.length_pos_of_mem hm
  rw [dst_some e]
  by_cases hf : h ∈ s.1
  · rw [if_pos hf]
    refine ⟨⟨I.nd, I.f, fun x hx => I.w x (List.dropLast_subset _ hx)⟩, ?_⟩
    unfold meas
    simp only [List.length_dropLast]
    omega
  · rw [if_neg hf]
    have nd2 : (s.1 ++ [h]).Nodup := by
      rw [List.nodup_append]
      exact ⟨I.nd, by simp, fun a ha b hb => by rw [List.mem_singleton] at hb; subst hb; exact fun z => hf (z ▸ ha)⟩
    have sub2 : ∀ x ∈ s.1 ++ [h], x ∈ us := fun x hx => by
      rcases List.mem_append.mp hx with z | z
      · exact I.f x z
      · rw [List.mem_singleton] at z; subst z; exact hu
    refine ⟨⟨nd2, sub2, fun x hx => ?_⟩, ?_⟩
    · rcases List.mem_append.mp hx with z | z
      · exact I.w x (List.dropLast_subset _ z)
      · exact G.sub h hu x z
    · have l2 := nodup_len nd2 sub2
      have l3 := G.few h hu
      unfold meas
      simp only [List.length_append, List.length_dropLast, List.length_cons, List.length_nil] at l2 ⊢
      generalize us.length = n at *
      generalize s.1.length = a at *
      obtain ⟨c, rfl⟩ := Nat.exists_eq_add_of_le l2
      rw [show a + (0 + 1) + c - (a + (0 + 1)) = c by omega, show a + (0 + 1) + c - a = c + 1 by omega, Nat.add_mul]
      omega
theorem dfsN_stay {E : U → List U} {s : DS2} {k : Nat} (h : (dfsN E s k).2 = []) : ∀ j, dfsN E s (k + j) = dfsN E s k
  | 0 => rfl
  | j + 1 => by
    show dst E (dfsN E s (k + j)) = _
    rw [dfsN_stay h j]
    unfold dst
    rw [h]; rfl
def dfuel (us : List U) : Nat := us.length * 1000 + 1000
/-- all nodes that u uses -/
def reachR (us : List U) (E : U → List U) (u : U) : List U := (dfsN E ([], E u) (dfuel us)).1
theorem reachR_of {us : List U} {E : U → List U} {u : U} {k : Nat} (h : (dfsN E ([], E u) k).2 = []) (hk : k ≤ dfuel us) : (dfsN E ([], E u) k).1 = reachR us E u := by
  obtain ⟨j, hj⟩ := Nat.exists_eq_add_of_le hk
  unfold reachR
  rw [hj, dfsN_stay h j]
def clsR (us : List U) (R : U → List U) (u : U) : List U := us.filter fun o => decide (o = u) || (decide (o ∈ R u) && decide (u ∈ R o))
def addAll (p : List U) (b : List U) : List U := b.foldl (fun p o => if o ∈ p then p else p ++ [o]) p
def lst1 (us : List U) (R : U → List U) (s : List (List U) × List U) (u : U) : List (List U) × List U := if u ∈ s.2 then s else (s.1 ++ [clsR us R u], addAll s.2 (clsR us R u))
def leftR (us : List U) (R : U → List U) : List (List U) := (us.foldl (lst1 us R) ([], [])).1
def readyB (R : U → List U) (done : List U) (b : List U) : Bool := match b with
  | [] => false
  | h :: _ => (R h).all fun o => decide (o ∈ done) || decide (o ∈ b)
def pickB (R : U → List U) (left : List (List U)) (done : List U) : List U := ((left.find? (readyB R done)).getD (left.getLast?.getD []))
structure BS where
  left : List (List U)
  found : List (List U)
  done : List U
def bst (R : U → List U) (s : BS) : BS := ⟨s.left.erase (pickB R s.left s.done), s.found ++ [pickB R s.left s.done], addAll s.done (pickB R s.left s.done)⟩
def bsN (R : U → List U) (s : BS) : Nat → BS
  | 0 => s
  | k + 1 => bst R (bsN R s k)
def blocksR (us : List U) (E : U → List U) : List (List U) := (bsN (reachR us E) ⟨leftR us (reachR us E), [], []⟩ (leftR us (reachR us E)).length).found
end Od
namespace Od
open PySem PySem.Spec PyProof.Rows L2
def usesD (us : List U) (E : U → List U) : D := .dic (mapD us fun u => .lst ((E u).map uD))
def reachD (us : List U) (R : U → List U) : D := .dic (mapD us fun u => .dic (posD (R u)))
def spClos : Dsp := fun ds μ d μ' => ds.length = 1 ∧ ∃ us E, ds = [usesD us E] ∧ Gr us E ∧ d = reachD us (reachR us E) ∧ μ = μ'
abbrev n_closure : List Str := ["uses", "reached", "node", "found", "waiting", "here"]
theorem sc_closure : FnScope n_closure ["uses"] d_closure.scope := ⟨rfl, rfl, rfl, by decide +kernel, rfl, by decide +kernel, by decide +kernel⟩
theorem c_closure {g : Gv} (G : Gd g) : Ctr g 1 "closure" (spD g.K spClos) := by
  obtain ⟨fd, F⟩ := G.def_ 0 (d := d_closure) rfl
  refine ⟨_, G.glo "closure", F.kp, fn_of_body F sc_closure (F.bindsN fun _ _ _ _ _ _ us hl => match us, hl with | [_], _ => rfl) (fun _ _ _ _ h => h.1) fun l ds μ d μ' R h => ?_⟩
  obtain ⟨-, h⟩ := h
  have nd := sc_closure.nd
  obtain ⟨us, E, rfl, Gu, rfl, rfl⟩ := h
  have hu : (cX g l n_closure d_closure.scope).A.units + 1 < cLine := by have := R.un; omega
  have getE : ∀ u ∈ us, getK (mapD us fun u => .lst ((E u).map uD)) (uK u) = some (.lst ((E u).map uD)) := fun u hm => by rw [getK_map, if_pos hm]
  have hlen := Gu.len
  refine DSs_cons (DS_setN 1 DN_dic (fun q => ?_) nd)
  refine DSs_cons (DS_forD (DV_var 0) (fun i ρ μ' => ∃ x2 x3 x4 x5, ρ = [some (usesD us E), some (.ptr q), x2, x3, x4, x5] ∧ μ' = (q, .dic (mapD (us.take i) fun u => .dic (posD (reachR us E u)))) :: μ) ⟨_, _, _, _, rfl, rfl⟩ ?_ ?_)
  · rintro i kk d ρ μ' hi ⟨x2, x3, x4, x5, rfl, rfl⟩
    unfold mapD at hi
    rw [List.getElem?_map] at hi
    cases hx : us[i]? with
    | none => rw [hx] at hi; cases hi
    | some u =>
      rw [hx] at hi; cases hi
      have hm := List.mem_of_getElem? hx
      have hnew : u ∉ us.take i := fun h => by
        obtain ⟨j, hj⟩ := List.getElem?_of_mem h
        have hji : j < i := by
          have := (List.getElem?_eq_some_iff.mp hj).1
          rw [List.length_take] at this; omega
        rw [List.getElem?_take_of_lt hji] at hj
        have := (List.getElem?_inj (List.getElem?_eq_some_iff.mp hj).1 Gu.nd).mp (hj.trans hx.symm)
        omega
      refine ⟨_, _, DG_name 2 nd, ?_⟩
      refine DSs_cons (DS_setN 3 DN_dic (fun q2 => ?_) nd)
      refine DSs_cons (DS_setN 4 (DN_list (G.free "list") (DE_dget hu (DE_var 0) (DE_var 2) .fz (getE u hm)) .li) (fun q3 => ?_) nd)
      refine DSs_cons (DS_while (fun m ρ μ' => ∃ k x5, ρ = [some (usesD us E), some (.ptr q), some (uD u), some (.ptr q2), some (.ptr q3), x5] ∧ μ' = (q3, .lst ((dfsN E ([], E u) k).2.map uD)) :: (q2, .dic (posD (dfsN E ([], E u) k).1)) :: (q, .dic (mapD (us.take i) fun u => .dic (posD (reachR us E u)))) :: μ ∧
        DInv us (dfsN E ([], E u) k) ∧ m = meas us (dfsN E ([], E u) k) ∧ m + k ≤ dfuel us) (meas us ([], E u)) ⟨0, x5, rfl, rfl, ⟨List.nodup_nil, (fun x hx => nomatch hx), Gu.sub u hm⟩, rfl, ?_⟩ ?_)
      · have := Gu.few u hm
        unfold meas dfuel
        show (us.length - 0) * 1000 + (E u).length + 0 ≤ _
        omega
      · rintro m ρ μ' ⟨k, x5, rfl, rfl, I, rfl, hk⟩
        generalize hs : dfsN E ([], E u) k = s at *
        refine ⟨_, _, DT_truP (DE_var 4) (n := 0) rfl, fun c => ?_, fun c => ?_⟩
        · have hne : s.2 ≠ [] := fun z => by rw [z] at c; exact absurd c (by decide)
          obtain ⟨h, eh⟩ : ∃ h, s.2.getLast? = some h := ⟨_, List.getLast?_eq_some_getLast hne⟩
          obtain ⟨I', hlt⟩ := dst_inv Gu I eh
          have hh := I.w h (last_mem eh)
          have hpos : 0 < s.2.length := List.length_pos_of_mem (last_mem eh)
          have es := dst_some (E := E) eh
          have l1 := nodup_len I.nd I.f
          have lE := Gu.few h hh
          have ml : meas us s ≤ dfuel us := by omega
          have l2 : s.2.length ≤ 1001000 := by unfold meas dfuel at ml; omega
          refine DSs_cons (DS_set 5 (popL 0 (d := uD h) (DE_var 4) (hl := ?_)) ?_ nd)
          · rw [List.length_map, List.getElem?_map, ← List.getLast?_eq_getElem?, eh]; rfl
          · have next : ∀ (s' : DS2) (x5 : Option D), s' = dst E s → DSs (cX g l n_closure d_closure.scope) [] [some (usesD us E), some (.ptr q), some (uD u), some (.ptr q2), some (.ptr q3), x5] ((q3, .lst (s'.2.map uD)) :: (q2, .dic (posD s'.1)) :: (q, .dic (mapD (us.take i) fun u => .dic (posD (reachR us E u)))) :: μ)
                (LoopP (fun ρ' μ' => ∃ m', m' < meas us s ∧ ∃ k x5, ρ' = [some (usesD us E), some (.ptr q), some (uD u), some (.ptr q2), some (.ptr q3), x5] ∧ μ' = (q3, .lst ((dfsN E ([], E u) k).2.map uD)) :: (q2, .dic (posD (dfsN E ([], E u) k).1)) :: (q, .dic (mapD (us.take i) fun u => .dic (posD (reachR us E u)))) :: μ ∧
                  DInv us (dfsN E ([], E u) k) ∧ m' = meas us (dfsN E ([], E u) k) ∧ m' + k ≤ dfuel us) (Seq (cX g l n_closure d_closure.scope) ((bodyFor d_closure.body 1).drop 3) (LoopP (fun ρ μ' => ∃ x2 x3 x4 x5, ρ = [some (usesD us E), some (.ptr q), x2, x3, x4, x5] ∧ μ' = (q, .dic (mapD (us.take (i + 1)) fun u => .dic (posD (reachR us E u)))) :: μ) (Seq (cX g l n_closure d_closure.scope) (d_closure.body.drop 2) (Ret (reachD us (reachR us E)) μ))))) := fun s' x5 e => by
              have ek : dfsN E ([], E u) (k + 1) = s' := by
                show dst E (dfsN E ([], E u) k) = _
                rw [hs, e]
              refine DSs_nil ⟨meas us s', by rw [e]; exact hlt, k + 1, x5, rfl, by rw [ek], by rw [ek, e]; exact I', by rw [ek], ?_⟩
              rw [e]; omega
            have e1 : ((getK (posD s.1) (uK h)).isSome) = decide (h ∈ s.1) := posD_get s.1 h
            refine DSs_cons (DS_if (DT_dnotin hu (DE_var 5) (DE_var 3) (.pt 1)) (fun c => ?_) fun c => ?_)
            · rw [e1] at c
              have c : h ∉ s.1 := by simpa using c
              rw [if_neg c] at es
              refine DSs_cons (DS_put 1 (ks := posD s.1) hu DE_bl (DE_var 3) (DE_var 5) (by unfold posD mapD; rw [List.length_map]; omega) ?_)
              refine DSs_cons (DS_expr (ext 0 (DE_var 4) (DE_dget hu (DE_var 0) (DE_var 5) .fz (getE h hh)) (hl := by simp; omega)) ?_)
              refine DSs_nil ?_
              have z := next _ (some (uD h)) es.symm
              rw [posD_put c]
              simp only [List.map_append, List.map_dropLast] at z
              exact z
            · rw [e1] at c
              have c : h ∈ s.1 := by simpa using c
              rw [if_pos c] at es
              refine DSs_nil ?_
              have z := next _ (some (uD h)) es.symm
              simp only [List.map_dropLast] at z
              exact z
        · have hz : s.2 = [] := by
            cases e : s.2 with
            | nil => rfl
            | cons a b => rw [e] at c; exact absurd c (by simp)
          have er : s.1 = reachR us E u := by
            rw [← hs]
            exact reachR_of (by rw [hs]; exact hz) (by omega)
          refine DSs_freeze 3 [(q3, .lst (s.2.map uD))] (h := ?_)
          refine DSs_cons (DS_put 1 (ks := mapD (us.take i) fun u => .dic (posD (reachR us E u))) hu (DE_var 3) (DE_var 1) (DE_var 2) (by unfold mapD; rw [List.length_map, List.length_take]; omega) ?_)
          refine DSs_drop (DSs_nil ?_) (List.sublist_cons_self _ _)
          refine ⟨some (uD u), _, some (.ptr q3), x5, rfl, ?_⟩
          rw [putD_new hnew, take_get hx, er]
          unfold mapD
          rw [List.map_append]
          rfl
  · rintro ρ μ' ⟨x2, x3, x4, x5, rfl, rfl⟩
    have el : (mapD us fun u => D.lst ((E u).map uD)).length = us.length := by unfold mapD; rw [List.length_map]
    rw [el, List.take_length]
    refine DSs_freeze 1 [] (h := ?_)
    exact DSs_cons (DS_ret (DE_var 1) Ret.rt)
end Od
namespace Od
theorem cls_mem {us : List U} {R : U → List U} {u : U} (h : u ∈ us) : u ∈ clsR us R u := by
  unfold clsR
  rw [List.mem_filter]
  exact ⟨h, by simp⟩
theorem cls_sub {us : List U} {R : U → List U} {u x : U} (h : x ∈ clsR us R u) : x ∈ us := (List.mem_filter.mp h).1
def okB (us : List U) (b : List U) : Prop := b ≠ [] ∧ (∀ x ∈ b, x ∈ us) ∧ b.length ≤ us.length
theorem cls_ok {us : List U} {R : U → List U} {u : U} (h : u ∈ us) : okB us (clsR us R u) :=
  ⟨fun e => (by have := cls_mem (R := R) h; rw [e] at this; exact nomatch this), fun x hx => cls_sub hx, List.length_filter_le _ _⟩
theorem left_ok {us : List U} {R : U → List U} : ∀ (vs : List U) (s : List (List U) × List U), (∀ x ∈ vs, x ∈ us) → (∀ b ∈ s.1, okB us b) → (∀ b ∈ (vs.foldl (lst1 us R) s).1, okB us b) ∧ (vs.foldl (lst1 us R) s).1.length ≤ s.1.length + vs.length
  | [], s, _, h => ⟨h, by simp⟩
  | v :: vs, s, hv, h => by
    have h1 : ∀ b ∈ (lst1 us R s v).1, okB us b := fun b hb => by
      unfold lst1 at hb
      split at hb
      · exact h b hb
      · rcases List.mem_append.mp hb with z | z
        · exact h b z
        · rw [List.mem_singleton] at z; subst z; exact cls_ok (hv v (by simp))
    have h2 : (lst1 us R s v).1.length ≤ s.1.length + 1 := by
      unfold lst1
      split
      · omega
      · simp
    obtain ⟨a, b⟩ := left_ok vs (lst1 us R s v) (fun x hx => hv x (by simp [hx])) h1
    refine ⟨a, ?_⟩
    rw [List.foldl_cons, List.length_cons]
    omega
theorem leftR_ok (us : List U) (R : U → List U) : (∀ b ∈ leftR us R, okB us b) ∧ (leftR us R).length ≤ us.length := by
  have := left_ok (R := R) us ([], []) (fun x hx => hx) (fun b hb => nomatch hb)
  exact ⟨this.1, by have := this.2; simp at this; exact this⟩
theorem pick_mem {R : U → List U} {left : List (List U)} {done : List U} (h : left ≠ []) : pickB R left done ∈ left := by
  unfold pickB
  cases e : left.find? (readyB R done) with
  | some b => exact List.mem_of_find?_eq_some e
  | none =>
    rw [List.getLast?_eq_some_getLast h]
    exact List.getLast_mem h
theorem bsN_ok {us : List U} {R : U → List U} {s : BS} (h : ∀ b ∈ s.left, okB us b) : ∀ k, ∀ b ∈ (bsN R s k).left, okB us b
  | 0 => h
  | k + 1 => fun b hb => bsN_ok h k b (List.mem_of_mem_erase hb)
theorem bst_len {R : U → List U} {s : BS} (h : s.left ≠ []) : (bst R s).left.length + 1 = s.left.length := by
  have hm := pick_mem (R := R) (done := s.done) h
  have := List.length_pos_of_mem hm
  show (s.left.erase _).length + 1 = _
  rw [List.length_erase_of_mem hm]
  omega
theorem addAll_snoc (p b : List U) (o : U) : addAll p (b ++ [o]) = if o ∈ addAll p b then addAll p b else addAll p b ++ [o] := by
  unfold addAll
  rw [List.foldl_append]; rfl
theorem addAll_nd {p : List U} : ∀ {b : List U}, p.Nodup → (addAll p b).Nodup := fun {b} => by
  induction b generalizing p with
  | nil => exact id
  | cons o b ih =>
    intro h
    show (addAll (if o ∈ p then p else p ++ [o]) b).Nodup
    apply ih
    split
    · exact h
    · rename_i hn
      rw [List.nodup_append]
      exact ⟨h, by simp, fun a ha b hb => by rw [List.mem_singleton] at hb; subst hb; exact fun e => hn (e ▸ ha)⟩
theorem addAll_mem {p b : List U} {x : U} : x ∈ addAll p b ↔ x ∈ p ∨ x ∈ b := by
  induction b generalizing p with
  | nil => simp [addAll]
  | cons o b ih =>
    show x ∈ addAll (if o ∈ p then p else p ++ [o]) b ↔ _
    rw [ih]
    split
    · rename_i h
      simp only [List.mem_cons]
      constructor
      · rintro (a | a)
        · exact .inl a
        · exact .inr (.inr a)
      · rintro (a | a | a)
        · exact .inl a
        · subst a; exact .inl h
        · exact .inr a
    · simp only [List.mem_append, List.mem_singleton, List.mem_cons, or_assoc, List.not_mem_nil, false_or]
theorem addAll_len {us p b : List U} (hn : p.Nodup) (h1 : ∀ x ∈ p, x ∈ us) (h2 : ∀ x ∈ b, x ∈ us) : (addAll p b).length ≤ us.length :=
  nodup_len (addAll_nd hn) fun x hx => (addAll_mem.mp hx).elim (h1 x) (h2 x)
theorem left_nd {us : List U} {R : U → List U} : ∀ (vs : List U) (s : List (List U) × List U), (∀ x ∈ vs, x ∈ us) → s.2.Nodup → (∀ x ∈ s.2, x ∈ us) → (vs.foldl (lst1 us R) s).2.Nodup ∧ ∀ x ∈ (vs.foldl (lst1 us R) s).2, x ∈ us
  | [], s, _, h, g => ⟨h, g⟩
  | v :: vs, s, hv, h, g => by
    refine left_nd vs (lst1 us R s v) (fun x hx => hv x (by simp [hx])) ?_ ?_
    · unfold lst1
      split
      · exact h
      · exact addAll_nd h
    · unfold lst1
      split
      · exact g
      · exact fun x hx => (addAll_mem.mp hx).elim (g x) fun z => cls_sub z
theorem find_first {α : Type} {p : α → Bool} : ∀ {l : List α} {j : Nat} {b : α}, (∀ x ∈ l.take j, p x = false) → l[j]? = some b → p b = true → l.find? p = some b
  | [], _, _, _, h, _ => by simp at h
  | x :: l, 0, b, _, h, hb => by
    simp at h; subst h
    rw [List.find?_cons_of_pos hb]
  | x :: l, j + 1, b, h1, h, hb => by
    rw [List.find?_cons_of_neg (by rw [h1 x (by simp)]; decide)]
    exact find_first (j := j) (fun y hy => h1 y (by simp [hy])) (by simpa using h) hb
theorem find_no {α : Type} {p : α → Bool} {l : List α} (h : ∀ x ∈ l, p x = false) : l.find? p = none := by
  rw [List.find?_eq_none]
  intro x hx
  rw [h x hx]; decide
theorem posD_add (p : List U) (o : U) : putD (posD p) (uK o) (.bl true) = posD (if o ∈ p then p else p ++ [o]) := by
  by_cases h : o ∈ p
  · rw [if_pos h, posD_again h]
  · rw [if_neg h, posD_put h]
theorem bsN_done {us : List U} {R : U → List U} {s : BS} (h : ∀ b ∈ s.left, okB us b) (hn : s.done.Nodup) (hs : ∀ x ∈ s.done, x ∈ us) : ∀ k, k ≤ s.left.length → (bsN R s k).done.Nodup ∧ (∀ x ∈ (bsN R s k).done, x ∈ us) ∧ (bsN R s k).left.length + k = s.left.length ∧ (bsN R s k).found.length = s.found.length + k
  | 0, _ => ⟨hn, hs, rfl, rfl⟩
  | k + 1, hk => by
    obtain ⟨a, b, c, d⟩ := bsN_done (R := R) h hn hs k (by omega)
    have hl : (bsN R s k).left ≠ [] := fun e => by rw [e] at c; simp at c; omega
    have hp := bsN_ok (R := R) h k _ (pick_mem (R := R) (done := (bsN R s k).done) hl)
    have hb := bst_len (R := R) hl
    refine ⟨addAll_nd a, fun x hx => (addAll_mem.mp hx).elim (b x) (hp.2.1 x), ?_, ?_⟩
    · show (bst R (bsN R s k)).left.length + (k + 1) = _
      omega
    · show (_ ++ [_]).length = _
      rw [List.length_append, d]; rfl
end Od
namespace Od
open PySem PySem.Spec PyProof.Rows L2
def spBlk : Dsp := fun ds μ d μ' => ds.length = 1 ∧ ∃ us E, ds = [usesD us E] ∧ Gr us E ∧ d = .lst ((blocksR us E).map blkD) ∧ μ = μ'
theorem sub3 {α : Type} (a b c : α) (l : List α) : l.Sublist (a :: b :: c :: l) := .cons _ (.cons _ (.cons _ (List.Sublist.refl _)))
abbrev n_blocks : List Str := ["uses", "reached", "left", "placed", "node", "block", "other", "found", "done"]
theorem sc_blocks : FnScope n_blocks ["uses"] d_blocks.scope := ⟨rfl, rfl, rfl, by decide +kernel, rfl, by decide +kernel, by decide +kernel⟩
theorem c_blocks {g : Gv} (G : Gd g) : Ctr g 2 "blocks" (spD g.K spBlk) := by
  obtain ⟨fd, F⟩ := G.def_ 1 (d := d_blocks) rfl
  refine ⟨_, G.glo "blocks", F.kp, fn_of_body F sc_blocks (F.bindsN fun _ _ _ _ _ _ us hl => match us, hl with | [_], _ => rfl) (fun _ _ _ _ h => h.1) fun l ds μ d μ' R h => ?_⟩
  obtain ⟨-, h⟩ := h
  have nd := sc_blocks.nd
  obtain ⟨us, E, rfl, Gu, rfl, rfl⟩ := h
  have hu : (cX g l n_blocks d_blocks.scope).A.units + 1 < cLine := by have := R.un; omega
  have hu64 : (cX g l n_blocks d_blocks.scope).A.units + 64 < cLine := R.units
  have hu65 : (cX g l n_blocks d_blocks.scope).A.units + 65 < cLine := by have := R.un; omega
  have hlen := Gu.len
  refine DSs_cons (DS_set 1 (DE_call (c_closure G) R (DA_cons (DE_var 0) DA_nil) ⟨rfl, us, E, rfl, Gu, rfl, rfl⟩) ?_ nd)
  have eB : blocksR us E = (bsN (reachR us E) ⟨leftR us (reachR us E), [], []⟩ (leftR us (reachR us E)).length).found := rfl
  rw [eB]
  generalize reachR us E = Rc at *
  have getR : ∀ u ∈ us, getK (mapD us fun u => .dic (posD (Rc u))) (uK u) = some (.dic (posD (Rc u))) := fun u hm => by rw [getK_map, if_pos hm]
  refine DSs_cons (DS_setN 2 (DN_lst DA_nil) (fun L => ?_) nd)
  refine DSs_cons (DS_setN 3 DN_dic (fun P => ?_) nd)
  refine DSs_cons (DS_forD (DV_var 0) (fun i ρ μ' => ∃ x4 x5 x6, ρ = [some (usesD us E), some (reachD us Rc), some (.ptr L), some (.ptr P), x4, x5, x6, none, none] ∧ μ' = (P, .dic (posD ((us.take i).foldl (lst1 us Rc) ([], [])).2)) :: (L, .lst (((us.take i).foldl (lst1 us Rc) ([], [])).1.map blkD)) :: μ) ⟨_, _, _, rfl, rfl⟩ ?_ ?_)
  · rintro i kk d ρ μ' hi ⟨x4, x5, x6, rfl, rfl⟩
    unfold mapD at hi
    rw [List.getElem?_map] at hi
    cases hx : us[i]? with
    | none => rw [hx] at hi; cases hi
    | some u =>
      rw [hx] at hi; cases hi
      have hm := List.mem_of_getElem? hx
      have hil := (List.getElem?_eq_some_iff.mp hx).1
      refine ⟨_, _, DG_name 4 nd, ?_⟩
      rw [take_get hx, List.foldl_append]
      have lo := left_ok (R := Rc) (us.take i) ([], []) (fun x hx => List.mem_of_mem_take hx) (fun b hb => nomatch hb)
      have ln := left_nd (R := Rc) (us.take i) ([], []) (fun x hx => List.mem_of_mem_take hx) List.nodup_nil (fun x hx => nomatch hx)
      generalize (us.take i).foldl (lst1 us Rc) ([], []) = s at *
      have ls : s.1.length ≤ 1000 := by
        have := lo.2
        simp only [List.length_take, List.length_nil] at this
        omega
      show DSs _ _ _ _ (LoopP (fun ρ μ' => ∃ x4 x5 x6, ρ = _ ∧ μ' = (P, .dic (posD (lst1 us Rc s u).2)) :: (L, .lst ((lst1 us Rc s u).1.map blkD)) :: μ) _)
      have e1 : ((getK (posD s.2) (uK u)).isSome) = decide (u ∈ s.2) := posD_get s.2 u
      refine DSs_cons (DS_if (DT_dnotin hu (DE_var 4) (DE_var 3) (.pt 0)) (fun c => ?_) fun c => ?_)
      · rw [e1] at c
        have c : u ∉ s.2 := by simpa using c
        have es : lst1 us Rc s u = (s.1 ++ [clsR us Rc u], addAll s.2 (clsR us Rc u)) := by unfold lst1; rw [if_neg c]
        have lc : (clsR us Rc u).length ≤ 1000 := Nat.le_trans (List.length_filter_le _ _) hlen
        refine DSs_cons (DS_setN 5 (lcPD [("other", 6)] us (fun o => decide (o = u) || (decide (o ∈ Rc u) && decide (u ∈ Rc o))) uD (DV_var 0) (keys_mapD us _) (fun x hx a l => ⟨_, _, fun s0 H0 Cc cl fp => DG_name 6 nd, by decide, fun s0 H0 Cc cl fp => DTs_one (DT.eq (DW.dt (DW_or (DT_eqU hu64 (DE_var 6) (DE_var 4)) fun _ => DW_or1 (DW.dt (DW_and (DT_din hu (DE_var 6) (DE_dget hu (DE_var 1) (DE_var 4) .fz (getR u hm)) .fz) fun _ => DW_and1 (DT_din hu (DE_var 4) (DE_dget hu (DE_var 1) (DE_var 6) .fz (getR x hx)) .fz))))) (by rw [posD_get, posD_get])), fun _ => fun s0 H0 Cc cl fp => (DE_var 6)⟩) nd rfl) (fun q => ?_) nd)
        show DSs _ _ _ ((q, .lst ((clsR us Rc u).map uD)) :: _) _
        have hcl : ∀ x ∈ clsR us Rc u, x ∈ us := fun x hx => cls_sub hx
        generalize clsR us Rc u = cl at *
        refine DSs_freeze 5 [] (h := ?_)
        refine DSs_cons (DS_expr (apd 1 (DE_var 2) (DE_tupL (G.free "tuple") (DE_var 5)) (hl := by rw [List.length_map]; omega)) ?_)
        refine DSs_cons (DS_for (DI_lst (DE_var 5)) (fun j ρ μ' => ∃ x6, ρ = [some (usesD us E), some (reachD us Rc), some (.ptr L), some (.ptr P), some (uD u), some (.lst (cl.map uD)), x6, none, none] ∧ μ' = (P, .dic (posD (addAll s.2 (cl.take j)))) :: (L, .lst (s.1.map blkD ++ [blkD cl])) :: μ) ⟨_, rfl, rfl⟩ (fun _ _ _ _ => trivial) ?_ ?_)
        · rintro j d ρ μ' hi ⟨x6, rfl, rfl⟩
          rw [List.getElem?_map] at hi
          cases hx2 : cl[j]? with
          | none => rw [hx2] at hi; cases hi
          | some o =>
            rw [hx2] at hi; cases hi
            refine ⟨_, _, DG_name 6 nd, ?_⟩
            refine DSs_cons (DS_put 0 (ks := posD (addAll s.2 (cl.take j))) hu DE_bl (DE_var 3) (DE_var 6) ?_ ?_)
            · have := addAll_len (us := us) (p := s.2) (b := cl.take j) ln.1 ln.2 (fun x hx => hcl x (List.mem_of_mem_take hx))
              unfold posD mapD
              rw [List.length_map]
              omega
            · refine DSs_nil ⟨some (uD o), rfl, ?_⟩
              rw [posD_add, take_get hx2, addAll_snoc]
              rfl
        · rintro ρ μ' ⟨x6, rfl, rfl⟩
          rw [List.length_map, List.take_length]
          refine DSs_nil (DSs_nil ⟨some (uD u), some (.lst (cl.map uD)), x6, rfl, ?_⟩)
          rw [es, List.map_append]
          rfl
      · rw [e1] at c
        have c : u ∈ s.2 := by simpa using c
        have es : lst1 us Rc s u = s := by unfold lst1; rw [if_pos c]
        refine DSs_nil ?_
        rw [es]
        exact DSs_nil ⟨_, _, _, rfl, rfl⟩
  · rintro ρ μ' ⟨x4, x5, x6, rfl, rfl⟩
    have el : (mapD us fun u => D.lst ((E u).map uD)).length = us.length := by unfold mapD; rw [List.length_map]
    rw [el, List.take_length]
    have hlo := leftR_ok us Rc
    have eL : (us.foldl (lst1 us Rc) ([], [])).1 = leftR us Rc := rfl
    rw [eL]
    generalize leftR us Rc = lf at *
    generalize (us.foldl (lst1 us Rc) ([], [])).2 = pl at *
    refine DSs_cons (DS_setN 7 (DN_lst DA_nil) (fun F => ?_) nd)
    refine DSs_cons (DS_setN 8 DN_dic (fun Q => ?_) nd)
    refine DSs_cons (DS_while (fun m ρ μ' => ∃ k x4 x5 x6, ρ = [some (usesD us E), some (reachD us Rc), some (.ptr L), some (.ptr P), x4, x5, x6, some (.ptr F), some (.ptr Q)] ∧
      μ' = (Q, .dic (posD (bsN Rc ⟨lf, [], []⟩ k).done)) :: (F, .lst ((bsN Rc ⟨lf, [], []⟩ k).found.map blkD)) :: (P, .dic (posD pl)) :: (L, .lst ((bsN Rc ⟨lf, [], []⟩ k).left.map blkD)) :: μ ∧ m + k = lf.length) lf.length ⟨0, x4, x5, x6, rfl, rfl, rfl⟩ ?_)
    rintro m ρ μ' ⟨k, x4, x5, x6, rfl, rfl, hk⟩
    obtain ⟨n1, n2, n3, n4⟩ := bsN_done (R := Rc) (s := ⟨lf, [], []⟩) hlo.1 List.nodup_nil (fun x hx => nomatch hx) k (by show k ≤ lf.length; omega)
    have hok := bsN_ok (R := Rc) (s := ⟨lf, [], []⟩) hlo.1 k
    have n3 : (bsN Rc ⟨lf, [], []⟩ k).left.length + k = lf.length := n3
    have n4 : (bsN Rc ⟨lf, [], []⟩ k).found.length = 0 + k := n4
    generalize hs : bsN Rc ⟨lf, [], []⟩ k = s at *
    refine ⟨_, _, DT_truP (DE_var 2) (n := 3) rfl, fun c => ?_, fun c => ?_⟩
    · have hne : s.left ≠ [] := fun z => by rw [z] at c; exact absurd c (by decide)
      have hb1 := bst_len (R := Rc) hne
      have hlf : lf.length ≤ us.length := hlo.2
      have fin : ∀ (b : List U) (x4 x6 : Option D), b = pickB Rc s.left s.done → DSs (cX g l n_blocks d_blocks.scope) ((bodyWhile d_blocks.body 6).drop 1) [some (usesD us E), some (reachD us Rc), some (.ptr L), some (.ptr P), x4, some (blkD b), x6, some (.ptr F), some (.ptr Q)] ((Q, .dic (posD s.done)) :: (F, .lst (s.found.map blkD)) :: (P, .dic (posD pl)) :: (L, .lst (s.left.map blkD)) :: μ)
          (LoopP (fun ρ' μ' => ∃ m', m' < m ∧ ∃ k x4 x5 x6, ρ' = [some (usesD us E), some (reachD us Rc), some (.ptr L), some (.ptr P), x4, x5, x6, some (.ptr F), some (.ptr Q)] ∧
            μ' = (Q, .dic (posD (bsN Rc ⟨lf, [], []⟩ k).done)) :: (F, .lst ((bsN Rc ⟨lf, [], []⟩ k).found.map blkD)) :: (P, .dic (posD pl)) :: (L, .lst ((bsN Rc ⟨lf, [], []⟩ k).left.map blkD)) :: μ ∧ m' + k = lf.length) (Seq (cX g l n_blocks d_blocks.scope) (d_blocks.body.drop 7) (Ret (.lst ((bsN Rc ⟨lf, [], []⟩ lf.length).found.map blkD)) μ))) := fun b x4 x6 hb => by
        have hbm : b ∈ s.left := by rw [hb]; exact pick_mem hne
        have hbo := hok b hbm
        have e1 : bsN Rc ⟨lf, [], []⟩ (k + 1) = ⟨s.left.erase b, s.found ++ [b], addAll s.done b⟩ := by
          show bst Rc (bsN Rc _ k) = _
          rw [hs, hb]; rfl
        refine DSs_cons (DS_expr (remB 3 hu64 (DE_var 2) (DE_var 5) rfl hbm) ?_)
        refine DSs_cons (DS_expr (apd 1 (DE_var 7) (DE_var 5) (hl := by rw [List.length_map]; omega)) ?_)
        refine DSs_cons (DS_for (DI_tup (DE_var 5)) (fun j ρ μ' => ∃ x6, ρ = [some (usesD us E), some (reachD us Rc), some (.ptr L), some (.ptr P), x4, some (blkD b), x6, some (.ptr F), some (.ptr Q)] ∧ μ' = (Q, .dic (posD (addAll s.done (b.take j)))) :: (F, .lst (s.found.map blkD ++ [blkD b])) :: (P, .dic (posD pl)) :: (L, .lst ((s.left.erase b).map blkD)) :: μ) ⟨_, rfl, rfl⟩ (fun _ _ _ _ => trivial) ?_ ?_)
        · rintro j d ρ μ' hi ⟨x6, rfl, rfl⟩
          rw [List.getElem?_map] at hi
          cases hx2 : b[j]? with
          | none => rw [hx2] at hi; cases hi
          | some o =>
            rw [hx2] at hi; cases hi
            refine ⟨_, _, DG_name 6 nd, ?_⟩
            refine DSs_cons (DS_put 0 (ks := posD (addAll s.done (b.take j))) hu DE_bl (DE_var 8) (DE_var 6) ?_ ?_)
            · have := addAll_len (us := us) (p := s.done) (b := b.take j) n1 n2 (fun x hx => hbo.2.1 x (List.mem_of_mem_take hx))
              unfold posD mapD
              rw [List.length_map]
              omega
            · refine DSs_nil ⟨some (uD o), rfl, ?_⟩
              rw [posD_add, take_get hx2, addAll_snoc]
              rfl
        · rintro ρ μ' ⟨x6, rfl, rfl⟩
          rw [List.length_map, List.take_length]
          refine DSs_nil ⟨m - 1, by omega, k + 1, x4, some (blkD b), x6, rfl, ?_, by omega⟩
          rw [e1]
          simp only [List.map_append]
          rfl
      refine DSs_cons (DS_for (DI_ptr 3 (DE_var 2)) (fun j ρ μ' => ∃ x4 x5 x6, ρ = [some (usesD us E), some (reachD us Rc), some (.ptr L), some (.ptr P), x4, x5, x6, some (.ptr F), some (.ptr Q)] ∧ μ' = (Q, .dic (posD s.done)) :: (F, .lst (s.found.map blkD)) :: (P, .dic (posD pl)) :: (L, .lst (s.left.map blkD)) :: μ ∧
        (∀ b ∈ s.left.take j, readyB Rc s.done b = false) ∧ (∀ i b, j = i + 1 → s.left[i]? = some b → x5 = some (blkD b))) ⟨x4, x5, x6, rfl, rfl, fun b hb => by simp at hb, fun i b hi => by omega⟩ (fun _ _ _ ⟨_, _, _, _, e, _⟩ => ⟨3, by rw [e]; rfl⟩) ?_ ?_)
      · rintro j d ρ μ' hi ⟨x4, x5, x6, rfl, rfl, hr, _⟩
        rw [List.getElem?_map] at hi
        cases hx2 : s.left[j]? with
        | none => rw [hx2] at hi; cases hi
        | some b =>
          rw [hx2] at hi; cases hi
          have hbm := List.mem_of_getElem? hx2
          have hbo := hok b hbm
          obtain ⟨h, t, eb⟩ : ∃ h t, b = h :: t := by
            cases b with
            | nil => exact absurd rfl hbo.1
            | cons h t => exact ⟨h, t, rfl⟩
          have hh : h ∈ us := hbo.2.1 h (by rw [eb]; simp)
          have hix : atI (b.map uD) 0 = some (uD h) := atI_map (k := 0) (by rw [eb]; rfl)
          have hrd : readyB Rc s.done b = (Rc h).all fun o => decide (o ∈ s.done) || decide (o ∈ b) := by rw [eb]; rfl
          refine ⟨_, _, DG_name 5 nd, ?_⟩
          refine DSs_cons (DS_if (DT_val (DE_all_ (bs := (Rc h).map fun o => decide (o ∈ s.done) || decide (o ∈ b)) (G.free "all") (DN.de (lcPD [("other", 6)] (Rc h) (fun _ => true) (fun o => .bl (decide (o ∈ s.done) || decide (o ∈ b))) (DV_dget hu (DV_var 1) (DV_ixT (DV_var 5) DV_int hix) (getR h hh)) (keys_mapD _ _) (fun o ho a l => ⟨_, _, fun s0 H0 Cc cl fp => DG_name 6 nd, by decide, fun s0 H0 Cc cl fp => DTs_nil, fun _ => fun s0 H0 Cc cl fp => DE.eq (DE_or (DE_din hu (DE_var 6) (DE_var 8) (.pt 1)) fun _ => DE_one (DE_inU hu65 (DE_var 6) (DE_var 5) .tu)) (by rw [posD_get])⟩) nd (by rw [List.filter_eq_self.mpr fun _ _ => rfl, List.map_map]; rfl))))) (fun c2 => ?_) fun c2 => ?_)
          · rw [List.all_map] at c2
            have c2 : readyB Rc s.done b = true := by rw [hrd]; exact c2
            refine DSs_cons (DS_brk ?_)
            exact fin b _ _ (by unfold pickB; rw [find_first hr hx2 c2]; rfl)
          · rw [List.all_map] at c2
            have c2 : readyB Rc s.done b = false := by rw [hrd]; exact c2
            refine DSs_nil (DSs_nil ⟨x4, some (blkD b), x6, rfl, rfl, fun b' hb' => ?_, fun i b' hi hb' => ?_⟩)
            · rw [take_get hx2] at hb'
              rcases List.mem_append.mp hb' with z | z
              · exact hr b' z
              · rw [List.mem_singleton] at z; subst z; exact c2
            · obtain rfl : i = j := by omega
              rw [hx2] at hb'; cases hb'; rfl
      · rintro ρ μ' ⟨x4, x5, x6, rfl, rfl, hr, h5⟩
        rw [List.length_map] at hr h5
        rw [List.take_length] at hr
        have hpos : 0 < s.left.length := List.length_pos_iff.mpr hne
        have el := h5 (s.left.length - 1) (s.left.getLast hne) (by omega) (by rw [List.getLast_eq_getElem, List.getElem?_eq_getElem (by omega)])
        rw [el]
        exact fin _ _ _ (by unfold pickB; rw [find_no hr, List.getLast?_eq_some_getLast hne]; rfl)
    · have hz : s.left = [] := by
        cases e : s.left with
        | nil => rfl
        | cons a b => rw [e] at c; exact absurd c (by simp)
      rw [hz] at n3
      have hkk : k = lf.length := by simpa using n3
      rw [← hkk, hs]
      refine DSs_freeze 7 [(Q, .dic (posD s.done))] (h := ?_)
      exact DSs_cons (DS_ret (DE_var 7) (Ret.of rfl (sub3 _ _ _ _)))
end Od
namespace Od
open PySem PySem.Spec PyProof.Rows L2
section
variable {X : Cx} {scope : Scope} {kx vx tg iter : Expr} {ρ : Rho} {μ : Mu} {d : D} {pos : Pos} {ks : List (List Int × D)}
theorem dcPD (own : List (Str × Nat)) (us : List U) (f : U → D) (hu : X.A.units + 1 < cLine) (hn : us.length ≤ 16777215) (nd : us.Nodup) (hv : DV X iter ρ (.dic ks)) (hk : keysD ks = us.map uD) (hs : BlkStep X scope tg kx vx ρ (own.map (·.2)) μ us f)
    (hN : X.N.Nodup) (hd : .dic (us.map fun u => (uK u, f u)) = d) (ok : blkC X.N X.env.scope scope own = true := by kernel_rfl) (hc : X.calm = true := by rfl) (hfs : ∀ x, foldedSetIterable iter X.env x = pure x := by intro _; rfl) :
    DN X (.DictComp kx vx [⟨tg, iter, [], 0⟩] scope pos) ρ μ d μ := by
  subst hd
  exact DN_dcD own us f hu hn nd hv hk hs hN ok hc hfs
end
end Od
namespace Od
open PySem PySem.Spec PyProof.Rows L2
def spLooped : Dsp := fun ds μ d μ' => ds.length = 2 ∧ ∃ us E h t, ds = [usesD us E, blkD (h :: t)] ∧ h ∈ us ∧ d = .bl (decide (1 < (h :: t).length) || decide (h ∈ E h)) ∧ μ = μ'
abbrev n_is_looped : List Str := ["uses", "block"]
theorem sc_is_looped : FnScope n_is_looped ["uses", "block"] d_is_looped.scope := ⟨rfl, rfl, rfl, by decide +kernel, rfl, by decide +kernel, by decide +kernel⟩
theorem c_is_looped {g : Gv} (G : Gd g) : Ctr g 1 "is_looped" (spD g.K spLooped) := by
  obtain ⟨fd, F⟩ := G.def_ 2 (d := d_is_looped) rfl
  refine ⟨_, G.glo "is_looped", F.kp, fn_of_body F sc_is_looped (F.bindsN fun _ _ _ _ _ _ us hl => match us, hl with | [_, _], _ => rfl) (fun _ _ _ _ h => h.1) fun l ds μ d μ' R h => ?_⟩
  obtain ⟨-, h⟩ := h
  have nd := sc_is_looped.nd
  obtain ⟨us, E, h, t, rfl, hh, rfl, rfl⟩ := h
  have hu : (cX g l n_is_looped d_is_looped.scope).A.units + 1 < cLine := by have := R.un; omega
  have hu65 : (cX g l n_is_looped d_is_looped.scope).A.units + 65 < cLine := by have := R.un; omega
  have getE : getK (mapD us fun u => .lst ((E u).map uD)) (uK h) = some (.lst ((E h).map uD)) := by rw [getK_map, if_pos hh]
  have hix : atI ((h :: t).map uD) 0 = some (uD h) := atI_map (k := 0) rfl
  refine DSs_cons (DS_ret (DE_or (DE_gtI (DE_len (G.free "len") (DE_var 1) .tu) DE_int) fun _ => DE_one (DE_inU hu65 (DE_ixT (DE_var 1) DE_int hix) (DE_dget hu (DE_var 0) (DE_ixT (DE_var 1) DE_int hix) .fz getE) .li)) ?_)
  rw [List.length_map]
  refine Ret.of ?_ (List.Sublist.refl _)
  congr 2
  rw [Bool.eq_iff_iff]
  simp only [decide_eq_true_eq]
  omega
structure SG (lv : List U) (S : U → List (List U)) : Prop where
  nd : lv.Nodup
  len : lv.length ≤ 40
  sub : ∀ u ∈ lv, ∀ fs ∈ S u, ∀ f ∈ fs, f ∈ lv
  few : ∀ u ∈ lv, (S u).length ≤ 10
  two : ∀ u ∈ lv, ∀ fs ∈ S u, fs.length ≤ 2
def SD (lv : List U) (S : U → List (List U)) : D := .dic (mapD lv fun u => .lst ((S u).map pT))
def facR (S : U → List (List U)) (u : U) : List U := (S u).flatMap id
theorem flat_len {l : List (List U)} {b : Nat} (h : ∀ x ∈ l, x.length ≤ b) : (l.flatMap id).length ≤ l.length * b := by
  induction l with
  | nil => simp
  | cons x l ih =>
    have h1 := h x (by simp)
    have h2 := ih fun y hy => h y (by simp [hy])
    rw [List.flatMap_cons, List.length_append, List.length_cons, Nat.succ_mul]
    show (id x).length + _ ≤ _
    simp only [id]
    omega
theorem SG.fac_len {lv : List U} {S : U → List (List U)} (G : SG lv S) {u : U} (h : u ∈ lv) : (facR S u).length ≤ 20 := by
  have := flat_len (G.two u h)
  have := G.few u h
  unfold facR
  have h3 : (S u).length * 2 ≤ 20 := by omega
  omega
theorem SG.gr {lv : List U} {S : U → List (List U)} (G : SG lv S) : Gr lv (facR S) := by
  refine ⟨G.nd, fun u hu x hx => ?_, fun u hu => ?_, ?_⟩
  · obtain ⟨fs, h1, h2⟩ := List.mem_flatMap.mp hx
    exact G.sub u hu fs h1 x h2
  · have := G.fac_len hu; omega
  · have := G.len; omega
theorem SG.get {lv : List U} {S : U → List (List U)} (G : SG lv S) {u : U} (h : u ∈ lv) : getK (mapD lv fun u => .lst ((S u).map pT)) (uK u) = some (.lst ((S u).map pT)) := by rw [getK_map, if_pos h]
def spFac : Dsp := fun ds μ d μ' => ds.length = 2 ∧ ∃ lv S u, ds = [SD lv S, uD u] ∧ SG lv S ∧ u ∈ lv ∧ d = .lst ((facR S u).map uD) ∧ μ = μ'
abbrev n_factors_of : List Str := ["system", "unknown", "_", "factors", "factor"]
theorem sc_factors_of : FnScope n_factors_of ["system", "unknown"] d_factors_of.scope := ⟨rfl, rfl, rfl, by decide +kernel, rfl, by decide +kernel, by decide +kernel⟩
theorem c_factors_of {g : Gv} (G : Gd g) : Ctr g 1 "factors_of" (spD g.K spFac) := by
  obtain ⟨fd, F⟩ := G.def_ 31 (d := d_factors_of) rfl
  refine ⟨_, G.glo "factors_of", F.kp, fn_of_body F sc_factors_of (F.bindsN fun _ _ _ _ _ _ us hl => match us, hl with | [_, _], _ => rfl) (fun _ _ _ _ h => h.1) fun l ds μ d μ' R h => ?_⟩
  obtain ⟨-, h⟩ := h
  have nd := sc_factors_of.nd
  obtain ⟨lv, S, u, rfl, GS, hm, rfl, rfl⟩ := h
  have hu : (cX g l n_factors_of d_factors_of.scope).A.units + 1 < cLine := by have := R.un; omega
  refine DSs_cons (DS_ret (DN.de (lc2 [("_", 2), ("factors", 3), ("factor", 4)] [4] (S u) pT (fun fs => fs) (fun _ f => uD f) (fun _ f => uD f) (DI_lst (DE_dget hu (DE_var 0) (DE_var 1) .fz (GS.get hm))) rfl (fun _ _ => trivial) ?_ (fun fs hfs => ⟨_, _, fun s0 H0 Cc cl fp => DG_tup (DGs_cons (DG_name 2 nd) (DGs_cons (DG_name 3 nd) DGs_nil)), by decide, fun a l => ⟨fun s0 H0 Cc cl fp => DI_tup (DE_var 3), fun f hf => ⟨_, _, fun s0 H0 Cc cl fp => DG_name 4 nd, by decide, fun l s0 H0 Cc cl fp => (DE_var 4)⟩⟩⟩) nd ?_)) Ret.rt)
  · have := GS.fac_len hm
    unfold facR at this
    have e : ((S u).flatMap fun fs => fs) = (S u).flatMap id := rfl
    rw [e]; omega
  · unfold facR
    rw [List.map_flatMap]; rfl
def spParts : Dsp := fun ds μ d μ' => ds.length = 1 ∧ ∃ lv S, ds = [SD lv S] ∧ SG lv S ∧ d = .lst ((blocksR lv (facR S)).map blkD) ∧ μ = μ'
abbrev n_parts_of : List Str := ["system", "unknown"]
theorem sc_parts_of : FnScope n_parts_of ["system"] d_parts_of.scope := ⟨rfl, rfl, rfl, by decide +kernel, rfl, by decide +kernel, by decide +kernel⟩
theorem c_parts_of {g : Gv} (G : Gd g) : Ctr g 3 "parts_of" (spD g.K spParts) := by
  obtain ⟨fd, F⟩ := G.def_ 32 (d := d_parts_of) rfl
  refine ⟨_, G.glo "parts_of", F.kp, fn_of_body F sc_parts_of (F.bindsN fun _ _ _ _ _ _ us hl => match us, hl with | [_], _ => rfl) (fun _ _ _ _ h => h.1) fun l ds μ d μ' R h => ?_⟩
  obtain ⟨-, h⟩ := h
  have nd := sc_parts_of.nd
  obtain ⟨lv, S, rfl, GS, rfl, rfl⟩ := h
  have hu : (cX g l n_parts_of d_parts_of.scope).A.units + 1 < cLine := by have := R.un; omega
  exact DSs_cons (DS_ret (DE_call (c_blocks G) R (DA_cons (DN.de (dcPD [("unknown", 1)] lv (fun u => .lst ((facR S u).map uD)) hu (by have := GS.len; omega) GS.nd (DV_var 0) (keys_mapD lv _) (fun u hm a l => ⟨_, _, fun s0 H0 Cc cl fp => DG_name 1 nd, by decide, fun s0 H0 Cc cl fp => (DE_var 1), fun s0 H0 Cc cl fp => DE_call (c_factors_of G) R (DA_cons (DE_var 0) (DA_cons (DE_var 1) DA_nil)) ⟨rfl, lv, S, u, rfl, GS, hm, rfl, rfl⟩⟩) nd rfl)) DA_nil) ⟨rfl, lv, facR S, rfl, GS.gr, rfl, rfl⟩) Ret.rt)
def curvT (part : List U) : List U → Bool
  | [a, b] => decide (a ∈ part) && decide (b ∈ part)
  | _ => false
def curvR (S : U → List (List U)) (part : List U) : Bool := part.any fun u => (S u).any (curvT part)
def spCurv : Dsp := fun ds μ d μ' => ds.length = 2 ∧ ∃ lv S part, ds = [SD lv S, blkD part] ∧ SG lv S ∧ (∀ u ∈ part, u ∈ lv) ∧ d = .bl (curvR S part) ∧ μ = μ'
abbrev n_is_curved : List Str := ["system", "part", "unknown", "_", "factors"]
theorem sc_is_curved : FnScope n_is_curved ["system", "part"] d_is_curved.scope := ⟨rfl, rfl, rfl, by decide +kernel, rfl, by decide +kernel, by decide +kernel⟩
theorem c_is_curved {g : Gv} (G : Gd g) : Ctr g 1 "is_curved" (spD g.K spCurv) := by
  obtain ⟨fd, F⟩ := G.def_ 33 (d := d_is_curved) rfl
  refine ⟨_, G.glo "is_curved", F.kp, fn_of_body F sc_is_curved (F.bindsN fun _ _ _ _ _ _ us hl => match us, hl with | [_, _], _ => rfl) (fun _ _ _ _ h => h.1) fun l ds μ d μ' R h => ?_⟩
  obtain ⟨-, h⟩ := h
  have nd := sc_is_curved.nd
  obtain ⟨lv, S, part, rfl, GS, hp, rfl, rfl⟩ := h
  have hu : (cX g l n_is_curved d_is_curved.scope).A.units + 1 < cLine := by have := R.un; omega
  have hu65 : (cX g l n_is_curved d_is_curved.scope).A.units + 65 < cLine := by have := R.un; omega
  refine DSs_cons (DS_for (DI_tup (DE_var 1)) (fun i ρ μ' => ∃ x2 x3 x4, ρ = [some (SD lv S), some (blkD part), x2, x3, x4] ∧ μ' = μ ∧ ∀ u ∈ part.take i, (S u).any (curvT part) = false) ⟨_, _, _, rfl, rfl, fun u hm => by simp at hm⟩ (fun _ _ _ _ => trivial) ?_ ?_)
  · rintro i d ρ μ' hi ⟨x2, x3, x4, rfl, rfl, hn⟩
    rw [List.getElem?_map] at hi
    cases hx : part[i]? with
    | none => rw [hx] at hi; cases hi
    | some u =>
      rw [hx] at hi; cases hi
      have hm := List.mem_of_getElem? hx
      refine ⟨_, _, DG_name 2 nd, ?_⟩
      refine DSs_cons (DS_for (DI_lst (DE_dget hu (DE_var 0) (DE_var 2) .fz (GS.get (hp u hm)))) (fun j ρ μ2 => ∃ x3 x4, ρ = [some (SD lv S), some (blkD part), some (uD u), x3, x4] ∧ μ2 = μ' ∧ ∀ fs ∈ (S u).take j, curvT part fs = false) ⟨_, _, rfl, rfl, fun u hm => by simp at hm⟩ (fun _ _ _ _ => trivial) ?_ ?_)
      · rintro j d ρ μ' hi ⟨x3, x4, rfl, rfl, hn2⟩
        rw [List.getElem?_map] at hi
        cases hx2 : (S u)[j]? with
        | none => rw [hx2] at hi; cases hi
        | some fs =>
          rw [hx2] at hi; cases hi
          have hfs := List.mem_of_getElem? hx2
          refine ⟨_, _, DG_tup (DGs_cons (DG_name 3 nd) (DGs_cons (DG_name 4 nd) DGs_nil)), ?_⟩
          have done : ∀ x4, curvT part fs = false → DSs (cX g l n_is_curved d_is_curved.scope) [] [some (SD lv S), some (blkD part), some (uD u), some .any, x4] μ' (LoopP (fun ρ μ2 => ∃ x3 x4, ρ = [some (SD lv S), some (blkD part), some (uD u), x3, x4] ∧ μ2 = μ' ∧ ∀ fs ∈ (S u).take (j + 1), curvT part fs = false) (Seq (cX g l n_is_curved d_is_curved.scope) [] (LoopP (fun ρ μ2 => ∃ x2 x3 x4, ρ = [some (SD lv S), some (blkD part), x2, x3, x4] ∧ μ2 = μ' ∧ ∀ u ∈ part.take (i + 1), (S u).any (curvT part) = false) (Seq (cX g l n_is_curved d_is_curved.scope) (d_is_curved.body.drop 1) (Ret (.bl (curvR S part)) μ'))))) := fun x4 hc => by
            refine DSs_nil ⟨some .any, x4, rfl, rfl, fun f hf => ?_⟩
            rw [take_get hx2] at hf
            rcases List.mem_append.mp hf with z | z
            · exact hn2 f z
            · rw [List.mem_singleton] at z; subst z; exact hc
          match fs, hfs, done with
          | [], _, done =>
            refine DSs_cons (DS_if (DW.dt (DW_and (b2 := false) (DT_eqI (DE_len (G.free "len") (DE_var 4) .tu) DE_int) fun h => absurd h (by decide))) (fun h => absurd h (by decide)) fun _ => ?_)
            exact DSs_nil (done _ rfl)
          | [_], _, done =>
            refine DSs_cons (DS_if (DW.dt (DW_and (b2 := false) (DT_eqI (DE_len (G.free "len") (DE_var 4) .tu) DE_int) fun h => absurd h (by simp))) (fun h => absurd h (by simp)) fun _ => ?_)
            exact DSs_nil (done _ rfl)
          | _ :: _ :: _ :: _, hfs, _ =>
            have := GS.two u (hp u hm) _ hfs
            simp at this
          | [a, b], hfs, done =>
            refine DSs_cons (DS_if (DW.dt (DW_and (DT_eqI (DE_len (G.free "len") (DE_var 4) .tu) DE_int) fun _ => DW_and (DT_inU hu65 (DE_ixT (DE_var 4) DE_int) (DE_var 1) .tu) fun _ => DW_and1 (DT_inU hu65 (DE_ixT (DE_var 4) DE_int) (DE_var 1) .tu))) (fun c => ?_) fun c => ?_)
            · have ct : curvT part [a, b] = true := by simpa [curvT] using c
              have e : curvR S part = true := by
                unfold curvR
                rw [List.any_eq_true]
                exact ⟨u, hm, List.any_eq_true.mpr ⟨_, hfs, ct⟩⟩
              refine DSs_cons (DS_ret DE_bl ?_)
              rw [e]
              exact Ret.rt
            · have ct : curvT part [a, b] = false := by
                cases h : curvT part [a, b] with
                | false => rfl
                | true =>
                  have : (decide (a ∈ part) && decide (b ∈ part)) = true := h
                  simp at this
                  simp [this] at c
              exact DSs_nil (done _ ct)
      · rintro ρ μ' ⟨x3, x4, rfl, rfl, hn2⟩
        rw [List.length_map, List.take_length] at hn2
        refine DSs_nil ⟨some (uD u), x3, x4, rfl, rfl, fun v hv => ?_⟩
        rw [take_get hx] at hv
        rcases List.mem_append.mp hv with z | z
        · exact hn v z
        · rw [List.mem_singleton] at z; subst z
          rw [List.any_eq_false]
          intro fs hf
          rw [hn2 fs hf]; decide
  · rintro ρ μ' ⟨x2, x3, x4, rfl, rfl, hn⟩
    rw [List.length_map, List.take_length] at hn
    have e : curvR S part = false := by
      unfold curvR
      rw [List.any_eq_false]
      intro u hm
      rw [hn u hm]; decide
    refine DSs_cons (DS_ret DE_bl ?_)
    rw [e]
    exact Ret.rt
end Od
namespace Od
open PySem PySem.Spec PyProof.Rows L2
section
variable {X : Cx} {k v : Expr} {ρ : Rho} {μ μ1 μ2 : Mu} {d : D} {u : U} {pos : Pos}
def tDic1 (X : Cx) (k v : Expr) : TE := fun σ H Q => ∀ p, H p = none → wE X k σ (upd H p (.dT [])) fun x H1 => wE X v σ H1 fun y H2 => ∃ (b : Addr) (kk : List Key), x = .ref b ∧ H2 b = some (.tup (kk.map kV)) ∧ H2 p = some (.dT []) ∧ Q (.ref p) (upd H2 p (.dT [(kk, y)]))
theorem pe_dic1 (hu : X.A.units + 1 < cLine) (hshape : (evalEachOpt [some k] X.env).zip ((evalEach [v] X.env).map fun v => do let x ← v; standAt pos; pure x) = [(eval k X.env, do let x ← eval v X.env; standAt pos; pure x)].map fun p => (some p.1, p.2)) :
    PE X (.Dict [some k] [v] pos) (tDic1 X k v) := by
  refine ⟨fun pins s σ H Q I q => ?_⟩
  have hn := I.hok.fresh (Nat.le_refl s.heap.objs.size)
  have I1 := I.laid (a := s.heap.objs.size) (o := .dT []) (h' := s.heap.push { cls := .type "dict", data := .dict #[] }) (t' := s.toks) (fun _ _ q => Heap.get?_push_of_some _ q) (Nat.le_refl _) (dt_empty s.heap I.big)
  rw [arm_eval_Dict, hshape, dictDisplay_pairs _ (by simp) (by simp)]
  refine wpAny_bind (wpAny_standAt (wpAny_bind (wpAny_subDictH (knd := tupleKind (mixKind X.prog X.w)) (Q := fun d s' => wpAny (model X.prog X.w) X.A (pure (Value.ref d)) (EP X pins σ Q) X.xe s') (show (tupleKind _).room X.A from Nat.lt_of_succ_lt hu) (by simp) ?_)))
  refine evalPairs_cons (thn (pe_w.run pins _ σ _ _ I1 (q _ hn)) fun kv s1 ⟨x, H1, I2, rx, q1⟩ => ?_)
  refine wpAny_bind (thn (pe_w.run pins s1 σ H1 _ I2 q1) fun vv s2 ⟨y, H2, I3, ry, b, kk, ex, hb, hp, q2⟩ => ?_)
  refine wpAny_bind (wpAny_standAt (wpAny_pure (evalPairs_nil ?_)))
  subst ex
  cases (show kv = Value.ref b from rx)
  obtain ⟨z, hd, xs, rel, dd⟩ := dt_of I3.hok hp
  cases rel
  refine ⟨[(kk, b, vv)], ⟨rfl, rfl, key_of I3.hok hb, trivial⟩, dd, fun h' tk dd' hs => ?_⟩
  obtain ⟨o, es, ep, ho, x2, x3, x4, _, x5⟩ := dd'
  refine wpAny_pure ⟨.ref s.heap.objs.size, _, ?_, rfl, q2⟩
  refine d_write I3 (by rw [hp]; exact True.intro) hs ⟨o, ho⟩ ⟨?_, hd, [(kk, b, vv)], .cons ⟨rfl, ?_, ry⟩ .nil, o, es, ep, ho, x2, x3, x4, x5⟩
  · rw [sizeLine_eq]; exact Nat.le_of_ble_eq_true rfl
  · rw [upd_ne (ne_of hb hp (fun z => nomatch z))]
    exact hb
theorem DN_dic1 (hu : X.A.units + 1 < cLine) (hk : ∀ a, DE X k ρ ((a, .dic []) :: μ) (uD u) ((a, .dic []) :: μ1)) (hv : ∀ a, DE X v ρ ((a, .dic []) :: μ1) d ((a, .dic []) :: μ2))
    (hshape : (evalEachOpt [some k] X.env).zip ((evalEach [v] X.env).map fun v => do let x ← v; standAt pos; pure x) = [(eval k X.env, do let x ← eval v X.env; standAt pos; pure x)].map fun p => (some p.1, p.2) := by rfl) :
    DN X (.Dict [some k] [v] pos) ρ μ (.dic [(uK u, d)]) μ2 := fun B H σ Q S L kk => by
  refine peW (pe_dic1 hu hshape) fun p np => ?_
  refine hk p B _ σ _ (S.newM np ⟨[], upd_same, rfl⟩) L fun B1 H1 x i1 S1 r1 => hv p B1 H1 σ _ S1 (L.inc i1) fun B2 H2 y i2 S2 r2 => ?_
  obtain ⟨b, rfl, hb⟩ := uD_key (r1.inc i2)
  obtain ⟨ws, h1, q1⟩ := own_dic (n := 0) S2 rfl
  cases q1
  refine ⟨b, (uK u).map Sum.inl, rfl, S2.sub _ _ hb, h1, kk B2 _ p (i1.trans i2) ?_⟩
  exact S2.write (n := 0) rfl ⟨_, upd_same, ⟨y, [], rfl, r2, rfl⟩⟩
end
end Od
namespace Od
open PySem PySem.Spec PyProof.Rows L2
def besN (part : List U) (cut : U) : List U := part.filter fun u => !decide (u = cut)
def ledE (S : U → List (List U)) (part : List U) (cut : U) (u : U) : List U := (facR S u).filter fun o => decide (o ∈ part) && !decide (o = cut)
theorem led_gr {lv : List U} {S : U → List (List U)} (G : SG lv S) {part : List U} {cut : U} (hp : ∀ u ∈ part, u ∈ lv) (hn : part.Nodup) : Gr (besN part cut) (ledE S part cut) := by
  have hl : part.length ≤ 40 := Nat.le_trans (nodup_len hn hp) G.len
  refine ⟨hn.filter _, fun u hu x hx => ?_, fun u hu => ?_, Nat.le_trans (List.length_filter_le _ _) (by omega)⟩
  · have := (List.mem_filter.mp hx).2
    simp only [Bool.and_eq_true, decide_eq_true_eq] at this
    exact List.mem_filter.mpr ⟨this.1, this.2⟩
  · have := G.fac_len (hp u (List.mem_filter.mp hu).1)
    exact Nat.le_trans (List.length_filter_le _ _) (by omega)
theorem not_in_take {l : List U} (hn : l.Nodup) {i : Nat} {u : U} (hx : l[i]? = some u) : u ∉ l.take i := fun h => by
  obtain ⟨j, hj⟩ := List.getElem?_of_mem h
  have hji : j < i := by
    have := (List.getElem?_eq_some_iff.mp hj).1
    rw [List.length_take] at this; omega
  rw [List.getElem?_take_of_lt hji] at hj
  have := (List.getElem?_inj (List.getElem?_eq_some_iff.mp hj).1 hn).mp (hj.trans hx.symm)
  omega
def spLeads : Dsp := fun ds μ d μ' => ds.length = 3 ∧ ∃ lv S part cut, ds = [SD lv S, blkD part, uD cut] ∧ SG lv S ∧ (∀ u ∈ part, u ∈ lv) ∧ part.Nodup ∧ d = usesD (besN part cut) (ledE S part cut) ∧ μ = μ'
abbrev n_leads : List Str := ["system", "part", "cut", "found", "unknown", "other"]
theorem sc_leads : FnScope n_leads ["system", "part", "cut"] d_leads.scope := ⟨rfl, rfl, rfl, by decide +kernel, rfl, by decide +kernel, by decide +kernel⟩
theorem c_leads {g : Gv} (G : Gd g) : Ctr g 2 "leads" (spD g.K spLeads) := by
  obtain ⟨fd, F⟩ := G.def_ 34 (d := d_leads) rfl
  refine ⟨_, G.glo "leads", F.kp, fn_of_body F sc_leads (F.bindsN fun _ _ _ _ _ _ us hl => match us, hl with | [_, _, _], _ => rfl) (fun _ _ _ _ h => h.1) fun l ds μ d μ' R h => ?_⟩
  obtain ⟨-, h⟩ := h
  have nd := sc_leads.nd
  obtain ⟨lv, S, part, cut, rfl, GS, hp, hn, rfl, rfl⟩ := h
  have hu : (cX g l n_leads d_leads.scope).A.units + 1 < cLine := by have := R.un; omega
  have hu64 : (cX g l n_leads d_leads.scope).A.units + 64 < cLine := R.units
  have hu65 : (cX g l n_leads d_leads.scope).A.units + 65 < cLine := by have := R.un; omega
  have hl : part.length ≤ 40 := Nat.le_trans (nodup_len hn hp) GS.len
  refine DSs_cons (DS_setN 3 DN_dic (fun q => ?_) nd)
  refine DSs_cons (DS_for (DI_tup (DE_var 1)) (fun i ρ μ' => ∃ x4 x5, ρ = [some (SD lv S), some (blkD part), some (uD cut), some (.ptr q), x4, x5] ∧ μ' = (q, .dic (mapD (besN (part.take i) cut) fun u => .lst ((ledE S part cut u).map uD))) :: μ) ⟨_, _, rfl, rfl⟩ (fun _ _ _ _ => trivial) ?_ ?_)
  · rintro i d ρ μ' hi ⟨x4, x5, rfl, rfl⟩
    rw [List.getElem?_map] at hi
    cases hx : part[i]? with
    | none => rw [hx] at hi; cases hi
    | some u =>
      rw [hx] at hi; cases hi
      have hm := List.mem_of_getElem? hx
      have hnew := not_in_take hn hx
      refine ⟨_, _, DG_name 4 nd, ?_⟩
      refine DSs_cons (DS_if (DT_neU hu64 (DE_var 4) (DE_var 2)) (fun c => ?_) fun c => ?_)
      · have c : ¬ u = cut := by simpa using c
        refine DSs_cons (DS_put 0 (ks := mapD (besN (part.take i) cut) fun u => .lst ((ledE S part cut u).map uD)) (d := .lst ((ledE S part cut u).map uD)) hu (DN.de (lcP [("other", 5)] (facR S u) uD (fun o => decide (o ∈ part) && !decide (o = cut)) uD (DI_lst (DE_call (c_factors_of G) R (DA_cons (DE_var 0) (DA_cons (DE_var 4) DA_nil)) ⟨rfl, lv, S, u, rfl, GS, hp u hm, rfl, rfl⟩)) rfl (fun _ _ => trivial) (fun x hx a l => ⟨_, _, fun s0 H0 Cc cl fp => DG_name 5 nd, by decide, fun s0 H0 Cc cl fp => DTs_one (DW.dt (DW_and (DT_inU hu65 (DE_var 5) (DE_var 1) .tu) fun _ => DW_and1 (DT_neU hu64 (DE_var 5) (DE_var 2)))), fun _ => fun s0 H0 Cc cl fp => (DE_var 5)⟩) nd rfl)) (DE_var 3) (DE_var 4) ?_ ?_)
        · unfold mapD besN
          rw [List.length_map]
          have := List.length_filter_le (fun u => !decide (u = cut)) (part.take i)
          rw [List.length_take] at this
          omega
        · refine DSs_nil (DSs_nil ⟨some (uD u), x5, rfl, ?_⟩)
          rw [putD_new (us := besN (part.take i) cut) (fun h => hnew (List.mem_filter.mp h).1)]
          unfold besN mapD
          rw [take_get hx, List.filter_append, List.map_append, List.filter_cons_of_pos (by simp [c])]
          rfl
      · have c : u = cut := by simpa using c
        refine DSs_nil (DSs_nil ⟨some (uD u), x5, rfl, ?_⟩)
        have e : besN (part.take (i + 1)) cut = besN (part.take i) cut := by
          unfold besN
          rw [take_get hx, List.filter_append, List.filter_cons_of_neg (by simp [c])]
          simp
        rw [e]
  · rintro ρ μ' ⟨x4, x5, rfl, rfl⟩
    rw [List.length_map, List.take_length]
    refine DSs_freeze 3 [] (h := ?_)
    exact DSs_cons (DS_ret (DE_var 3) Ret.rt)
def inT (grp fs : List U) : Bool := fs.any fun f => decide (f ∈ grp)
def frL (grp : List U) (ts : List (List U)) : List (List U) := ts.filter fun fs => !inT grp fs
def gdL (grp part : List U) (ts : List (List U)) : Bool := ts.all fun fs => !inT grp fs || !decide (1 < (fs.filter fun f => decide (f ∈ part)).length)
def grT (S : U → List (List U)) (grp : List U) : List (List U) := grp.flatMap S
def spGt : Dsp := fun ds μ d μ' => ds.length = 3 ∧ ∃ lv S grp part, ds = [SD lv S, blkD grp, blkD part] ∧ SG lv S ∧ (∀ u ∈ grp, u ∈ lv) ∧ grp.Nodup ∧ d = .tup [.lst ((frL grp (grT S grp)).map pT), .bl (gdL grp part (grT S grp))] ∧ μ = μ'
theorem gdL_app (grp part : List U) (a b : List (List U)) : gdL grp part (a ++ b) = (gdL grp part a && gdL grp part b) := by unfold gdL; rw [List.all_append]
theorem frL_app (grp : List U) (a b : List (List U)) : frL grp (a ++ b) = frL grp a ++ frL grp b := by unfold frL; rw [List.filter_append]
theorem flat_le {l : List U} {S : U → List (List U)} {b : Nat} (h : ∀ u ∈ l, (S u).length ≤ b) : (l.flatMap S).length ≤ l.length * b := by
  induction l with
  | nil => simp
  | cons x l ih =>
    have h1 := h x (by simp)
    have h2 := ih fun y hy => h y (by simp [hy])
    rw [List.flatMap_cons, List.length_append, List.length_cons, Nat.succ_mul]
    omega
abbrev n_group_terms : List Str := ["system", "group", "part", "free", "good", "unknown", "term", "inner", "factor"]
theorem sc_group_terms : FnScope n_group_terms ["system", "group", "part"] d_group_terms.scope := ⟨rfl, rfl, rfl, by decide +kernel, rfl, by decide +kernel, by decide +kernel⟩
theorem c_group_terms {g : Gv} (G : Gd g) : Ctr g 1 "group_terms" (spD g.K spGt) := by
  obtain ⟨fd, F⟩ := G.def_ 35 (d := d_group_terms) rfl
  refine ⟨_, G.glo "group_terms", F.kp, fn_of_body F sc_group_terms (F.bindsN fun _ _ _ _ _ _ us hl => match us, hl with | [_, _, _], _ => rfl) (fun _ _ _ _ h => h.1) fun l ds μ d μ' R h => ?_⟩
  obtain ⟨-, h⟩ := h
  have nd := sc_group_terms.nd
  obtain ⟨lv, S, grp, part, rfl, GS, hg, hn, rfl, rfl⟩ := h
  have hu : (cX g l n_group_terms d_group_terms.scope).A.units + 1 < cLine := by have := R.un; omega
  have hu65 : (cX g l n_group_terms d_group_terms.scope).A.units + 65 < cLine := by have := R.un; omega
  have hl : grp.length ≤ 40 := Nat.le_trans (nodup_len hn hg) GS.len
  refine DSs_cons (DS_setN 3 (DN_lst DA_nil) (fun q => ?_) nd)
  refine DSs_cons (DS_set 4 DE_bl ?_ nd)
  refine DSs_cons (DS_for (DI_tup (DE_var 1)) (fun i ρ μ' => ∃ x5 x6 x7 x8, ρ = [some (SD lv S), some (blkD grp), some (blkD part), some (.ptr q), some (.bl (gdL grp part ((grp.take i).flatMap S))), x5, x6, x7, x8] ∧ μ' = (q, .lst ((frL grp ((grp.take i).flatMap S)).map pT)) :: μ) ⟨_, _, _, _, rfl, rfl⟩ (fun _ _ _ _ => trivial) ?_ ?_)
  · rintro i d ρ μ' hi ⟨x5, x6, x7, x8, rfl, rfl⟩
    rw [List.getElem?_map] at hi
    cases hx : grp[i]? with
    | none => rw [hx] at hi; cases hi
    | some u =>
      rw [hx] at hi; cases hi
      have hm := List.mem_of_getElem? hx
      have hb : ((grp.take i).flatMap S).length ≤ 400 := by
        have := flat_le (l := grp.take i) (S := S) (b := 10) fun u hu => GS.few u (hg u (List.mem_of_mem_take hu))
        have h2 : (grp.take i).length ≤ 40 := by rw [List.length_take]; omega
        omega
      refine ⟨_, _, DG_name 5 nd, ?_⟩
      rw [take_get hx, List.flatMap_append, List.flatMap_singleton]
      generalize (grp.take i).flatMap S = pre at *
      refine DSs_cons (DS_for (DI_lst (DE_dget hu (DE_var 0) (DE_var 5) .fz (GS.get (hg u hm)))) (fun j ρ μ2 => ∃ x6 x7 x8, ρ = [some (SD lv S), some (blkD grp), some (blkD part), some (.ptr q), some (.bl (gdL grp part (pre ++ (S u).take j))), some (uD u), x6, x7, x8] ∧ μ2 = (q, .lst ((frL grp (pre ++ (S u).take j)).map pT)) :: μ) ⟨x6, x7, x8, by simp, by simp⟩ (fun _ _ _ _ => trivial) ?_ ?_)
      · rintro j d ρ μ' hi ⟨x6, x7, x8, rfl, rfl⟩
        rw [List.getElem?_map] at hi
        cases hx2 : (S u)[j]? with
        | none => rw [hx2] at hi; cases hi
        | some fs =>
          rw [hx2] at hi; cases hi
          have hfs := List.mem_of_getElem? hx2
          have hfew := GS.few u (hg u hm)
          have hpl : (pre ++ (S u).take j).length ≤ 410 := by rw [List.length_append, List.length_take]; omega
          rw [take_get hx2, ← List.append_assoc]
          generalize pre ++ (S u).take j = pr at *
          refine ⟨_, _, DG_name 6 nd, ?_⟩
          refine DSs_cons (DS_setLc 7 [("factor", 8)] fs uD (fun f => decide (f ∈ grp)) uD (DI_tup (DE_ixT (DE_var 6) DE_int)) (fun _ _ => trivial) (fun f hf a l => ⟨_, _, fun s0 H0 Cc cl fp => DG_name 8 nd, by decide, fun s0 H0 Cc cl fp => DTs_one (DT_inU hu65 (DE_var 8) (DE_var 1) .tu), fun _ => fun s0 H0 Cc cl fp => (DE_var 8)⟩) (fun q2 => ?_) nd)
          have hemp : ((fs.filter fun f => decide (f ∈ grp)).map uD).isEmpty = !inT grp fs := by
            unfold inT
            rw [Bool.eq_iff_iff]
            simp only [List.isEmpty_iff, List.map_eq_nil_iff, List.filter_eq_nil_iff, Bool.not_eq_true', List.any_eq_false]
          refine DSs_cons (DS_if (DT_not (DT_truP (DE_var 7) (n := 0) rfl)) (fun c => ?_) fun c => ?_)
          · rw [hemp, Bool.not_not] at c
            refine DSs_cons (DS_expr (apd 1 (DE_var 3) (DE_var 6) (hl := by rw [List.length_map]; exact Nat.lt_of_le_of_lt (List.length_filter_le _ _) (by omega))) ?_)
            refine DSs_drop (DSs_nil (DSs_nil ?_)) (List.sublist_cons_self _ _)
            refine ⟨some (pT fs), some (.ptr q2), x8, ?_, ?_⟩
            · rw [gdL_app]
              have : gdL grp part [fs] = true := by unfold gdL; simp at c; simp [c]
              rw [this, Bool.and_true]; rfl
            · rw [frL_app]
              have : frL grp [fs] = [fs] := by unfold frL; simp at c; simp [c]
              rw [this, List.map_append]; rfl
          · rw [hemp, Bool.not_not] at c
            have ef : frL grp (pr ++ [fs]) = frL grp pr := by
              rw [frL_app]
              have : frL grp [fs] = [] := by unfold frL; simp at c; simp [c]
              rw [this, List.append_nil]
            refine DSs_cons (DS_if (DT_gtI (DE_len (G.free "len") (DN.de (lcP [("factor", 8)] fs uD (fun f => decide (f ∈ part)) uD (DI_tup (DE_ixT (DE_var 6) DE_int)) rfl (fun _ _ => trivial) (fun f hf a l => ⟨_, _, fun s0 H0 Cc cl fp => DG_name 8 nd, by decide, fun s0 H0 Cc cl fp => DTs_one (DT_inU hu65 (DE_var 8) (DE_var 2) .tu), fun _ => fun s0 H0 Cc cl fp => (DE_var 8)⟩) nd rfl)) .li) DE_int) (fun c2 => ?_) fun c2 => ?_)
            · rw [List.length_map] at c2
              have c2 : 1 < (fs.filter fun f => decide (f ∈ part)).length := by have := of_decide_eq_true c2; omega
              refine DSs_cons (DS_set 4 DE_bl ?_ nd)
              refine DSs_drop (DSs_nil (DSs_nil (DSs_nil ?_))) (List.sublist_cons_self _ _)
              refine ⟨some (pT fs), some (.ptr q2), x8, ?_, by rw [ef]⟩
              rw [gdL_app]
              have : gdL grp part [fs] = false := by unfold gdL; simp at c; simp [c, c2]
              rw [this, Bool.and_false]; rfl
            · rw [List.length_map] at c2
              have c2 : ¬ 1 < (fs.filter fun f => decide (f ∈ part)).length := by have := of_decide_eq_false c2; omega
              refine DSs_drop (DSs_nil (DSs_nil (DSs_nil ?_))) (List.sublist_cons_self _ _)
              refine ⟨some (pT fs), some (.ptr q2), x8, ?_, by rw [ef]⟩
              rw [gdL_app]
              have : gdL grp part [fs] = true := by unfold gdL; simp [c2]
              rw [this, Bool.and_true]; rfl
      · rintro ρ μ' ⟨x6, x7, x8, rfl, rfl⟩
        rw [List.length_map, List.take_length]
        exact DSs_nil ⟨some (uD u), x6, x7, x8, rfl, rfl⟩
  · rintro ρ μ' ⟨x5, x6, x7, x8, rfl, rfl⟩
    rw [List.length_map, List.take_length]
    refine DSs_freeze 3 [] (h := ?_)
    exact DSs_cons (DS_ret (DE_tup (DA_cons (DE_var 3) (DA_cons (DE_var 4) DA_nil))) Ret.rt)
end Od
namespace Od
open PySem PySem.Spec PyProof.Rows L2
abbrev FD := List (U × Int)
def fdD (fd : FD) : List (List Int × D) := fd.map fun x => (uK x.1, D.int x.2)
def degOf (fd : FD) (u : U) : Int := ((fd.find? fun x => decide (x.1 = u)).map (·.2)).getD 0
def putF (fd : FD) (u : U) (d : Int) : FD := if fd.any (fun x => decide (x.1 = u)) then fd.map fun x => if x.1 = u then (x.1, d) else x else fd ++ [(u, d)]
theorem fdD_get (fd : FD) (u : U) : getK (fdD fd) (uK u) = (fd.find? fun x => decide (x.1 = u)).map fun x => .int x.2 := by
  unfold getK fdD
  induction fd with
  | nil => rfl
  | cons x fd ih =>
    rw [List.map_cons, List.find?_cons, List.find?_cons]
    by_cases h : x.1 = u
    · simp [h]
    · have : uK x.1 ≠ uK u := fun e => h (uK_inj e)
      simp only [this, h, decide_false]
      exact ih
theorem fdD_put (fd : FD) (u : U) (d : Int) : putD (fdD fd) (uK u) (.int d) = fdD (putF fd u d) := by
  unfold putD putF
  rw [fdD_get]
  have e : ((fd.find? fun x => decide (x.1 = u)).map fun x => D.int x.2).isSome = fd.any fun x => decide (x.1 = u) := by
    rw [Option.isSome_map, Bool.eq_iff_iff, List.find?_isSome, List.any_eq_true]
  rw [e]
  by_cases h : (fd.any fun x => decide (x.1 = u)) = true
  · rw [if_pos h, if_pos h]
    unfold fdD
    rw [List.map_map, List.map_map]
    apply List.map_congr_left
    intro x _
    show (if uK x.1 = uK u then (uK x.1, D.int d) else (uK x.1, D.int x.2)) = (uK (if x.1 = u then (x.1, d) else x).1, D.int (if x.1 = u then (x.1, d) else x).2)
    by_cases hx : x.1 = u
    · rw [if_pos hx, if_pos (by rw [hx])]
    · rw [if_neg hx, if_neg fun z => hx (uK_inj z)]
  · rw [if_neg h, if_neg h]
    unfold fdD
    rw [List.map_append]; rfl
theorem putF_len (fd : FD) (u : U) (d : Int) : (putF fd u d).length ≤ fd.length + 1 := by
  unfold putF
  split
  · rw [List.length_map]; omega
  · simp
def totR (fd : FD) (fs : List U) : Int := (fs.map (degOf fd)).sum
def spTotal : Dsp := fun ds μ d μ' => ds.length = 2 ∧ ∃ (q : Addr) (n : Nat) (fd : FD) (fs : List U), ds = [.ptr q, pT fs] ∧ μ[n]? = some (q, .dic (fdD fd)) ∧ d = .int (totR fd fs) ∧ μ = μ'
abbrev n_total : List Str := ["found", "term", "factor"]
theorem sc_total : FnScope n_total ["found", "term"] d_total.scope := ⟨rfl, rfl, rfl, by decide +kernel, rfl, by decide +kernel, by decide +kernel⟩
theorem c_total {g : Gv} (G : Gd g) : Ctr g 1 "total" (spD g.K spTotal) := by
  obtain ⟨fd, F⟩ := G.def_ 36 (d := d_total) rfl
  refine ⟨_, G.glo "total", F.kp, fn_of_body F sc_total (F.bindsN fun _ _ _ _ _ _ us hl => match us, hl with | [_, _], _ => rfl) (fun _ _ _ _ h => h.1) fun l ds μ d μ' R h => ?_⟩
  obtain ⟨-, h⟩ := h
  have nd := sc_total.nd
  obtain ⟨q, n, fd, fs, rfl, hn, rfl, rfl⟩ := h
  have hu : (cX g l n_total d_total.scope).A.units + 1 < cLine := by have := R.un; omega
  refine DSs_cons (DS_ret (DE_sum (ns := fs.map (degOf fd)) (G.free "sum") (DN.de (lcF [("factor", 2)] fs uD (fun f => .int (degOf fd f)) (DI_tup (DE_ixT (DE_var 1) DE_int)) rfl (fun _ _ => trivial) (fun f hf a l => ⟨_, _, fun s0 H0 Cc cl fp => DG_name 2 nd, by decide, fun s0 H0 Cc cl fp => DE.eq (DE_dgetOr hu (DE_var 0) (DE_var 2) DE_int (.pt (n + 1) hn) (m := ⟨rfl, rfl, rfl, rfl⟩)) ?_⟩) nd (by rw [List.map_map]; rfl)))) Ret.rt)
  rw [fdD_get]
  unfold degOf
  cases fd.find? fun x => decide (x.1 = f) <;> rfl
def maxI (l : List Int) : Int := l.foldl max 0
theorem maxI_mem : ∀ l : List Int, maxI l ∈ 0 :: l := by
  have go : ∀ (l : List Int) (a : Int), l.foldl max a ∈ a :: l := fun l => by
    induction l with
    | nil => intro a; simp
    | cons x l ih =>
      intro a
      rw [List.foldl_cons]
      have := ih (max a x)
      rcases List.mem_cons.mp this with z | z
      · rw [z]
        rcases Int.le_total a x with h | h
        · rw [Int.max_eq_right h]; simp
        · rw [Int.max_eq_left h]; simp
      · exact List.mem_cons_of_mem _ (List.mem_cons_of_mem _ z)
  exact fun l => go l 0
theorem maxI_le : ∀ l : List Int, ∀ y ∈ 0 :: l, y ≤ maxI l := by
  have go : ∀ (l : List Int) (a : Int), ∀ y ∈ a :: l, y ≤ l.foldl max a := fun l => by
    induction l with
    | nil => intro a y hy; simp at hy; subst hy; exact Int.le_refl _
    | cons x l ih =>
      intro a y hy
      rw [List.foldl_cons]
      rcases List.mem_cons.mp hy with rfl | hy
      · exact Int.le_trans (Int.le_max_left y x) (ih _ _ (by simp))
      · rcases List.mem_cons.mp hy with rfl | hy
        · exact Int.le_trans (Int.le_max_right a y) (ih _ _ (by simp))
        · exact ih _ _ (List.mem_cons_of_mem _ hy)
  exact fun l => go l 0
def degG (S : U → List (List U)) (fd : FD) (grp : List U) : Int := maxI ((frL grp (grT S grp)).map (totR fd))
def putAll (fd : FD) (grp : List U) (d : Int) : FD := grp.foldl (fun f u => putF f u d) fd
def loopB (E : U → List U) : List U → Bool
  | [] => false
  | h :: t => decide (1 < (h :: t).length) || decide (h ∈ E h)
/-- a group is gone through -/
def degStep (S : U → List (List U)) (part : List U) (E : U → List U) (fd : FD) (grp : List U) : Option FD :=
  if (!gdL grp part (grT S grp) && loopB E grp) = true then none else some (putAll fd grp (degG S fd grp))
def degGo (S : U → List (List U)) (part : List U) (E : U → List U) (fd : FD) (bs : List (List U)) : Option FD := bs.foldl (fun o b => o.bind fun f => degStep S part E f b) (some fd)
theorem degGo_snoc (S : U → List (List U)) (part : List U) (E : U → List U) (fd : FD) (bs : List (List U)) (b : List U) : degGo S part E fd (bs ++ [b]) = (degGo S part E fd bs).bind fun f => degStep S part E f b := by
  unfold degGo
  rw [List.foldl_append]; rfl
theorem degGo_none {S : U → List (List U)} {part : List U} {E : U → List U} {fd : FD} {bs : List (List U)} {i : Nat} (h : degGo S part E fd (bs.take i) = none) : degGo S part E fd bs = none := by
  have : bs = bs.take i ++ bs.drop i := (List.take_append_drop i bs).symm
  rw [this]
  unfold degGo at h ⊢
  rw [List.foldl_append, h]
  generalize bs.drop i = l
  induction l with
  | nil => rfl
  | cons x l ih => exact ih
def degR (S : U → List (List U)) (part : List U) (cut : U) : Option FD :=
  match degGo S part (ledE S part cut) [(cut, 1)] (blocksR (besN part cut) (ledE S part cut)) with
  | none => none
  | some fd => if (S cut).any (fun fs => decide (2 < totR fd fs)) then none else some fd
def degD : Option FD → D
  | none => .non
  | some fd => .dic (fdD fd)
theorem DE.catL {X : Cx} {a b : Expr} {ρ : Rho} {μ μ1 μ2 : Mu} {ds es : List D} {d : D} {pos : Pos} (ha : DN X a ρ μ (.lst ds) μ1) (hb : DN X b ρ μ1 (.lst es) μ2) (hl : ds.length + es.length ≤ 16777216) (hd : D.lst (ds ++ es) = d) : DN X (.BinOp a .Add b pos) ρ μ d μ2 := by
  subst hd
  exact DN_cat ha.de hb.de .li .li hl
theorem left_cls {us : List U} {R : U → List U} : ∀ b ∈ leftR us R, ∃ u ∈ us, b = clsR us R u := by
  have go : ∀ (vs : List U) (s : List (List U) × List U), (∀ x ∈ vs, x ∈ us) → (∀ b ∈ s.1, ∃ u ∈ us, b = clsR us R u) → ∀ b ∈ (vs.foldl (lst1 us R) s).1, ∃ u ∈ us, b = clsR us R u := fun vs => by
    induction vs with
    | nil => intro s _ h; exact h
    | cons v vs ih =>
      intro s hv h
      refine ih (lst1 us R s v) (fun x hx => hv x (by simp [hx])) fun b hb => ?_
      unfold lst1 at hb
      split at hb
      · exact h b hb
      · rcases List.mem_append.mp hb with z | z
        · exact h b z
        · rw [List.mem_singleton] at z; exact ⟨v, hv v (by simp), z⟩
  exact go us ([], []) (fun x hx => hx) (fun b hb => nomatch hb)
theorem bsN_found {R : U → List U} {s : BS} {p : List U → Prop} (hl : ∀ b ∈ s.left, p b) (hf : ∀ b ∈ s.found, p b) : ∀ k, k ≤ s.left.length → (∀ b ∈ (bsN R s k).left, p b) ∧ (∀ b ∈ (bsN R s k).found, p b) ∧ (bsN R s k).left.length + k = s.left.length
  | 0, _ => ⟨hl, hf, rfl⟩
  | k + 1, hk => by
    obtain ⟨a, b, c⟩ := bsN_found (R := R) hl hf k (by omega)
    have hne : (bsN R s k).left ≠ [] := fun e => by rw [e] at c; simp at c; omega
    have hb := bst_len (R := R) hne
    refine ⟨fun x hx => a x (List.mem_of_mem_erase hx), fun x hx => ?_, ?_⟩
    · rcases List.mem_append.mp (show x ∈ (bsN R s k).found ++ [_] from hx) with z | z
      · exact b x z
      · rw [List.mem_singleton] at z; rw [z]; exact a _ (pick_mem hne)
    · show (bst R (bsN R s k)).left.length + (k + 1) = _
      omega
/-- what a block is -/
theorem block_ok {us : List U} {E : U → List U} (hn : us.Nodup) : (∀ b ∈ blocksR us E, okB us b ∧ b.Nodup) ∧ (blocksR us E).length ≤ us.length := by
  have hl : ∀ b ∈ leftR us (reachR us E), okB us b ∧ b.Nodup := fun b hb => by
    obtain ⟨u, hu, rfl⟩ := left_cls b hb
    exact ⟨cls_ok hu, hn.filter _⟩
  have h1 := bsN_found (R := reachR us E) (s := ⟨leftR us (reachR us E), [], []⟩) hl (fun b hb => nomatch hb) _ (Nat.le_refl _)
  have h2 := bsN_done (us := us) (R := reachR us E) (s := ⟨leftR us (reachR us E), [], []⟩) (fun b hb => (hl b hb).1) List.nodup_nil (fun x hx => nomatch hx) _ (Nat.le_refl _)
  refine ⟨h1.2.1, ?_⟩
  have h3 := (leftR_ok us (reachR us E)).2
  have h4 : (blocksR us E).length = 0 + (leftR us (reachR us E)).length := h2.2.2.2
  omega
def spDegB : Dsp := fun ds μ d μ' => ds.length = 3 ∧ ∃ lv S part cut, ds = [SD lv S, blkD part, uD cut] ∧ SG lv S ∧ (∀ u ∈ part, u ∈ lv) ∧ part.Nodup ∧ cut ∈ lv ∧ d = degD (degR S part cut) ∧ μ = μ'
abbrev n_degrees_beside : List Str := ["system", "part", "cut", "uses", "found", "group", "free", "good", "degree", "term", "unknown"]
theorem sc_degrees_beside : FnScope n_degrees_beside ["system", "part", "cut"] d_degrees_beside.scope := ⟨rfl, rfl, rfl, by decide +kernel, rfl, by decide +kernel, by decide +kernel⟩
theorem c_degrees_beside {g : Gv} (G : Gd g) : Ctr g 3 "degrees_beside" (spD g.K spDegB) := by
  obtain ⟨fd, F⟩ := G.def_ 37 (d := d_degrees_beside) rfl
  refine ⟨_, G.glo "degrees_beside", F.kp, fn_of_body F sc_degrees_beside (F.bindsN fun _ _ _ _ _ _ us hl => match us, hl with | [_, _, _], _ => rfl) (fun _ _ _ _ h => h.1) fun l ds μ d μ' R h => ?_⟩
  obtain ⟨-, h⟩ := h
  have nd := sc_degrees_beside.nd
  obtain ⟨lv, S, part, cut, rfl, GS, hp, hn, hcut, rfl, rfl⟩ := h
  have hu : (cX g l n_degrees_beside d_degrees_beside.scope).A.units + 1 < cLine := by have := R.un; omega
  have hlp : part.length ≤ 40 := Nat.le_trans (nodup_len hn hp) GS.len
  have Gu := led_gr GS (cut := cut) hp hn
  obtain ⟨bo, bl⟩ := block_ok (E := ledE S part cut) Gu.nd
  have hbes : (besN part cut).length ≤ 40 := Nat.le_trans (List.length_filter_le _ _) hlp
  refine DSs_cons (DS_set 3 (DE_call (c_leads G) R (DA_cons (DE_var 0) (DA_cons (DE_var 1) (DA_cons (DE_var 2) DA_nil))) ⟨rfl, lv, S, part, cut, rfl, GS, hp, hn, rfl, rfl⟩) ?_ nd)
  refine DSs_cons (DS_setN 4 (DN_dic1 hu (fun _ => (DE_var 2)) (fun _ => DE_int)) (fun q => ?_) nd)
  have hdR : degR S part cut = match degGo S part (ledE S part cut) [(cut, 1)] (blocksR (besN part cut) (ledE S part cut)) with
    | none => none
    | some fd => if (S cut).any (fun fs => decide (2 < totR fd fs)) then none else some fd := rfl
  have hbs : ∀ u ∈ besN part cut, u ∈ lv := fun u hu => hp u (List.mem_filter.mp hu).1
  have hgl := Gu.len
  generalize hE : ledE S part cut = E at *
  generalize hB : besN part cut = us at *
  generalize hbb : blocksR us E = bs at *
  refine DSs_cons (DS_for (DI_lst (DE_call (c_blocks G) R (DA_cons (DE_var 3) DA_nil) ⟨rfl, us, E, rfl, Gu, rfl, rfl⟩)) (fun i ρ μ' => ∃ fd x5 x6 x7 x8 x9 x10, ρ = [some (SD lv S), some (blkD part), some (uD cut), some (usesD us E), some (.ptr q), x5, x6, x7, x8, x9, x10] ∧ μ' = (q, .dic (fdD fd)) :: μ ∧
    degGo S part E [(cut, 1)] (bs.take i) = some fd ∧ fd.length ≤ 1 + 40 * i) ⟨[(cut, 1)], _, _, _, _, _, _, rfl, rfl, rfl, Nat.le_refl 1⟩ (fun _ _ _ _ => trivial) ?_ ?_)
  · rintro i d ρ μ' hi ⟨fd, x5, x6, x7, x8, x9, x10, rfl, rfl, hgo, hfl⟩
    rw [hbb, List.getElem?_map] at hi
    cases hx : bs[i]? with
    | none => rw [hx] at hi; cases hi
    | some b =>
      rw [hx] at hi; cases hi
      have hbm := List.mem_of_getElem? hx
      obtain ⟨⟨bne, bsub, blen⟩, bnd⟩ := bo b hbm
      have hil := (List.getElem?_eq_some_iff.mp hx).1
      obtain ⟨h, t, eb⟩ : ∃ h t, b = h :: t := by
        cases b with
        | nil => exact absurd rfl bne
        | cons h t => exact ⟨h, t, rfl⟩
      have hstep : degGo S part E [(cut, 1)] (bs.take (i + 1)) = degStep S part E fd b := by
        rw [take_get hx, degGo_snoc, hgo]; rfl
      refine ⟨_, _, DG_name 5 nd, ?_⟩
      refine DSs_cons (DS_asg (DE_call (c_group_terms G) R (DA_cons (DE_var 0) (DA_cons (DE_var 5) (DA_cons (DE_var 1) DA_nil))) ⟨rfl, lv, S, b, part, rfl, GS, fun u hu => hbs u (bsub u hu), bnd, rfl, rfl⟩) (DG_tup (DGs_cons (DG_name 6 nd) (DGs_cons (DG_name 7 nd) DGs_nil))) ?_)
      refine DSs_cons (DS_if (DW.dt (DW_and (b2 := loopB E b) (DT_not (DT_val (DE_var 7))) fun _ => DW_and1 (DT_val (DE_call (c_is_looped G) R (DA_cons (DE_var 3) (DA_cons (DE_var 5) DA_nil)) ⟨rfl, us, E, h, t, by rw [eb], bsub h (by rw [eb]; simp), by rw [eb]; rfl, rfl⟩)))) (fun c => ?_) fun c => ?_)
      · have e : degR S part cut = none := by
          have h1 : degGo S part E [(cut, 1)] (bs.take (i + 1)) = none := by
            rw [hstep]; unfold degStep; rw [if_pos c]
          rw [hdR, degGo_none h1]
        refine DSs_cons (DS_ret DE_non ?_)
        rw [e]
        exact Ret.rt1
      · have hst : degStep S part E fd b = some (putAll fd b (degG S fd b)) := by
          unfold degStep; rw [if_neg (by rw [c]; decide)]
        refine DSs_nil ?_
        have hfr : (frL b (grT S b)).length ≤ 400 := by
          have h1 := flat_le (l := b) (S := S) (b := 10) fun u hu => GS.few u (hbs u (bsub u hu))
          have h2 : b.length ≤ 40 := by omega
          have h3 : (frL b (grT S b)).length ≤ (b.flatMap S).length := List.length_filter_le _ _
          omega
        have mm := maxI_mem ((frL b (grT S b)).map (totR fd))
        have ml := maxI_le ((frL b (grT S b)).map (totR fd))
        refine DSs_cons (DS_set 8 (DE_max (ns := 0 :: (frL b (grT S b)).map (totR fd)) (m := degG S fd b) (G.free "max") (DN.de (DE.catL (DN_lst (DA_cons DE_int DA_nil)) (lcF [("term", 9)] (frL b (grT S b)) pT (fun fs => .int (totR fd fs)) (DI_lst (DE_var 6)) rfl (fun _ _ => trivial) (fun fs hfs a l => ⟨_, _, fun s0 H0 Cc cl fp => DG_name 9 nd, by decide, fun s0 H0 Cc cl fp => DE_call (c_total G) R (DA_cons (DE_var 4) (DA_cons (DE_var 9) DA_nil)) ⟨rfl, q, 1, fd, fs, rfl, rfl, rfl, rfl⟩⟩) nd rfl) (by rw [List.length_map]; show 1 + _ ≤ _; omega) (by rw [List.map_cons, List.map_map]; rfl))) mm ml) ?_ nd)
        refine DSs_cons (DS_for (DI_tup (DE_var 5)) (fun j ρ μ' => ∃ x10, ρ = [some (SD lv S), some (blkD part), some (uD cut), some (usesD us E), some (.ptr q), some (blkD b), some (.lst ((frL b (grT S b)).map pT)), some (.bl (gdL b part (grT S b))), some (.int (degG S fd b)), x9, x10] ∧ μ' = (q, .dic (fdD (putAll fd (b.take j) (degG S fd b)))) :: μ ∧ (putAll fd (b.take j) (degG S fd b)).length ≤ 1 + 40 * i + j) ⟨x10, rfl, rfl, hfl⟩ (fun _ _ _ _ => trivial) ?_ ?_)
        · rintro j d ρ μ' hi ⟨x10, rfl, rfl, hjl⟩
          rw [List.getElem?_map] at hi
          cases hx2 : b[j]? with
          | none => rw [hx2] at hi; cases hi
          | some u =>
            rw [hx2] at hi; cases hi
            have hjb := (List.getElem?_eq_some_iff.mp hx2).1
            have e2 : putAll fd (b.take (j + 1)) (degG S fd b) = putF (putAll fd (b.take j) (degG S fd b)) u (degG S fd b) := by
              rw [take_get hx2]; unfold putAll; rw [List.foldl_append]; rfl
            refine ⟨_, _, DG_name 10 nd, ?_⟩
            refine DSs_cons (DS_put 0 (ks := fdD (putAll fd (b.take j) (degG S fd b))) hu (DE_var 8) (DE_var 4) (DE_var 10) (by unfold fdD; rw [List.length_map]; omega) ?_)
            refine DSs_nil ⟨some (uD u), rfl, ?_, ?_⟩
            · rw [fdD_put, e2]; rfl
            · rw [e2]
              have := putF_len (putAll fd (b.take j) (degG S fd b)) u (degG S fd b)
              omega
        · rintro ρ μ' ⟨x10, rfl, rfl, hjl⟩
          rw [List.length_map] at hjl ⊢
          rw [List.take_length] at hjl ⊢
          exact DSs_nil ⟨_, _, _, _, _, _, _, rfl, rfl, by rw [hstep, hst], by omega⟩
  · rintro ρ μ' ⟨fd, x5, x6, x7, x8, x9, x10, rfl, rfl, hgo, hfl⟩
    rw [hbb, List.length_map, List.take_length] at hgo
    rw [hgo] at hdR
    simp only at hdR
    have ea : (((S cut).map fun fs => decide (2 < totR fd fs)).any fun z => z) = (S cut).any fun fs => decide (2 < totR fd fs) := by rw [List.any_map]; rfl
    refine DSs_cons (DS_if (DT_val (DE_any_ (bs := (S cut).map fun fs => decide (2 < totR fd fs)) (G.free "any") (DN.de (lcF [("term", 9)] (S cut) pT (fun fs => .bl (decide (2 < totR fd fs))) (DI_lst (DE_dget hu (DE_var 0) (DE_var 2) .fz (GS.get hcut))) rfl (fun _ _ => trivial) (fun fs hfs a l => ⟨_, _, fun s0 H0 Cc cl fp => DG_name 9 nd, by decide, fun s0 H0 Cc cl fp => DE_gtI (DE_call (c_total G) R (DA_cons (DE_var 4) (DA_cons (DE_var 9) DA_nil)) ⟨rfl, q, 1, fd, fs, rfl, rfl, rfl, rfl⟩) (DE_gint (G.intc "MOST_DEGREE" 2))⟩) nd (by rw [List.map_map]; rfl))))) (fun c => ?_) fun c => ?_)
    · rw [ea] at c
      rw [if_pos c] at hdR
      refine DSs_cons (DS_ret DE_non ?_)
      rw [hdR]
      exact Ret.rt1
    · rw [ea] at c
      rw [if_neg (by rw [c]; decide)] at hdR
      refine DSs_nil ?_
      refine DSs_freeze 4 [] (h := ?_)
      refine DSs_cons (DS_ret (DE_var 4) ?_)
      rw [hdR]
      exact Ret.rt
end Od
namespace Od
open PySem PySem.Spec PyProof.Rows L2
def cutsR (S : U → List (List U)) (part : List U) : List U := if curvR S part = true then part.filter fun u => (degR S part u).isSome else []
theorem degD_non (o : Option FD) : isNon (degD o) = !o.isSome := by cases o <;> rfl
theorem degD_any (o : Option FD) : notAny (degD o) = true := by cases o <;> rfl
def spCutsOf : Dsp := fun ds μ d μ' => ds.length = 2 ∧ ∃ lv S part, ds = [SD lv S, blkD part] ∧ SG lv S ∧ (∀ u ∈ part, u ∈ lv) ∧ part.Nodup ∧ d = .lst ((cutsR S part).map uD) ∧ μ = μ'
abbrev n_cuts_of : List Str := ["system", "part", "unknown"]
theorem sc_cuts_of : FnScope n_cuts_of ["system", "part"] d_cuts_of.scope := ⟨rfl, rfl, rfl, by decide +kernel, rfl, by decide +kernel, by decide +kernel⟩
theorem c_cuts_of {g : Gv} (G : Gd g) : Ctr g 4 "cuts_of" (spD g.K spCutsOf) := by
  obtain ⟨fd, F⟩ := G.def_ 38 (d := d_cuts_of) rfl
  refine ⟨_, G.glo "cuts_of", F.kp, fn_of_body F sc_cuts_of (F.bindsN fun _ _ _ _ _ _ us hl => match us, hl with | [_, _], _ => rfl) (fun _ _ _ _ h => h.1) fun l ds μ d μ' R h => ?_⟩
  obtain ⟨-, h⟩ := h
  have nd := sc_cuts_of.nd
  obtain ⟨lv, S, part, rfl, GS, hp, hn, rfl, rfl⟩ := h
  refine DSs_cons (DS_if (DT_not (DT_val (DE_call (c_is_curved G) R (DA_cons (DE_var 0) (DA_cons (DE_var 1) DA_nil)) ⟨rfl, lv, S, part, rfl, GS, hp, rfl, rfl⟩))) (fun c => ?_) fun c => ?_)
  · have c : ¬ curvR S part = true := by simpa using c
    refine DSs_cons (DS_ret (DN.de (DN_lst DA_nil)) ?_)
    unfold cutsR
    rw [if_neg c]
    exact Ret.rt
  · have c : curvR S part = true := by simpa using c
    refine DSs_nil ?_
    refine DSs_cons (DS_ret (DN.de (lcP [("unknown", 2)] part uD (fun u => (degR S part u).isSome) uD (DI_tup (DE_var 1)) rfl (fun _ _ => trivial) (fun u hm a l => ⟨_, _, fun s0 H0 Cc cl fp => DG_name 2 nd, by decide, fun s0 H0 Cc cl fp => DTs_one (DT.eq (DT_notN (DE_call (c_degrees_beside G) R (DA_cons (DE_var 0) (DA_cons (DE_var 1) (DA_cons (DE_var 2) DA_nil))) ⟨rfl, lv, S, part, u, rfl, GS, hp, hn, hp u hm, rfl, rfl⟩) (degD_any _)) (by rw [degD_non, Bool.not_not])), fun _ => fun s0 H0 Cc cl fp => (DE_var 2)⟩) nd rfl)) ?_)
    unfold cutsR
    rw [if_pos c]
    exact Ret.rt
theorem menu_len4 : ∀ row ∈ menu, row.length ≤ 4 := by decide
theorem terms_few {ps : List Proc} (G : GoodP ps) {u : U} (h : InU ps u) : (termsR ps u).length ≤ 4 ∧ ∀ t ∈ termsR ps u, t.2.length ≤ 2 := by
  obtain ⟨t, ht, tm⟩ := ptAt_at h
  obtain ⟨q1, q2, q3, q4, qt⟩ := G.each _ (prAt_mem h.1 h.2.1)
  have ok := qt t tm
  unfold termsR
  rw [ht]
  cases t with
  | draw bs =>
    have := menu_len4 _ ok.1
    rw [List.length_map] at this
    exact ⟨by rw [List.length_map]; exact this, fun t ht => by obtain ⟨b, _, rfl⟩ := List.mem_map.mp ht; simp⟩
  | reward a t => exact ⟨by simp, fun t ht => by simp at ht; subst ht; simp⟩
  | call r gs =>
    obtain ⟨z1, z2, _⟩ := G.each _ (prAt_mem ok.1 ok.2.1)
    refine ⟨?_, fun t ht => ?_⟩
    · simp only [List.length_append, List.length_map, List.length_range]
      split <;> simp <;> omega
    · rcases List.mem_append.mp ht with z | z
      · obtain ⟨e, _, rfl⟩ := List.mem_map.mp z
        simp
      · split at z
        · simp at z; subst z; simp
        · cases z
  | exit e =>
    simp only
    split
    · exact ⟨by simp, fun t ht => by simp at ht; subst ht; simp⟩
    · exact ⟨by simp, fun t ht => nomatch ht⟩
  | reject =>
    simp only
    split
    · exact ⟨by simp, fun t ht => by simp at ht; subst ht; simp⟩
    · exact ⟨by simp, fun t ht => nomatch ht⟩
  | stop =>
    simp only
    split
    · exact ⟨by simp, fun t ht => by simp at ht; subst ht; simp⟩
    · exact ⟨by simp, fun t ht => nomatch ht⟩
theorem sysG {ps : List Proc} (G : GoodP ps) : SG (livU ps) (sysF ps) := by
  have mem : ∀ {u}, u ∈ livU ps → InU ps u := fun h => mem_unkR.mp (List.mem_filter.mp h).1
  refine ⟨(unkR_nd ps).filter _, Nat.le_trans (List.length_filter_le _ _) (unkR_len G), fun u hu fs hfs f hf => ?_, fun u hu => ?_, fun u hu fs hfs => ?_⟩
  · have h1 := (List.mem_filter.mp hfs).2
    unfold allIn at h1
    rw [List.all_eq_true] at h1
    have h2 : f ∈ posU ps := of_decide_eq_true (h1 f hf)
    exact List.mem_filter.mpr ⟨posR_sub _ _ f h2, decide_eq_true h2⟩
  · have h1 := (terms_few G (mem hu)).1
    refine Nat.le_trans (List.length_filter_le _ _) ?_
    unfold facF
    rw [List.length_map]; omega
  · have h1 := (List.mem_filter.mp hfs).1
    unfold facF at h1
    obtain ⟨t, ht, rfl⟩ := List.mem_map.mp h1
    exact (terms_few G (mem hu)).2 t ht
def partsR (ps : List Proc) : List (List U) := blocksR (livU ps) (facR (sysF ps))
theorem parts_ok {ps : List Proc} (G : GoodP ps) : ∀ b, b ∈ partsR ps → okB (livU ps) b ∧ b.Nodup := (block_ok (sysG G).nd).1
def spCuts (g : Gv) : Dsp := fun ds μ d μ' => ds.length = 2 ∧ ∃ (ps : List Proc) (k : Nat) (part : List U), ds = [grD g ps, .int k] ∧ GoodP ps ∧ (partsR ps)[k]? = some part ∧ d = .lst ((cutsR (sysF ps) part).map uD) ∧ μ = μ'
abbrev n_cuts : List Str := ["graph", "part", "system", "found"]
theorem sc_cuts : FnScope n_cuts ["graph", "part"] d_cuts.scope := ⟨rfl, rfl, rfl, by decide +kernel, rfl, by decide +kernel, by decide +kernel⟩
theorem c_cuts {g : Gv} (G : Gd g) : Ctr g 8 "cuts" (spD g.K (spCuts g)) := by
  obtain ⟨fd, F⟩ := G.def_ 39 (d := d_cuts) rfl
  refine ⟨_, G.glo "cuts", F.kp, fn_of_body F sc_cuts (F.bindsN fun _ _ _ _ _ _ us hl => match us, hl with | [_, _], _ => rfl) (fun _ _ _ _ h => h.1) fun l ds μ d μ' R h => ?_⟩
  obtain ⟨-, h⟩ := h
  have nd := sc_cuts.nd
  obtain ⟨ps, k, part, rfl, G', hk, rfl, rfl⟩ := h
  have GS := sysG G'
  have hkl := (List.getElem?_eq_some_iff.mp hk).1
  obtain ⟨⟨_, hsub, _⟩, hnd⟩ := parts_ok G' part (List.mem_of_getElem? hk)
  refine DSs_cons (DS_expr (DE_call (c_check_chain G) R (DA_cons (DE_var 0) DA_nil) ⟨rfl, ps, rfl, rfl, rfl⟩) ?_)
  refine DSs_cons (DS_set 2 (DE_call (c_system_of G) R (DA_cons (DE_var 0) DA_nil) ⟨rfl, ps, rfl, G', rfl, rfl⟩) ?_ nd)
  refine DSs_cons (DS_set 3 (DE_call (c_parts_of G) R (DA_cons (DE_var 2) DA_nil) ⟨rfl, livU ps, sysF ps, rfl, GS, rfl, rfl⟩) ?_ nd)
  refine DSs_cons (DS_if (DW.dt (DW_or (DT_not (DT_isi (T' := "int") (t := true) (G.free "isinstance") (G.free "int") (DE_var 1))) fun _ => DW_or (DT_isi (T' := "bool") (t := false) (G.free "isinstance") (G.free "bool") (DE_var 1)) fun _ => DW_or1 (DT_not (DT_chain op_le op_lt DE_int (DE_var 1) (DE_len (G.free "len") (DE_var 3) .li))))) (fun c => ?_) fun _ => ?_)
  · rw [List.length_map, decide_eq_true (show (0 : Int) ≤ (k : Nat) by omega), decide_eq_true (show ((k : Nat) : Int) < ((blocksR (livU ps) (facR (sysF ps))).length : Nat) by have : k < (blocksR (livU ps) (facR (sysF ps))).length := hkl; omega)] at c
    exact absurd c (by decide)
  refine DSs_nil ?_
  exact DSs_cons (DS_ret (DE_call (c_cuts_of G) R (DA_cons (DE_var 2) (DA_cons (DE_ixL (DE_var 3) (DE_var 1) (atI_map hk)) DA_nil)) ⟨rfl, livU ps, sysF ps, part, rfl, GS, hsub, hnd, rfl, rfl⟩) Ret.rt)
def spPartW : Dsp := fun ds μ d μ' => ds.length = 2 ∧ ∃ lv S u part, ds = [SD lv S, uD u] ∧ SG lv S ∧ (blocksR lv (facR S)).find? (fun b => decide (u ∈ b)) = some part ∧ d = blkD part ∧ μ = μ'
abbrev n_part_with : List Str := ["system", "unknown", "part"]
theorem sc_part_with : FnScope n_part_with ["system", "unknown"] d_part_with.scope := ⟨rfl, rfl, rfl, by decide +kernel, rfl, by decide +kernel, by decide +kernel⟩
theorem c_part_with {g : Gv} (G : Gd g) : Ctr g 4 "part_with" (spD g.K spPartW) := by
  obtain ⟨fd, F⟩ := G.def_ 40 (d := d_part_with) rfl
  refine ⟨_, G.glo "part_with", F.kp, fn_of_body F sc_part_with (F.bindsN fun _ _ _ _ _ _ us hl => match us, hl with | [_, _], _ => rfl) (fun _ _ _ _ h => h.1) fun l ds μ d μ' R h => ?_⟩
  obtain ⟨-, h⟩ := h
  have nd := sc_part_with.nd
  obtain ⟨lv, S, u, part, rfl, GS, hf, rfl, rfl⟩ := h
  have hu65 : (cX g l n_part_with d_part_with.scope).A.units + 65 < cLine := by have := R.un; omega
  refine DSs_cons (DS_for (DI_lst (DE_call (c_parts_of G) R (DA_cons (DE_var 0) DA_nil) ⟨rfl, lv, S, rfl, GS, rfl, rfl⟩)) (fun i ρ μ' => ∃ x2, ρ = [some (SD lv S), some (uD u), x2] ∧ μ' = μ ∧ ∀ b ∈ (blocksR lv (facR S)).take i, (decide (u ∈ b)) = false) ⟨_, rfl, rfl, fun b hb => by simp at hb⟩ (fun _ _ _ _ => trivial) ?_ ?_)
  · rintro i d ρ μ' hi ⟨x2, rfl, rfl, hr⟩
    rw [List.getElem?_map] at hi
    cases hx : (blocksR lv (facR S))[i]? with
    | none => rw [hx] at hi; cases hi
    | some b =>
      rw [hx] at hi; cases hi
      refine ⟨_, _, DG_name 2 nd, ?_⟩
      refine DSs_cons (DS_if (DT_inU hu65 (DE_var 1) (DE_var 2) .tu) (fun c => ?_) fun c => ?_)
      · have := find_first hr hx c
        rw [hf] at this
        cases this
        exact DSs_cons (DS_ret (DE_var 2) Ret.rt)
      · refine DSs_nil (DSs_nil ⟨some (blkD b), rfl, rfl, fun b' hb' => ?_⟩)
        rw [take_get hx] at hb'
        rcases List.mem_append.mp hb' with z | z
        · exact hr b' z
        · rw [List.mem_singleton] at z; subst z; exact c
  · rintro ρ μ' ⟨x2, rfl, rfl, hr⟩
    rw [List.length_map, List.take_length] at hr
    rw [find_no hr] at hf
    cases hf
def spDegs (g : Gv) : Dsp := fun ds μ d μ' => ds.length = 2 ∧ ∃ ps u part fd, ds = [grD g ps, uD u] ∧ GoodP ps ∧ u ∈ livU ps ∧ (partsR ps).find? (fun b => decide (u ∈ b)) = some part ∧ curvR (sysF ps) part = true ∧ degR (sysF ps) part u = some fd ∧
  (∀ o ∈ part, (fd.find? fun x => decide (x.1 = o)).isSome) ∧ d = .lst (part.map fun o => .int (degOf fd o)) ∧ μ = μ'
abbrev n_degrees : List Str := ["graph", "unknown", "system", "part", "found", "other"]
theorem sc_degrees : FnScope n_degrees ["graph", "unknown"] d_degrees.scope := ⟨rfl, rfl, rfl, by decide +kernel, rfl, by decide +kernel, by decide +kernel⟩
theorem c_degrees {g : Gv} (G : Gd g) : Ctr g 8 "degrees" (spD g.K (spDegs g)) := by
  obtain ⟨fd, F⟩ := G.def_ 41 (d := d_degrees) rfl
  refine ⟨_, G.glo "degrees", F.kp, fn_of_body F sc_degrees (F.bindsN fun _ _ _ _ _ _ us hl => match us, hl with | [_, _], _ => rfl) (fun _ _ _ _ h => h.1) fun l ds μ d μ' R h => ?_⟩
  obtain ⟨-, h⟩ := h
  have nd := sc_degrees.nd
  obtain ⟨ps, u, part, fd, rfl, G', hul, hf, hc, hd, hk, rfl, rfl⟩ := h
  have hu : (cX g l n_degrees d_degrees.scope).A.units + 1 < cLine := by have := R.un; omega
  have GS := sysG G'
  obtain ⟨⟨_, hsub, _⟩, hnd⟩ := parts_ok G' part (List.mem_of_find?_eq_some hf)
  have iu : InU ps u := mem_unkR.mp (List.mem_filter.mp hul).1
  refine DSs_cons (DS_expr (DE_call (c_check_unknown G) R (DA_cons (DE_var 0) (DA_cons (DE_var 1) DA_nil)) ⟨rfl, ps, u, rfl, iu, rfl, rfl⟩) ?_)
  refine DSs_cons (DS_set 2 (DE_call (c_system_of G) R (DA_cons (DE_var 0) DA_nil) ⟨rfl, ps, rfl, G', rfl, rfl⟩) ?_ nd)
  refine DSs_cons (DS_set 3 (DE_call (c_part_with G) R (DA_cons (DE_var 2) (DA_cons (DE_var 1) DA_nil)) ⟨rfl, livU ps, sysF ps, u, part, rfl, GS, hf, rfl, rfl⟩) ?_ nd)
  refine DSs_cons (DS_if (DW.dt (DW_or (DT_isN (DE_var 3)) fun _ => DW_or1 (DT_not (DT_val (DE_call (c_is_curved G) R (DA_cons (DE_var 2) (DA_cons (DE_var 3) DA_nil)) ⟨rfl, livU ps, sysF ps, part, rfl, GS, hsub, rfl, rfl⟩))))) (fun c => ?_) fun _ => ?_)
  · rw [hc] at c
    exact absurd c (by exact Bool.false_ne_true)
  refine DSs_nil ?_
  refine DSs_cons (DS_set 4 (DE.eq (DE_call (c_degrees_beside G) R (DA_cons (DE_var 2) (DA_cons (DE_var 3) (DA_cons (DE_var 1) DA_nil))) ⟨rfl, livU ps, sysF ps, part, u, rfl, GS, hsub, hnd, hul, rfl, rfl⟩) (by rw [hd])) ?_ nd)
  refine DSs_cons (DS_if (DT_isN (d := .dic (fdD fd)) (DE_var 4)) (fun c => absurd c (by exact Bool.false_ne_true)) fun _ => ?_)
  refine DSs_nil ?_
  refine DSs_cons (DS_ret (DN.de (lcF [("other", 5)] part uD (fun o => .int (degOf fd o)) (DI_tup (DE_var 3)) rfl (fun _ _ => trivial) (fun o ho a l => ⟨_, _, fun s0 H0 Cc cl fp => DG_name 5 nd, by decide, fun s0 H0 Cc cl fp => DE_dget hu (DE_var 4) (DE_var 5) .fz ?_⟩) nd rfl)) Ret.rt)
  rw [fdD_get]
  have := hk o ho
  unfold degOf
  cases h : fd.find? fun x => decide (x.1 = o) with
  | none => rw [h] at this; cases this
  | some x => rfl
end Od
namespace Od
open PySem PySem.Spec PyProof.Rows L2
def livT (ps : List Proc) (u : U) : List Term := (termsR ps u).filter fun t => allIn (posU ps) t.2
def LD (lv : List U) (T : U → List Term) : D := .dic (mapD lv fun u => .lst ((T u).map termD))
def stpA (P : List U) (u : U) (b : Bool) : List U := if b = true then P ++ [u] else P
def spLive : Dsp := fun ds μ d μ' => ds.length = 1 ∧ ∃ ps, ds = [procsD ps] ∧ GoodP ps ∧ d = LD (livU ps) (livT ps) ∧ μ = μ'
abbrev n_l_live : List Str := ["_law_procedures_here", "_law_terms_here", "_law_unknown", "_law_positive", "_law_turn", "_law_coefficient", "_law_factors_here", "_law_factor", "_law_live_here", "_law_term"]
theorem sc_l_live : FnScope n_l_live ["_law_procedures_here"] d_l_live.scope := ⟨rfl, rfl, rfl, by decide +kernel, rfl, by decide +kernel, by decide +kernel⟩
theorem c_l_live {g : Gv} (G : Gd g) : Ctr g 2 "_law_live" (spD g.K spLive) := by
  obtain ⟨fd, F⟩ := G.def_ 53 (d := d_l_live) rfl
  refine ⟨_, G.glo "_law_live", F.kp, fn_of_body F sc_l_live (F.bindsN fun _ _ _ _ _ _ us hl => match us, hl with | [_], _ => rfl) (fun _ _ _ _ h => h.1) fun l ds μ d μ' R h => ?_⟩
  obtain ⟨-, h⟩ := h
  have nd := sc_l_live.nd
  obtain ⟨ps, rfl, G', rfl, rfl⟩ := h
  have hu : (cX g l n_l_live d_l_live.scope).A.units + 1 < cLine := by have := R.un; omega
  have hlen := unkR_len G'
  have hnd := unkR_nd ps
  refine DSs_cons (DS_setN 1 DN_dic (fun q => ?_) nd)
  refine DSs_cons (DS_for (DI_lst (DE_call (c_l_unknowns G) R (DA_cons (DE_var 0) DA_nil) ⟨rfl, ps, rfl, G', rfl, rfl⟩)) (fun i ρ μ' => ∃ x2, ρ = [some (procsD ps), some (.ptr q), x2, none, none, none, none, none, none, none] ∧ μ' = (q, .dic (mapD ((unkR ps).take i) fun u => .lst ((termsR ps u).map termD))) :: μ) ⟨_, rfl, rfl⟩ (fun _ _ _ _ => trivial) ?_ ?_)
  · rintro i d ρ μ' hi ⟨x2, rfl, rfl⟩
    rw [List.getElem?_map] at hi
    cases hx : (unkR ps)[i]? with
    | none => rw [hx] at hi; cases hi
    | some u =>
      rw [hx] at hi; cases hi
      have hm := List.mem_of_getElem? hx
      refine ⟨_, _, DG_name 2 nd, ?_⟩
      refine DSs_cons (DS_put 0 (ks := mapD ((unkR ps).take i) fun u => .lst ((termsR ps u).map termD)) hu (DE_call (c_l_terms G) R (DA_cons (DE_var 0) (DA_cons (DE_var 2) DA_nil)) ⟨rfl, ps, u, rfl, G', mem_unkR.mp hm, rfl, rfl⟩) (DE_var 1) (DE_var 2) (by unfold mapD; rw [List.length_map, List.length_take]; omega) ?_)
      refine DSs_nil ⟨some (uD u), rfl, ?_⟩
      rw [putD_new (not_in_take hnd hx), take_get hx]
      unfold mapD
      rw [List.map_append]; rfl
  rintro ρ μ' ⟨x2, rfl, rfl⟩
  rw [List.length_map, List.take_length]
  refine DSs_cons (DS_setN 3 DN_dic (fun q2 => ?_) nd)
  have getT : ∀ u ∈ unkR ps, getK (mapD (unkR ps) fun u => .lst ((termsR ps u).map termD)) (uK u) = some (.lst ((termsR ps u).map termD)) := fun u hm => by rw [getK_map, if_pos hm]
  have hok : ∀ P u, okF (facF ps) P u = (termsR ps u).any fun t => allIn P t.2 := fun P u => by
    unfold okF facF
    rw [List.any_map]; rfl
  have hsub : ∀ k, ∀ x ∈ rnds (facF ps) (unkR ps) k, x ∈ unkR ps := rnds_sub _ _
  have hndk : ∀ k, (rnds (facF ps) (unkR ps) k).Nodup := rnds_nd _ _
  generalize hTm : (mapD (unkR ps) fun u => D.lst ((termsR ps u).map termD)) = Tm at *
  have hTl : Tm.length = (unkR ps).length := by rw [← hTm]; unfold mapD; rw [List.length_map]
  refine DSs_cons (DS_for (DI_range (n := (unkR ps).length + 1) (G.free "range") (DE.eq (DE_add (DE_lenD (ks := Tm) (G.free "len") (DE_var 1) 1 rfl) DE_int) (by rw [hTl]; rfl)) (by omega)) (fun k ρ μ' => ∃ x2 x4 x5 x6 x7, ρ = [some (procsD ps), some (.ptr q), x2, some (.ptr q2), x4, x5, x6, x7, none, none] ∧ μ' = (q2, .dic (posD (rnds (facF ps) (unkR ps) k))) :: (q, .dic Tm) :: μ) ⟨_, _, _, _, _, rfl, rfl⟩ (fun _ _ _ _ => trivial) ?_ ?_)
  · rintro k d ρ μ' hi ⟨x2, x4, x5, x6, x7, rfl, rfl⟩
    have hs1 := hsub k
    have hn1 := hndk k
    have hrn : rnds (facF ps) (unkR ps) (k + 1) = rnd (facF ps) (unkR ps) (rnds (facF ps) (unkR ps) k) := rfl
    generalize rnds (facF ps) (unkR ps) k = P at *
    refine ⟨_, _, DG_name 4 nd, ?_⟩
    refine DSs_cons (DS_for (DI_lst (DE_call (c_l_unknowns G) R (DA_cons (DE_var 0) DA_nil) ⟨rfl, ps, rfl, G', rfl, rfl⟩)) (fun i ρ μ' => ∃ x2 x5 x6 x7, ρ = [some (procsD ps), some (.ptr q), x2, some (.ptr q2), some d, x5, x6, x7, none, none] ∧ μ' = (q2, .dic (posD (((unkR ps).take i).foldl (stp (facF ps)) P))) :: (q, .dic Tm) :: μ) ⟨_, _, _, _, rfl, rfl⟩ (fun _ _ _ _ => trivial) ?_ ?_)
    · rintro i d2 ρ μ' hi ⟨x2, x5, x6, x7, rfl, rfl⟩
      rw [List.getElem?_map] at hi
      cases hx : (unkR ps)[i]? with
      | none => rw [hx] at hi; cases hi
      | some u =>
        rw [hx] at hi; cases hi
        have hm := List.mem_of_getElem? hx
        have hpl : (((unkR ps).take i).foldl (stp (facF ps)) P).length ≤ 40 := Nat.le_trans (nodup_len (foldl_nd hn1) (foldl_sub (fun x hx => List.mem_of_mem_take hx) hs1)) hlen
        have e2 : ((unkR ps).take (i + 1)).foldl (stp (facF ps)) P = stp (facF ps) (((unkR ps).take i).foldl (stp (facF ps)) P) u := by
          rw [take_get hx, List.foldl_append]; rfl
        rw [e2]
        generalize ((unkR ps).take i).foldl (stp (facF ps)) P = Pi at *
        have e1 : ((getK (posD Pi) (uK u)).isSome) = decide (u ∈ Pi) := posD_get Pi u
        refine ⟨_, _, DG_name 2 nd, ?_⟩
        refine DSs_cons (DS_if (DT_dnotin hu (DE_var 2) (DE_var 3) (.pt 0)) (fun c => ?_) fun c => ?_)
        · rw [e1] at c
          have c : u ∉ Pi := by simpa using c
          refine DSs_cons (DS_for (DI_lst (DE_dget hu (DE_var 1) (DE_var 2) (.pt 1) (getT u hm))) (fun j ρ μ' => ∃ x5 x6 x7, ρ = [some (procsD ps), some (.ptr q), some (uD u), some (.ptr q2), some d, x5, x6, x7, none, none] ∧ μ' = (q2, .dic (posD (stpA Pi u (((termsR ps u).take j).any fun t => allIn Pi t.2)))) :: (q, .dic Tm) :: μ) ⟨_, _, _, rfl, rfl⟩ (fun _ _ _ _ => trivial) ?_ ?_)
          · rintro j d2 ρ μ' hi ⟨x5, x6, x7, rfl, rfl⟩
            rw [List.getElem?_map] at hi
            cases hx2 : (termsR ps u)[j]? with
            | none => rw [hx2] at hi; cases hi
            | some t =>
              rw [hx2] at hi; cases hi
              rw [take_get hx2, List.any_append]
              refine ⟨_, _, DG_tup (DGs_cons (DG_name 5 nd) (DGs_cons (DG_name 6 nd) DGs_nil)), ?_⟩
              generalize ((termsR ps u).take j).any (fun t => allIn Pi t.2) = b0
              have ea : (((t.2.map fun f => decide (f ∈ stpA Pi u b0)).all fun z => z)) = allIn (stpA Pi u b0) t.2 := by rw [List.all_map]; rfl
              have hlP : (stpA Pi u b0).length ≤ 41 := by
                unfold stpA
                split
                · rw [List.length_append]; show Pi.length + 1 ≤ 41; omega
                · omega
              refine DSs_cons (DS_if (DT_val (DE_all_ (bs := t.2.map fun f => decide (f ∈ stpA Pi u b0)) (G.free "all") (DN.de (lcF [("_law_factor", 7)] t.2 uD (fun f => .bl (decide (f ∈ stpA Pi u b0))) (DI_tup (DE_var 6)) rfl (fun _ _ => trivial) (fun f hf a2 l2 => ⟨_, _, fun s0 H0 Cc cl fp => DG_name 7 nd, by decide, fun s0 H0 Cc cl fp => DE.eq (DE_din hu (DE_var 7) (DE_var 3) (.pt 1)) (by rw [posD_get])⟩) nd (by rw [List.map_map]; rfl))))) (fun c2 => ?_) fun c2 => ?_)
              · rw [ea] at c2
                refine DSs_cons (DS_put 0 (ks := posD (stpA Pi u b0)) hu DE_bl (DE_var 3) (DE_var 2) (by unfold posD mapD; rw [List.length_map]; omega) ?_)
                refine DSs_nil (DSs_nil ⟨some (qD t.1), some (.tup (t.2.map uD)), x7, rfl, ?_⟩)
                rw [posD_add]
                cases b0 with
                | true =>
                  have : u ∈ Pi ++ [u] := by simp
                  simp [stpA, this]
                | false =>
                  simp [stpA] at c2 ⊢
                  simp [c, c2]
              · rw [ea] at c2
                refine DSs_nil (DSs_nil ⟨some (qD t.1), some (.tup (t.2.map uD)), x7, rfl, ?_⟩)
                cases b0 with
                | true => simp [stpA]
                | false =>
                  simp [stpA] at c2 ⊢
                  simp [c2]
          · rintro ρ μ' ⟨x5, x6, x7, rfl, rfl⟩
            rw [List.length_map, List.take_length]
            refine DSs_nil (DSs_nil ⟨some (uD u), x5, x6, x7, rfl, ?_⟩)
            have : stp (facF ps) Pi u = stpA Pi u ((termsR ps u).any fun t => allIn Pi t.2) := by
              unfold stp stpA
              rw [if_neg c, hok]
            rw [this]
        · rw [e1] at c
          have c : u ∈ Pi := by simpa using c
          have : stp (facF ps) Pi u = Pi := by unfold stp; rw [if_pos c]
          rw [this]
          refine DSs_nil (DSs_nil ⟨some (uD u), x5, x6, x7, rfl, rfl⟩)
    · rintro ρ μ' ⟨x2, x5, x6, x7, rfl, rfl⟩
      rw [List.length_map, List.take_length]
      refine DSs_nil ⟨_, _, _, _, _, rfl, ?_⟩
      rw [hrn]; rfl
  · rintro ρ μ' ⟨x2, x4, x5, x6, x7, rfl, rfl⟩
    rw [show (rgD ((unkR ps).length + 1)).length = (unkR ps).length + 1 by simp [rgD]]
    have hPl : (posU ps).length ≤ 40 := Nat.le_trans (rnds_len _ _ _) hlen
    have eP : rnds (facF ps) (unkR ps) ((unkR ps).length + 1) = posU ps := rfl
    rw [eP]
    refine DSs_cons (DS_setN 8 DN_dic (fun q3 => ?_) nd)
    refine DSs_cons (DS_for (DI_lst (DE_call (c_l_unknowns G) R (DA_cons (DE_var 0) DA_nil) ⟨rfl, ps, rfl, G', rfl, rfl⟩)) (fun i ρ μ' => ∃ x2 x4 x5 x6 x7 x9, ρ = [some (procsD ps), some (.ptr q), x2, some (.ptr q2), x4, x5, x6, x7, some (.ptr q3), x9] ∧ μ' = (q3, .dic (mapD (((unkR ps).take i).filter fun u => decide (u ∈ posU ps)) fun u => .lst ((livT ps u).map termD))) :: (q2, .dic (posD (posU ps))) :: (q, .dic Tm) :: μ) ⟨_, _, _, _, _, _, rfl, rfl⟩ (fun _ _ _ _ => trivial) ?_ ?_)
    · rintro i d ρ μ' hi ⟨x2, x4, x5, x6, x7, x9, rfl, rfl⟩
      rw [List.getElem?_map] at hi
      cases hx : (unkR ps)[i]? with
      | none => rw [hx] at hi; cases hi
      | some u =>
        rw [hx] at hi; cases hi
        have hm := List.mem_of_getElem? hx
        have e1 : ((getK (posD (posU ps)) (uK u)).isSome) = decide (u ∈ posU ps) := posD_get _ u
        refine ⟨_, _, DG_name 2 nd, ?_⟩
        refine DSs_cons (DS_if (DT_din hu (DE_var 2) (DE_var 3) (.pt 1)) (fun c => ?_) fun c => ?_)
        · rw [e1] at c
          refine DSs_cons (DS_put 0 (ks := mapD (((unkR ps).take i).filter fun u => decide (u ∈ posU ps)) fun u => .lst ((livT ps u).map termD)) (d := .lst ((livT ps u).map termD)) hu (DN.de (lcP [("_law_term", 9)] (termsR ps u) termD (fun t => allIn (posU ps) t.2) termD (DI_lst (DE_dget hu (DE_var 1) (DE_var 2) (.pt 2) (getT u hm))) rfl (fun _ _ => trivial) (fun t ht a l => ⟨_, _, fun s0 H0 Cc cl fp => DG_name 9 nd, by decide, fun s0 H0 Cc cl fp => DTs_one (DT.eq (DT_val (DE_all_ (bs := t.2.map fun f => decide (f ∈ posU ps)) (G.free "all") (DN.de (lcF [("_law_factor", 7)] t.2 uD (fun f => .bl (decide (f ∈ posU ps))) (DI_tup (DE_ixT (DE_var 9) DE_int)) rfl (fun _ _ => trivial) (fun f hf a2 l2 => ⟨_, _, fun s0 H0 Cc cl fp => DG_name 7 nd, by decide, fun s0 H0 Cc cl fp => DE.eq (DE_din hu (DE_var 7) (DE_var 3) (.pt 3)) (by rw [posD_get])⟩) nd (by rw [List.map_map]; rfl))))) (by rw [List.all_map]; rfl)), fun _ => fun s0 H0 Cc cl fp => (DE_var 9)⟩) nd rfl)) (DE_var 8) (DE_var 2) ?_ ?_)
          · unfold mapD
            rw [List.length_map]
            have := List.length_filter_le (fun u => decide (u ∈ posU ps)) ((unkR ps).take i)
            rw [List.length_take] at this
            omega
          · refine DSs_nil (DSs_nil ⟨some (uD u), x4, x5, x6, x7, x9, rfl, ?_⟩)
            rw [putD_new (us := ((unkR ps).take i).filter fun u => decide (u ∈ posU ps)) (fun h => not_in_take hnd hx (List.mem_filter.mp h).1), take_get hx, List.filter_append, List.filter_cons_of_pos (p := fun u => decide (u ∈ posU ps)) c]
            unfold mapD
            rw [List.map_append]; rfl
        · rw [e1] at c
          refine DSs_nil (DSs_nil ⟨some (uD u), x4, x5, x6, x7, x9, rfl, ?_⟩)
          rw [take_get hx, List.filter_append, List.filter_cons_of_neg (p := fun u => decide (u ∈ posU ps)) (by rw [c]; decide)]
          simp
    · rintro ρ μ' ⟨x2, x4, x5, x6, x7, x9, rfl, rfl⟩
      rw [List.length_map, List.take_length]
      refine DSs_freeze 8 [] (h := ?_)
      exact DSs_cons (DS_ret (DE_var 8) (Ret.of rfl (.cons _ (.cons _ (List.Sublist.refl _)))))
end Od
namespace Od
open PySem PySem.Spec PyProof.Rows L2
theorem call_len_dR {X : Cx} : CallR X (.builtin "len") (fun xs H Q => ∃ (p : Addr) (kvs : List (List Key × V)), xs = [.ref p] ∧ Rd H p (.dT kvs) ∧ Q (.int (kvs.length : Int)) H) := by
  intro pins s σ H xs us Q I r h
  obtain ⟨p, kvs, rfl, hp, q⟩ := h
  obtain ⟨u, rfl, rx⟩ := vals1 r
  obtain rfl : u = .ref p := rx
  obtain ⟨z, hd, ys, rel, dd⟩ := dt_rd I.hok hp
  have hl : kvs.length = ys.length := Paired.length rel
  refine call_len_dictH hd dd (by rw [← hl]; rw [sizeLine_eq] at z; omega) ?_
  rw [← hl]
  exact ⟨.int ((kvs.length : Nat) : Int), H, I.tok _, ⟨_, rfl⟩, q⟩
theorem DE_lenF {X : Cx} {a : Expr} {ρ : Rho} {μ μ1 : Mu} {ks : List (List Int × D)} {cp pos : Pos} (hm : X.mg "len" = none) (ha : DE X a ρ μ (.dic ks) μ1) (hg : Gl X "len" := by rfl) (he : starEach [a] X.env = (false, eval a X.env) :: starEach [] X.env := by rfl) : DE X (.Call (.Name "len" cp) [a] [] pos) ρ μ (.int (ks.length : Int)) μ1 :=
  DE_callB call_len_dR (ds := [.dic ks]) (fun B H xs Q S r k => by
    obtain ⟨x, rfl, rx⟩ := reps1 r
    obtain ⟨p, ws, e, h, q⟩ := dic_rd S rx
    exact ⟨p, ws, by rw [e], h, k B H _ (Inc.refl B) S (by rw [q.length]; rfl)⟩) hm PySem.boot_len (DA_cons ha DA_nil he) hg (he := he)
end Od
namespace Od
def radd (s : DS2) (x : U) : DS2 := if x ∈ s.1 then s else (s.1 ++ [x], s.2 ++ [x])
def rst (E : U → List U) (s : DS2) : DS2 := match s.2.getLast? with
  | none => s
  | some h => (E h).foldl radd (s.1, s.2.dropLast)
def rsN (E : U → List U) (s : DS2) : Nat → DS2
  | 0 => s
  | k + 1 => rst E (rsN E s k)
def lreach (n : Nat) (E : U → List U) (u : U) : List U := (rsN E ([], [u]) (n * n + 1)).1
structure RInv (us : List U) (s : DS2) : Prop where
  nd : s.1.Nodup
  f : ∀ x ∈ s.1, x ∈ us
  w : ∀ x ∈ s.2, x ∈ us
  len : s.2.length ≤ s.1.length + 1
theorem radd_inv {us : List U} {s : DS2} {x : U} (I : RInv us s) (hx : x ∈ us) : RInv us (radd s x) := by
  unfold radd
  split
  · exact I
  · rename_i hn
    refine ⟨?_, fun y hy => ?_, fun y hy => ?_, ?_⟩
    · rw [List.nodup_append]
      exact ⟨I.nd, by simp, fun a ha b hb => by rw [List.mem_singleton] at hb; subst hb; exact fun e => hn (e ▸ ha)⟩
    · rcases List.mem_append.mp hy with z | z
      · exact I.f y z
      · rw [List.mem_singleton] at z; subst z; exact hx
    · rcases List.mem_append.mp hy with z | z
      · exact I.w y z
      · rw [List.mem_singleton] at z; subst z; exact hx
    · have := I.len
      simp only [List.length_append, List.length_cons, List.length_nil]
      omega
theorem raddL_inv {us : List U} : ∀ {l : List U} {s : DS2}, RInv us s → (∀ x ∈ l, x ∈ us) → RInv us (l.foldl radd s)
  | [], _, I, _ => I
  | x :: l, s, I, h => raddL_inv (l := l) (radd_inv I (h x (by simp))) fun y hy => h y (by simp [hy])
theorem RInv.pop {us : List U} {s : DS2} (I : RInv us s) : RInv us (s.1, s.2.dropLast) :=
  ⟨I.nd, I.f, fun x hx => I.w x (List.dropLast_subset _ hx), by have := I.len; show s.2.dropLast.length ≤ s.1.length + 1; rw [List.length_dropLast]; omega⟩
theorem rst_inv {us : List U} {E : U → List U} (hE : ∀ u ∈ us, ∀ x ∈ E u, x ∈ us) {s : DS2} (I : RInv us s) : RInv us (rst E s) := by
  unfold rst
  split
  · exact I
  · rename_i h e
    exact raddL_inv I.pop (hE h (I.w h (last_mem e)))
theorem rsN_inv {us : List U} {E : U → List U} (hE : ∀ u ∈ us, ∀ x ∈ E u, x ∈ us) {s : DS2} (I : RInv us s) : ∀ k, RInv us (rsN E s k)
  | 0 => I
  | k + 1 => rst_inv hE (rsN_inv hE I k)
theorem rsN_stay {E : U → List U} {s : DS2} {k : Nat} (h : (rsN E s k).2 = []) : ∀ j, rsN E s (k + j) = rsN E s k
  | 0 => rfl
  | j + 1 => by
    show rst E (rsN E s (k + j)) = _
    rw [rsN_stay h j]
    unfold rst
    rw [h]; rfl
end Od
namespace Od
open PySem PySem.Spec PyProof.Rows L2
def tS (T : U → List Term) : U → List (List U) := fun u => (T u).map (·.2)
theorem LD_get {lv : List U} {T : U → List Term} {u : U} (h : u ∈ lv) : getK (mapD lv fun u => .lst ((T u).map termD)) (uK u) = some (.lst ((T u).map termD)) := by rw [getK_map, if_pos h]
def spLFac : Dsp := fun ds μ d μ' => ds.length = 2 ∧ ∃ lv T u, ds = [LD lv T, uD u] ∧ SG lv (tS T) ∧ u ∈ lv ∧ d = .lst ((facR (tS T) u).map uD) ∧ μ = μ'
theorem facR_tS (T : U → List Term) (u : U) : facR (tS T) u = (T u).flatMap (·.2) := by
  unfold facR tS
  rw [List.flatMap_map]; rfl
abbrev n_l_factors : List Str := ["_law_live_here", "_law_unknown", "_law_found", "_law_coefficient", "_law_factors_here"]
theorem sc_l_factors : FnScope n_l_factors ["_law_live_here", "_law_unknown"] d_l_factors.scope := ⟨rfl, rfl, rfl, by decide +kernel, rfl, by decide +kernel, by decide +kernel⟩
theorem c_l_factors {g : Gv} (G : Gd g) : Ctr g 1 "_law_factors" (spD g.K spLFac) := by
  obtain ⟨fd, F⟩ := G.def_ 56 (d := d_l_factors) rfl
  refine ⟨_, G.glo "_law_factors", F.kp, fn_of_body F sc_l_factors (F.bindsN fun _ _ _ _ _ _ us hl => match us, hl with | [_, _], _ => rfl) (fun _ _ _ _ h => h.1) fun l ds μ d μ' R h => ?_⟩
  obtain ⟨-, h⟩ := h
  have nd := sc_l_factors.nd
  obtain ⟨lv, T, u, rfl, GS, hm, rfl, rfl⟩ := h
  have hu : (cX g l n_l_factors d_l_factors.scope).A.units + 1 < cLine := by have := R.un; omega
  rw [facR_tS]
  have hfew : (T u).length ≤ 10 := by have := GS.few u hm; unfold tS at this; rw [List.length_map] at this; exact this
  have htwo : ∀ t ∈ T u, t.2.length ≤ 2 := fun t ht => GS.two u hm t.2 (List.mem_map_of_mem ht)
  refine DSs_cons (DS_setN 2 (DN_lst DA_nil) (fun q => ?_) nd)
  refine DSs_cons (DS_for (DI_lst (DE_dget hu (DE_var 0) (DE_var 1) .fz (LD_get hm))) (fun i ρ μ' => ∃ q x3 x4, ρ = [some (LD lv T), some (uD u), some (.ptr q), x3, x4] ∧ μ' = (q, .lst ((((T u).take i).flatMap (·.2)).map uD)) :: μ) ⟨_, _, _, rfl, rfl⟩ (fun _ _ _ _ => trivial) ?_ ?_)
  · rintro i d ρ μ' hi ⟨q, x3, x4, rfl, rfl⟩
    rw [List.getElem?_map] at hi
    cases hx : (T u)[i]? with
    | none => rw [hx] at hi; cases hi
    | some t =>
      rw [hx] at hi; cases hi
      have ht := List.mem_of_getElem? hx
      have h2 := htwo t ht
      have hl : (((T u).take i).flatMap (·.2)).length ≤ 20 := by
        have h3 : (((T u).take i).flatMap (·.2)).length ≤ ((T u).take i).length * 2 := by
          have : ∀ l : List Term, (∀ t ∈ l, t.2.length ≤ 2) → (l.flatMap (·.2)).length ≤ l.length * 2 := fun l => by
            induction l with
            | nil => intro _; simp
            | cons x l ih =>
              intro h
              have a := h x (by simp)
              have b := ih fun y hy => h y (by simp [hy])
              rw [List.flatMap_cons, List.length_append, List.length_cons]
              omega
          exact this _ fun t ht => htwo t (List.mem_of_mem_take ht)
        rw [List.length_take] at h3
        omega
      refine ⟨_, _, DG_tup (DGs_cons (DG_name 3 nd) (DGs_cons (DG_name 4 nd) DGs_nil)), ?_⟩
      refine DSs_cons (DS_setN 2 (DN_cat (DE_var 2) (DN.de (DN_list (G.free "list") (DE_var 4) .tu)) (.pt 0) .li (by rw [List.length_map, List.length_map]; omega)) (fun q' => ?_) nd)
      refine DSs_drop (DSs_nil ⟨q', _, _, rfl, ?_⟩) (.cons₂ _ (List.sublist_cons_self _ _))
      rw [take_get hx, List.flatMap_append, List.flatMap_singleton, List.map_append]
  · rintro ρ μ' ⟨q, x3, x4, rfl, rfl⟩
    rw [List.length_map, List.take_length]
    refine DSs_freeze 2 [] (h := ?_)
    exact DSs_cons (DS_ret (DE_var 2) Ret.rt)
def spLReach : Dsp := fun ds μ d μ' => ds.length = 2 ∧ ∃ lv T u, ds = [LD lv T, uD u] ∧ SG lv (tS T) ∧ u ∈ lv ∧ d = .lst ((lreach lv.length (facR (tS T)) u).map uD) ∧ μ = μ'
abbrev n_l_reaches : List Str := ["_law_live_here", "_law_unknown", "_law_found", "_law_waiting", "_law_turn", "_law_here", "_law_coefficient", "_law_factors_here", "_law_factor"]
theorem sc_l_reaches : FnScope n_l_reaches ["_law_live_here", "_law_unknown"] d_l_reaches.scope := ⟨rfl, rfl, rfl, by decide +kernel, rfl, by decide +kernel, by decide +kernel⟩
theorem c_l_reaches {g : Gv} (G : Gd g) : Ctr g 1 "_law_reaches" (spD g.K spLReach) := by
  obtain ⟨fd, F⟩ := G.def_ 54 (d := d_l_reaches) rfl
  refine ⟨_, G.glo "_law_reaches", F.kp, fn_of_body F sc_l_reaches (F.bindsN fun _ _ _ _ _ _ us hl => match us, hl with | [_, _], _ => rfl) (fun _ _ _ _ h => h.1) fun l ds μ d μ' R h => ?_⟩
  obtain ⟨-, h⟩ := h
  have nd := sc_l_reaches.nd
  obtain ⟨lv, T, u, rfl, GS, hm, rfl, rfl⟩ := h
  have hu : (cX g l n_l_reaches d_l_reaches.scope).A.units + 1 < cLine := by have := R.un; omega
  have hu65 : (cX g l n_l_reaches d_l_reaches.scope).A.units + 65 < cLine := by have := R.un; omega
  have hE := GS.gr.sub
  have hlv := GS.len
  have hnn : lv.length * lv.length ≤ 1600 := Nat.mul_le_mul hlv hlv
  have ml : (mapD lv fun u => D.lst ((T u).map termD)).length = lv.length := by unfold mapD; rw [List.length_map]
  have hinv := rsN_inv (us := lv) (E := facR (tS T)) hE (s := ([], [u])) ⟨List.nodup_nil, (fun x hx => nomatch hx), fun x hx => by rw [List.mem_singleton] at hx; subst hx; exact hm, Nat.le_refl 1⟩
  refine DSs_cons (DS_setN 2 (DN_lst DA_nil) (fun F => ?_) nd)
  refine DSs_cons (DS_setN 3 (DN_lst (DA_cons (DE_var 1) DA_nil)) (fun W => ?_) nd)
  have rest : ∀ (k : Nat) (x4 x5 x6 x7 x8 : Option D), (rsN (facR (tS T)) ([], [u]) k).1 = lreach lv.length (facR (tS T)) u → DSs (cX g l n_l_reaches d_l_reaches.scope) (d_l_reaches.body.drop 3) [some (LD lv T), some (uD u), some (.ptr F), some (.ptr W), x4, x5, x6, x7, x8] ((W, .lst ((rsN (facR (tS T)) ([], [u]) k).2.map uD)) :: (F, .lst ((rsN (facR (tS T)) ([], [u]) k).1.map uD)) :: μ) (Ret (.lst ((lreach lv.length (facR (tS T)) u).map uD)) μ) := fun k x4 x5 x6 x7 x8 e => by
    rw [e]
    refine DSs_freeze 2 [(W, _)] (h := ?_)
    exact DSs_cons (DS_ret (DE_var 2) (Ret.of rfl (List.sublist_cons_self _ _)))
  refine DSs_cons (DS_for (DI_range (n := lv.length * lv.length + 1) (G.free "range") (DE.eq (DE_add (DE_mul (DE_lenF (G.free "len") (DE_var 0)) (DE_lenF (G.free "len") (DE_var 0)) (.inl (by rw [ml]; omega))) DE_int) (by rw [ml, ← Int.natCast_mul]; rfl)) (by omega)) (fun k ρ μ' => ∃ x4 x5 x6 x7 x8, ρ = [some (LD lv T), some (uD u), some (.ptr F), some (.ptr W), x4, x5, x6, x7, x8] ∧ μ' = (W, .lst ((rsN (facR (tS T)) ([], [u]) k).2.map uD)) :: (F, .lst ((rsN (facR (tS T)) ([], [u]) k).1.map uD)) :: μ) ⟨_, _, _, _, _, rfl, rfl⟩ (fun _ _ _ _ => trivial) ?_ ?_)
  · rintro k d ρ μ' hi ⟨x4, x5, x6, x7, x8, rfl, rfl⟩
    have I := hinv k
    have hk := (rgD_get hi).2
    refine ⟨_, _, DG_name 4 nd, ?_⟩
    refine DSs_cons (DS_if (DT_not (DT_truP (DE_var 3) (n := 0) rfl)) (fun c => ?_) fun c => ?_)
    · have hz : (rsN (facR (tS T)) ([], [u]) k).2 = [] := by simpa using c
      refine DSs_cons (DS_brk ?_)
      refine rest k _ _ _ _ _ ?_
      obtain ⟨j, hj⟩ := Nat.exists_eq_add_of_le (Nat.le_of_lt hk)
      unfold lreach
      rw [hj, rsN_stay hz j]
    · have hne : (rsN (facR (tS T)) ([], [u]) k).2 ≠ [] := by simpa using c
      have hs2 : rsN (facR (tS T)) ([], [u]) (k + 1) = rst (facR (tS T)) (rsN (facR (tS T)) ([], [u]) k) := rfl
      rw [hs2]
      generalize rsN (facR (tS T)) ([], [u]) k = s at *
      obtain ⟨h, eh⟩ : ∃ h, s.2.getLast? = some h := ⟨_, List.getLast?_eq_some_getLast hne⟩
      have hh := I.w h (last_mem eh)
      have es : rst (facR (tS T)) s = (facR (tS T) h).foldl radd (s.1, s.2.dropLast) := by unfold rst; rw [eh]
      rw [es, facR_tS]
      refine DSs_nil ?_
      refine DSs_cons (DS_set 5 (popL 0 (d := uD h) (DE_var 3) (hl := ?_)) ?_ nd)
      · rw [List.length_map, List.getElem?_map, ← List.getLast?_eq_getElem?, eh]; rfl
      · have I0 := I.pop
        have hsubT : ∀ t ∈ T h, ∀ x ∈ t.2, x ∈ lv := fun t ht => GS.sub h hh t.2 (List.mem_map_of_mem ht)
        refine DSs_cons (DS_for (DI_lst (DE_dget hu (DE_var 0) (DE_var 5) .fz (LD_get hh))) (fun i ρ μ' => ∃ x6 x7 x8, ρ = [some (LD lv T), some (uD u), some (.ptr F), some (.ptr W), some d, some (uD h), x6, x7, x8] ∧ μ' = (W, .lst (((((T h).take i).flatMap (·.2)).foldl radd (s.1, s.2.dropLast)).2.map uD)) :: (F, .lst (((((T h).take i).flatMap (·.2)).foldl radd (s.1, s.2.dropLast)).1.map uD)) :: μ) ⟨x6, x7, x8, rfl, by simp [List.map_dropLast]⟩ (fun _ _ _ _ => trivial) ?_ ?_)
        · rintro i d2 ρ μ' hi ⟨x6, x7, x8, rfl, rfl⟩
          rw [List.getElem?_map] at hi
          cases hx : (T h)[i]? with
          | none => rw [hx] at hi; cases hi
          | some t =>
            rw [hx] at hi; cases hi
            have ht := List.mem_of_getElem? hx
            have Ip := raddL_inv (us := lv) (l := ((T h).take i).flatMap (·.2)) I0 fun x hx => by
              obtain ⟨t, ht, hx⟩ := List.mem_flatMap.mp hx
              exact hsubT t (List.mem_of_mem_take ht) x hx
            rw [take_get hx, List.flatMap_append, List.flatMap_singleton, List.foldl_append]
            generalize (((T h).take i).flatMap (·.2)).foldl radd (s.1, s.2.dropLast) = sp at *
            refine ⟨_, _, DG_tup (DGs_cons (DG_name 6 nd) (DGs_cons (DG_name 7 nd) DGs_nil)), ?_⟩
            refine DSs_cons (DS_for (DI_tup (DE_var 7)) (fun j ρ μ' => ∃ x8, ρ = [some (LD lv T), some (uD u), some (.ptr F), some (.ptr W), some d, some (uD h), some (qD t.1), some (.tup (t.2.map uD)), x8] ∧ μ' = (W, .lst (((t.2.take j).foldl radd sp).2.map uD)) :: (F, .lst (((t.2.take j).foldl radd sp).1.map uD)) :: μ) ⟨x8, rfl, rfl⟩ (fun _ _ _ _ => trivial) ?_ ?_)
            · rintro j d2 ρ μ' hi ⟨x8, rfl, rfl⟩
              rw [List.getElem?_map] at hi
              cases hx2 : t.2[j]? with
              | none => rw [hx2] at hi; cases hi
              | some f =>
                rw [hx2] at hi; cases hi
                have Iq := raddL_inv (us := lv) (l := t.2.take j) Ip fun x hx => hsubT t ht x (List.mem_of_mem_take hx)
                rw [take_get hx2, List.foldl_append]
                generalize (t.2.take j).foldl radd sp = sq at *
                have l1 := nodup_len Iq.nd Iq.f
                have l2 := Iq.len
                show ∃ ρ' is, _ ∧ DSs _ _ _ _ (LoopP (fun ρ μ' => ∃ x8, ρ = _ ∧ μ' = (W, .lst ((radd sq f).2.map uD)) :: (F, .lst ((radd sq f).1.map uD)) :: μ) _)
                refine ⟨_, _, DG_name 8 nd, ?_⟩
                refine DSs_cons (DS_if (DT_notinU hu65 (DE_var 8) (DE_var 2) (.pt 1)) (fun c => ?_) fun c => ?_)
                · have c : f ∉ sq.1 := by simpa using c
                  have e : radd sq f = (sq.1 ++ [f], sq.2 ++ [f]) := by unfold radd; rw [if_neg c]
                  refine DSs_cons (DS_expr (apd 1 (DE_var 2) (DE_var 8) (hl := by rw [List.length_map]; omega)) ?_)
                  refine DSs_cons (DS_expr (apd 0 (DE_var 3) (DE_var 8) (hl := by rw [List.length_map]; omega)) ?_)
                  refine DSs_nil (DSs_nil ⟨some (uD f), rfl, ?_⟩)
                  rw [e, List.map_append, List.map_append]
                  rfl
                · have c : f ∈ sq.1 := by simpa using c
                  have e : radd sq f = sq := by unfold radd; rw [if_pos c]
                  rw [e]
                  exact DSs_nil (DSs_nil ⟨some (uD f), rfl, rfl⟩)
            · rintro ρ μ' ⟨x8, rfl, rfl⟩
              rw [List.length_map, List.take_length]
              exact DSs_nil ⟨_, _, _, rfl, rfl⟩
        · rintro ρ μ' ⟨x6, x7, x8, rfl, rfl⟩
          rw [List.length_map, List.take_length]
          exact DSs_nil ⟨_, _, _, _, _, rfl, rfl⟩
  · rintro ρ μ' ⟨x4, x5, x6, x7, x8, rfl, rfl⟩
    rw [show (rgD (lv.length * lv.length + 1)).length = lv.length * lv.length + 1 by simp [rgD]]
    exact rest _ _ _ _ _ _ rfl
end Od
namespace Od
def ownR (left : List U) (R : U → List U) (u : U) : List U := left.filter fun o => decide (o = u) || (decide (o ∈ R u) && decide (u ∈ R o))
def lready (left : List U) (R : U → List U) (done : List U) (u : U) : Bool := (R u).all fun o => decide (o ∈ done) || decide (o ∈ ownR left R u)
structure LP where
  left : List U
  listed : List (List U)
  done : List U
def lpick (R : U → List U) (s : LP) : Option (List U) := (s.left.find? (lready s.left R s.done)).map (ownR s.left R)
def lpst (R : U → List U) (s : LP) : LP := match lpick R s with
  | none => s
  | some ch => ⟨s.left.filter fun u => !decide (u ∈ ch), s.listed ++ [ch], s.done ++ ch⟩
def lpN (R : U → List U) (s : LP) : Nat → LP
  | 0 => s
  | k + 1 => lpst R (lpN R s k)
def lpartsR (lv : List U) (R : U → List U) : List (List U) := (lpN R ⟨lv, [], []⟩ lv.length).listed
theorem lpN_stay {R : U → List U} {s : LP} {k : Nat} (h : lpick R (lpN R s k) = none) : ∀ j, lpN R s (k + j) = lpN R s k
  | 0 => rfl
  | j + 1 => by
    show lpst R (lpN R s (k + j)) = _
    rw [lpN_stay h j]
    unfold lpst
    rw [h]
structure LInv (lv : List U) (k : Nat) (s : LP) : Prop where
  l : ∀ x ∈ s.left, x ∈ lv
  ln : s.left.length ≤ lv.length
  li : s.listed.length ≤ k
  d : s.done.length ≤ lv.length * k
theorem ownR_len (left : List U) (R : U → List U) (u : U) : (ownR left R u).length ≤ left.length := List.length_filter_le _ _
theorem lpst_inv {lv : List U} {R : U → List U} {k : Nat} {s : LP} (I : LInv lv k s) : LInv lv (k + 1) (lpst R s) := by
  unfold lpst
  have hm : lv.length * (k + 1) = lv.length * k + lv.length := Nat.mul_succ _ _
  cases e : lpick R s with
  | none => exact ⟨I.l, I.ln, by have := I.li; show s.listed.length ≤ k + 1; omega, by have := I.d; show s.done.length ≤ _; omega⟩
  | some ch =>
    have hch : ch.length ≤ s.left.length := by
      unfold lpick at e
      obtain ⟨u, _, rfl⟩ := Option.map_eq_some_iff.mp e
      exact ownR_len _ _ _
    refine ⟨fun x hx => I.l x (List.mem_filter.mp hx).1, Nat.le_trans (List.length_filter_le _ _) I.ln, ?_, ?_⟩
    · have := I.li
      show (s.listed ++ [ch]).length ≤ _
      rw [List.length_append]; simp; omega
    · have := I.d
      have := I.ln
      show (s.done ++ ch).length ≤ _
      rw [List.length_append]; omega
theorem lpN_inv {lv : List U} {R : U → List U} : ∀ k, LInv lv k (lpN R ⟨lv, [], []⟩ k)
  | 0 => ⟨fun x hx => hx, Nat.le_refl _, Nat.le_refl _, Nat.zero_le _⟩
  | k + 1 => lpst_inv (lpN_inv k)
end Od
namespace Od
open PySem PySem.Spec PyProof.Rows L2
def oD : Option (List U) → D
  | none => .non
  | some l => .lst (l.map uD)
theorem oD_non (o : Option (List U)) : isNon (oD o) = !o.isSome := by cases o <;> rfl
theorem oD_any (o : Option (List U)) : notAny (oD o) = true := by cases o <;> rfl
def spLParts : Dsp := fun ds μ d μ' => ds.length = 2 ∧ ∃ ps, ds = [procsD ps, LD (livU ps) (livT ps)] ∧ GoodP ps ∧ SG (livU ps) (tS (livT ps)) ∧ d = .lst ((lpartsR (livU ps) (lreach (livU ps).length (facR (tS (livT ps))))).map blkD) ∧ μ = μ'
abbrev n_l_parts : List Str := ["_law_procedures_here", "_law_live_here", "_law_reach", "_law_unknown", "_law_left", "_law_listed", "_law_done", "_law_turn", "_law_chosen", "_law_own", "_law_other"]
theorem sc_l_parts : FnScope n_l_parts ["_law_procedures_here", "_law_live_here"] d_l_parts.scope := ⟨rfl, rfl, rfl, by decide +kernel, rfl, by decide +kernel, by decide +kernel⟩
theorem c_l_parts {g : Gv} (G : Gd g) : Ctr g 3 "_law_parts" (spD g.K spLParts) := by
  obtain ⟨fd, F⟩ := G.def_ 55 (d := d_l_parts) rfl
  refine ⟨_, G.glo "_law_parts", F.kp, fn_of_body F sc_l_parts (F.bindsN fun _ _ _ _ _ _ us hl => match us, hl with | [_, _], _ => rfl) (fun _ _ _ _ h => h.1) fun l ds μ d μ' R h => ?_⟩
  obtain ⟨-, h⟩ := h
  have nd := sc_l_parts.nd
  obtain ⟨ps, rfl, G', GS, rfl, rfl⟩ := h
  have hu : (cX g l n_l_parts d_l_parts.scope).A.units + 1 < cLine := by have := R.un; omega
  have hu64 : (cX g l n_l_parts d_l_parts.scope).A.units + 64 < cLine := R.units
  have hu65 : (cX g l n_l_parts d_l_parts.scope).A.units + 65 < cLine := by have := R.un; omega
  have hlen := unkR_len G'
  have hnd := unkR_nd ps
  have e1 : ∀ u, ((getK (mapD (livU ps) fun u => .lst ((livT ps u).map termD)) (uK u)).isSome) = decide (u ∈ livU ps) := fun u => by rw [getK_map]; by_cases h : u ∈ livU ps <;> simp [h]
  have hlv : (unkR ps).filter (fun u => decide (u ∈ livU ps)) = livU ps := by
    show _ = (unkR ps).filter fun u => decide (u ∈ posU ps)
    apply List.filter_congr
    intro u hm
    have : u ∈ livU ps ↔ u ∈ posU ps := by
      show u ∈ (unkR ps).filter (fun u => decide (u ∈ posU ps)) ↔ _
      rw [List.mem_filter]
      simp [hm]
    rw [Bool.eq_iff_iff]
    simpa using this
  have lvl := GS.len
  generalize hRR : lreach (livU ps).length (facR (tS (livT ps))) = RR at *
  refine DSs_cons (DS_setN 2 DN_dic (fun q => ?_) nd)
  refine DSs_cons (DS_for (DI_lst (DE_call (c_l_unknowns G) R (DA_cons (DE_var 0) DA_nil) ⟨rfl, ps, rfl, G', rfl, rfl⟩)) (fun i ρ μ' => ∃ x3, ρ = [some (procsD ps), some (LD (livU ps) (livT ps)), some (.ptr q), x3, none, none, none, none, none, none, none] ∧ μ' = (q, .dic (mapD (((unkR ps).take i).filter fun u => decide (u ∈ livU ps)) fun u => .lst ((RR u).map uD))) :: μ) ⟨_, rfl, rfl⟩ (fun _ _ _ _ => trivial) ?_ ?_)
  · rintro i d ρ μ' hi ⟨x3, rfl, rfl⟩
    rw [List.getElem?_map] at hi
    cases hx : (unkR ps)[i]? with
    | none => rw [hx] at hi; cases hi
    | some u =>
      rw [hx] at hi; cases hi
      refine ⟨_, _, DG_name 3 nd, ?_⟩
      refine DSs_cons (DS_if (DT_din hu (DE_var 3) (DE_var 1) .fz) (fun c => ?_) fun c => ?_)
      · rw [e1] at c
        refine DSs_cons (DS_put 0 (ks := mapD (((unkR ps).take i).filter fun u => decide (u ∈ livU ps)) fun u => .lst ((RR u).map uD)) hu (DE_call (c_l_reaches G) R (DA_cons (DE_var 1) (DA_cons (DE_var 3) DA_nil)) ⟨rfl, livU ps, livT ps, u, rfl, GS, of_decide_eq_true c, rfl, rfl⟩) (DE_var 2) (DE_var 3) ?_ ?_)
        · unfold mapD
          rw [List.length_map]
          have := List.length_filter_le (fun u => decide (u ∈ livU ps)) ((unkR ps).take i)
          rw [List.length_take] at this
          omega
        · refine DSs_nil (DSs_nil ⟨some (uD u), rfl, ?_⟩)
          rw [hRR, putD_new (us := ((unkR ps).take i).filter fun u => decide (u ∈ livU ps)) (fun h => not_in_take hnd hx (List.mem_filter.mp h).1), take_get hx, List.filter_append, List.filter_cons_of_pos (p := fun u => decide (u ∈ livU ps)) c]
          unfold mapD
          rw [List.map_append]; rfl
      · rw [e1] at c
        refine DSs_nil (DSs_nil ⟨some (uD u), rfl, ?_⟩)
        rw [take_get hx, List.filter_append, List.filter_cons_of_neg (p := fun u => decide (u ∈ livU ps)) (by rw [c]; decide)]
        simp
  rintro ρ μ' ⟨x3, rfl, rfl⟩
  rw [List.length_map, List.take_length, hlv]
  refine DSs_freeze 2 [] (h := ?_)
  have getR : ∀ u ∈ livU ps, getK (mapD (livU ps) fun u => .lst ((RR u).map uD)) (uK u) = some (.lst ((RR u).map uD)) := fun u hm => by rw [getK_map, if_pos hm]
  refine DSs_cons (DS_setLc 4 [("_law_unknown", 3)] (unkR ps) uD (fun u => decide (u ∈ livU ps)) uD (DI_lst (DE_call (c_l_unknowns G) R (DA_cons (DE_var 0) DA_nil) ⟨rfl, ps, rfl, G', rfl, rfl⟩)) (fun _ _ => trivial) (fun u hm a l => ⟨_, _, fun s0 H0 Cc cl fp => DG_name 3 nd, by decide, fun s0 H0 Cc cl fp => DTs_one (DT.eq (DT_din hu (DE_var 3) (DE_var 1) .fz) (e1 u)), fun _ => fun s0 H0 Cc cl fp => (DE_var 3)⟩) (fun q2 => ?_) nd)
  rw [hlv]
  refine DSs_freeze 4 [] (h := ?_)
  refine DSs_cons (DS_setN 5 (DN_lst DA_nil) (fun L => ?_) nd)
  refine DSs_cons (DS_setN 6 (DN_lst DA_nil) (fun q3 => ?_) nd)
  refine DSs_freeze 6 [] (h := ?_)
  have fin : ∀ (k : Nat) (x3 x7 x8 x9 x10 : Option D), (lpN RR ⟨livU ps, [], []⟩ k).listed = lpartsR (livU ps) RR → DSs (cX g l n_l_parts d_l_parts.scope) (d_l_parts.body.drop 6) [some (procsD ps), some (LD (livU ps) (livT ps)), some (usesD (livU ps) RR), x3, some (.lst ((lpN RR ⟨livU ps, [], []⟩ k).left.map uD)), some (.ptr L), some (.lst ((lpN RR ⟨livU ps, [], []⟩ k).done.map uD)), x7, x8, x9, x10] ((L, .lst ((lpN RR ⟨livU ps, [], []⟩ k).listed.map blkD)) :: μ) (Ret (.lst ((lpartsR (livU ps) RR).map blkD)) μ) := fun k x3 x7 x8 x9 x10 e => by
    rw [e]
    refine DSs_freeze 5 [] (h := ?_)
    exact DSs_cons (DS_ret (DE_var 5) Ret.rt)
  refine DSs_cons (DS_for (DI_range (n := (livU ps).length) (G.free "range") (DE.eq (DE_len (G.free "len") (DE_var 4) .li) (by rw [List.length_map])) (by omega)) (fun k ρ μ' => ∃ x3 x7 x8 x9 x10, ρ = [some (procsD ps), some (LD (livU ps) (livT ps)), some (usesD (livU ps) RR), x3, some (.lst ((lpN RR ⟨livU ps, [], []⟩ k).left.map uD)), some (.ptr L), some (.lst ((lpN RR ⟨livU ps, [], []⟩ k).done.map uD)), x7, x8, x9, x10] ∧ μ' = (L, .lst ((lpN RR ⟨livU ps, [], []⟩ k).listed.map blkD)) :: μ) ⟨_, _, _, _, _, rfl, rfl⟩ (fun _ _ _ _ => trivial) ?_ ?_)
  · rintro k d ρ μ' hi ⟨x3, x7, x8, x9, x10, rfl, rfl⟩
    obtain ⟨rfl, hk⟩ := rgD_get hi
    have I := lpN_inv (lv := livU ps) (R := RR) k
    have hst : lpN RR ⟨livU ps, [], []⟩ (k + 1) = lpst RR (lpN RR ⟨livU ps, [], []⟩ k) := rfl
    have hbrk : lpick RR (lpN RR ⟨livU ps, [], []⟩ k) = none → (lpN RR ⟨livU ps, [], []⟩ k).listed = lpartsR (livU ps) RR := fun e => by
      obtain ⟨j, hj⟩ := Nat.exists_eq_add_of_le (Nat.le_of_lt hk)
      unfold lpartsR
      rw [hj]
      have := lpN_stay (s := ⟨livU ps, [], []⟩) e j
      rw [← hj] at this ⊢
      rw [this]
    have fin' := fin k
    rw [hst]
    have hdl : (livU ps).length * k ≤ 1600 := Nat.mul_le_mul lvl (by omega : k ≤ 40)
    generalize lpN RR ⟨livU ps, [], []⟩ k = s at *
    refine ⟨_, _, DG_name 7 nd, ?_⟩
    refine DSs_cons (DS_set 8 DE_non ?_ nd)
    refine DSs_cons (DS_for (DI_lst (DE_var 4)) (fun j ρ μ' => ∃ x3 x9 x10, ρ = [some (procsD ps), some (LD (livU ps) (livT ps)), some (usesD (livU ps) RR), x3, some (.lst (s.left.map uD)), some (.ptr L), some (.lst (s.done.map uD)), some (.int k), some (oD (((s.left.take j).find? (lready s.left RR s.done)).map (ownR s.left RR))), x9, x10] ∧ μ' = (L, .lst (s.listed.map blkD)) :: μ) ⟨_, _, _, rfl, rfl⟩ (fun _ _ _ _ => trivial) ?_ ?_)
    · rintro j d ρ μ' hi ⟨x3, x9, x10, rfl, rfl⟩
      rw [List.getElem?_map] at hi
      cases hx : s.left[j]? with
      | none => rw [hx] at hi; cases hi
      | some u =>
        rw [hx] at hi; cases hi
        have hul := I.l u (List.mem_of_getElem? hx)
        rw [take_get hx, List.find?_append]
        generalize (s.left.take j).find? (lready s.left RR s.done) = c0
        refine ⟨_, _, DG_name 3 nd, ?_⟩
        refine DSs_cons (DS_setN 9 (d := .lst ((ownR s.left RR u).map uD)) (lcP [("_law_other", 10)] s.left uD (fun o => decide (o = u) || (decide (o ∈ RR u) && decide (u ∈ RR o))) uD (DI_lst (DE_var 4)) rfl (fun _ _ => trivial) (fun x hx a l => ⟨_, _, fun s0 H0 Cc cl fp => DG_name 10 nd, by decide, fun s0 H0 Cc cl fp => DTs_one (DW.dt (DW_or (DT_eqU hu64 (DE_var 10) (DE_var 3)) fun _ => DW_or1 (DW.dt (DW_and (DT_inU hu65 (DE_var 10) (DE_dget hu (DE_var 2) (DE_var 3) .fz (getR u hul)) .li) fun _ => DW_and1 (DT_inU hu65 (DE_var 3) (DE_dget hu (DE_var 2) (DE_var 10) .fz (getR x (I.l x hx))) .li))))), fun _ => fun s0 H0 Cc cl fp => (DE_var 10)⟩) nd rfl) (fun q4 => ?_) nd)
        refine DSs_freeze 9 [] (h := ?_)
        have ea : (((RR u).map fun o => decide (o ∈ s.done) || decide (o ∈ ownR s.left RR u)).all fun z => z) = lready s.left RR s.done u := by rw [List.all_map]; rfl
        refine DSs_cons (DS_if (DW.dt (DW_and (DT_isN (DE_var 8) (oD_any _)) fun _ => DW_and1 (DT_val (DE_all_ (bs := (RR u).map fun o => decide (o ∈ s.done) || decide (o ∈ ownR s.left RR u)) (G.free "all") (DN.de (lcF [("_law_other", 10)] (RR u) uD (fun o => .bl (decide (o ∈ s.done) || decide (o ∈ ownR s.left RR u))) (DI_lst (DE_dget hu (DE_var 2) (DE_var 3) .fz (getR u hul))) rfl (fun _ _ => trivial) (fun o ho a l => ⟨_, _, fun s0 H0 Cc cl fp => DG_name 10 nd, by decide, fun s0 H0 Cc cl fp => DE_or (DE_inU hu65 (DE_var 10) (DE_var 6) .li) fun _ => DE_one (DE_inU hu65 (DE_var 10) (DE_var 9) .li)⟩) nd (by rw [List.map_map]; rfl))))))) (fun c => ?_) fun c => ?_)
        · rw [ea, oD_non, Bool.and_eq_true] at c
          have hc0 : c0 = none := by
            cases c0 with
            | none => rfl
            | some x => exact absurd c.1 (by simp)
          subst hc0
          refine DSs_cons (DS_set 8 (DE_var 9) ?_ nd)
          refine DSs_nil (DSs_nil ⟨some (uD u), some (.lst ((ownR s.left RR u).map uD)), x10, ?_, rfl⟩)
          rw [Option.none_or, List.find?_cons_of_pos c.2]
          rfl
        · rw [ea, oD_non] at c
          refine DSs_nil (DSs_nil ⟨some (uD u), some (.lst ((ownR s.left RR u).map uD)), x10, ?_, rfl⟩)
          cases c0 with
          | none =>
            have : lready s.left RR s.done u = false := by simpa using c
            rw [Option.none_or, List.find?_cons_of_neg (by rw [this]; decide)]
            rfl
          | some x =>
            rw [Option.some_or]
            rfl
    · rintro ρ μ' ⟨x3, x9, x10, rfl, rfl⟩
      rw [List.length_map, List.take_length]
      have ep : (s.left.find? (lready s.left RR s.done)).map (ownR s.left RR) = lpick RR s := rfl
      rw [ep]
      cases hp : lpick RR s with
      | none =>
        refine DSs_cons (DS_if (DT_isN (d := .non) (DE_var 8)) (fun _ => ?_) fun c => absurd (show true = false from c) (by decide))
        refine DSs_cons (DS_brk ?_)
        exact fin' _ _ _ _ _ (hbrk hp)
      | some ch =>
        have es : lpst RR s = ⟨s.left.filter fun u => !decide (u ∈ ch), s.listed ++ [ch], s.done ++ ch⟩ := by unfold lpst; rw [hp]
        have hch : ch.length ≤ 40 := by
          unfold lpick at hp
          obtain ⟨u, _, rfl⟩ := Option.map_eq_some_iff.mp hp
          have := ownR_len s.left RR u
          have := I.ln
          omega
        have i1 := I.li
        have i2 := I.d
        refine DSs_cons (DS_if (DT_isN (d := .lst (ch.map uD)) (DE_var 8)) (fun c => absurd c (by exact Bool.false_ne_true)) fun _ => ?_)
        refine DSs_nil ?_
        refine DSs_cons (DS_expr (apd 0 (DE_var 5) (DE_tupL (G.free "tuple") (DE_var 8)) (hl := by rw [List.length_map]; omega)) ?_)
        refine DSs_cons (DS_setN 6 (DN_cat (DE_var 6) (DE_var 8) .li .li (by rw [List.length_map, List.length_map]; omega)) (fun q5 => ?_) nd)
        refine DSs_freeze 6 [] (h := ?_)
        refine DSs_cons (DS_setLc 4 [("_law_unknown", 3)] s.left uD (fun u => !decide (u ∈ ch)) uD (DI_lst (DE_var 4)) (fun _ _ => trivial) (fun u hm a l => ⟨_, _, fun s0 H0 Cc cl fp => DG_name 3 nd, by decide, fun s0 H0 Cc cl fp => DTs_one (DT_notinU hu65 (DE_var 3) (DE_var 8) .li), fun _ => fun s0 H0 Cc cl fp => (DE_var 3)⟩) (fun q6 => ?_) nd)
        refine DSs_freeze 4 [] (h := ?_)
        refine DSs_nil ⟨x3, some (.int k), some (.lst (ch.map uD)), x9, x10, ?_, ?_⟩
        · rw [es, List.map_append]
          rfl
        · rw [es, List.map_append]
          rfl
  · rintro ρ μ' ⟨x3, x7, x8, x9, x10, rfl, rfl⟩
    rw [show (rgD (livU ps).length).length = (livU ps).length by simp [rgD]]
    exact fin _ _ _ _ _ _ rfl
end Od
namespace Od
open PySem PySem.Spec PyProof.Rows L2
instance (q : Rat) : Decidable (Sm q) := by unfold Sm; infer_instance
def mulB (a b : Rat) : Option Rat := if Sm a ∧ Sm b then some (a * b) else none
def addB (a b : Rat) : Option Rat := if Sm a ∧ Sm b then some (a + b) else none
theorem mulB_some {a b c : Rat} (h : mulB a b = some c) : Sm a ∧ Sm b ∧ a * b = c := by
  unfold mulB at h
  split at h
  · rename_i h1; exact ⟨h1.1, h1.2, Option.some.inj h⟩
  · cases h
theorem addB_some {a b c : Rat} (h : addB a b = some c) : Sm a ∧ Sm b ∧ a + b = c := by
  unfold addB at h
  split at h
  · rename_i h1; exact ⟨h1.1, h1.2, Option.some.inj h⟩
  · cases h
/-- a term's value -/
def tvR (V : U → Rat) : Rat → List U → Option Rat
  | c, [] => some c
  | c, f :: fs => (mulB c (V f)).bind fun c' => tvR V c' fs
theorem tvR_snoc (V : U → Rat) : ∀ (fs : List U) (c : Rat) (f : U), tvR V c (fs ++ [f]) = (tvR V c fs).bind fun c' => mulB c' (V f)
  | [], c, f => by simp [tvR]
  | g :: fs, c, f => by
    show (mulB c (V g)).bind _ = ((mulB c (V g)).bind _).bind _
    cases mulB c (V g) with
    | none => rfl
    | some c' => exact tvR_snoc V fs c' f
theorem tvR_take {V : U → Rat} {fs : List U} {c r : Rat} (h : tvR V c fs = some r) : ∀ i, ∃ x, tvR V c (fs.take i) = some x := by
  intro i
  induction fs generalizing c i with
  | nil => exact ⟨c, by simp [tvR]⟩
  | cons f fs ih =>
    cases i with
    | zero => exact ⟨c, by simp [tvR]⟩
    | succ i =>
      show ∃ x, (mulB c (V f)).bind _ = some x
      have h : (mulB c (V f)).bind (fun c' => tvR V c' fs) = some r := h
      cases e : mulB c (V f) with
      | none => rw [e] at h; cases h
      | some c' => rw [e] at h; exact ih h i
def FsD (d : D) (fs : List U) : Prop := d = .tup (fs.map uD) ∨ d = .lst (fs.map uD)
def spTv : Dsp := fun ds μ d μ' => ds.length = 2 ∧ ∃ (c : Rat) (fd : D) (fs : List U) (dv : D) (lv : List U) (V : U → Rat) (r : Rat), ds = [.tup [qD c, fd], dv] ∧ FsD fd fs ∧ (dv = .dic (mapD lv fun u => qD (V u)) ∨ ∃ (p : Addr) (n : Nat), dv = .ptr p ∧ μ[n]? = some (p, D.dic (mapD lv fun u => qD (V u)))) ∧ (∀ f ∈ fs, f ∈ lv) ∧ tvR V c fs = some r ∧ d = qD r ∧ μ = μ'
abbrev n_l_term_value : List Str := ["_law_term", "_law_values_here", "_law_total", "_law_factor"]
theorem sc_l_term_value : FnScope n_l_term_value ["_law_term", "_law_values_here"] d_l_term_value.scope := ⟨rfl, rfl, rfl, by decide +kernel, rfl, by decide +kernel, by decide +kernel⟩
theorem c_l_term_value {g : Gv} (G : Gd g) : Ctr g 4 "_law_term_value" (spD g.K spTv) := by
  obtain ⟨fd, F⟩ := G.def_ 59 (d := d_l_term_value) rfl
  refine ⟨_, G.glo "_law_term_value", F.kp, fn_of_body F sc_l_term_value (F.bindsN fun _ _ _ _ _ _ us hl => match us, hl with | [_, _], _ => rfl) (fun _ _ _ _ h => h.1) fun l ds μ d μ' R h => ?_⟩
  obtain ⟨-, h⟩ := h
  have nd := sc_l_term_value.nd
  obtain ⟨c, fd, fs, dv, lv, V, r, rfl, hfd, hdv, hsub, hr, rfl, rfl⟩ := h
  have hu : (cX g l n_l_term_value d_l_term_value.scope).A.units + 1 < cLine := by have := R.un; omega
  have getV : ∀ f ∈ fs, getK (mapD lv fun u => qD (V u)) (uK f) = some (qD (V f)) := fun f hf => by rw [getK_map, if_pos (hsub f hf)]
  refine DSs_cons (DS_set 2 (DE_ixT (DE_var 0) DE_int) ?_ nd)
  have I0 : ∃ x3 x, [some (D.tup [qD c, fd]), some dv, some (qD c), none] = [some (.tup [qD c, fd]), some dv, some (qD x), x3] ∧ μ = μ ∧ tvR V c (fs.take 0) = some x := ⟨none, c, rfl, rfl, by simp [tvR]⟩
  rcases hfd with rfl | rfl
  · refine DSs_cons (DS_for (DI_tup (DE_ixT (DE_var 0) DE_int)) (fun i ρ μ' => ∃ x3 x, ρ = [some (.tup [qD c, .tup (fs.map uD)]), some dv, some (qD x), x3] ∧ μ' = μ ∧ tvR V c (fs.take i) = some x) I0 (fun _ _ _ _ => trivial) ?_ ?_)
    · rintro i d ρ μ' hi ⟨x3, x, rfl, rfl, ht⟩
      rw [List.getElem?_map] at hi
      cases hx : fs[i]? with
      | none => rw [hx] at hi; cases hi
      | some f =>
        rw [hx] at hi; cases hi
        obtain ⟨y, hy⟩ := tvR_take hr (i + 1)
        have hy2 := hy
        rw [take_get hx, tvR_snoc, ht] at hy2
        obtain ⟨s1, s2, e⟩ := mulB_some (show mulB x (V f) = some y from hy2)
        refine ⟨_, _, DG_name 3 nd, ?_⟩
        refine DSs_cons (DS_set 2 (DE_call (c_l_times G) R (DA_cons (DE_var 2) (DA_cons (DE_dget hu (DE_var 1) (DE_var 3) hdv (getV f (List.mem_of_getElem? hx))) DA_nil)) ⟨rfl, x, V f, rfl, s1, s2, rfl, rfl⟩) ?_ nd)
        exact DSs_nil ⟨some (uD f), y, by rw [← e]; rfl, rfl, hy⟩
    · rintro ρ μ' ⟨x3, x, rfl, rfl, ht⟩
      rw [List.length_map, List.take_length, hr] at ht
      cases ht
      exact DSs_cons (DS_ret (DE_var 2) Ret.rt)
  · refine DSs_cons (DS_for (DI_lst (DE_ixT (DE_var 0) DE_int)) (fun i ρ μ' => ∃ x3 x, ρ = [some (.tup [qD c, .lst (fs.map uD)]), some dv, some (qD x), x3] ∧ μ' = μ ∧ tvR V c (fs.take i) = some x) I0 (fun _ _ _ _ => trivial) ?_ ?_)
    · rintro i d ρ μ' hi ⟨x3, x, rfl, rfl, ht⟩
      rw [List.getElem?_map] at hi
      cases hx : fs[i]? with
      | none => rw [hx] at hi; cases hi
      | some f =>
        rw [hx] at hi; cases hi
        obtain ⟨y, hy⟩ := tvR_take hr (i + 1)
        have hy2 := hy
        rw [take_get hx, tvR_snoc, ht] at hy2
        obtain ⟨s1, s2, e⟩ := mulB_some (show mulB x (V f) = some y from hy2)
        refine ⟨_, _, DG_name 3 nd, ?_⟩
        refine DSs_cons (DS_set 2 (DE_call (c_l_times G) R (DA_cons (DE_var 2) (DA_cons (DE_dget hu (DE_var 1) (DE_var 3) hdv (getV f (List.mem_of_getElem? hx))) DA_nil)) ⟨rfl, x, V f, rfl, s1, s2, rfl, rfl⟩) ?_ nd)
        exact DSs_nil ⟨some (uD f), y, by rw [← e]; rfl, rfl, hy⟩
    · rintro ρ μ' ⟨x3, x, rfl, rfl, ht⟩
      rw [List.length_map, List.take_length, hr] at ht
      cases ht
      exact DSs_cons (DS_ret (DE_var 2) Ret.rt)
end Od
namespace Od
open PySem PySem.Spec PyProof.Rows L2
def sdR (V : U → Rat) : Rat → List Term → Option Rat
  | a, [] => some a
  | a, t :: ts => (tvR V t.1 t.2).bind fun x => (addB a x).bind fun b => sdR V b ts
theorem sdR_snoc (V : U → Rat) : ∀ (ts : List Term) (a : Rat) (t : Term), sdR V a (ts ++ [t]) = (sdR V a ts).bind fun a' => (tvR V t.1 t.2).bind fun x => addB a' x
  | [], a, t => by
    show (tvR V t.1 t.2).bind _ = (tvR V t.1 t.2).bind _
    congr 1
    funext x
    show (addB a x).bind some = addB a x
    cases addB a x <;> rfl
  | s :: ts, a, t => by
    show (tvR V s.1 s.2).bind _ = ((tvR V s.1 s.2).bind _).bind _
    cases tvR V s.1 s.2 with
    | none => rfl
    | some x =>
      show (addB a x).bind _ = ((addB a x).bind _).bind _
      cases addB a x with
      | none => rfl
      | some b => exact sdR_snoc V ts b t
theorem sdR_take {V : U → Rat} {ts : List Term} {a r : Rat} (h : sdR V a ts = some r) : ∀ i, ∃ x, sdR V a (ts.take i) = some x := by
  intro i
  induction ts generalizing a i with
  | nil => exact ⟨a, by simp [sdR]⟩
  | cons t ts ih =>
    cases i with
    | zero => exact ⟨a, by simp [sdR]⟩
    | succ i =>
      have h : (tvR V t.1 t.2).bind (fun x => (addB a x).bind fun b => sdR V b ts) = some r := h
      show ∃ x, (tvR V t.1 t.2).bind (fun x => (addB a x).bind fun b => sdR V b (ts.take i)) = some x
      cases e : tvR V t.1 t.2 with
      | none => rw [e] at h; cases h
      | some x =>
        rw [e] at h
        have h : (addB a x).bind (fun b => sdR V b ts) = some r := h
        show ∃ y, (addB a x).bind (fun b => sdR V b (ts.take i)) = some y
        cases e2 : addB a x with
        | none => rw [e2] at h; cases h
        | some b => rw [e2] at h; exact ih h i
def ValsAt (μ : Mu) (dv : D) (lv : List U) (V : U → Rat) : Prop := dv = .dic (mapD lv fun u => qD (V u)) ∨ ∃ (p : Addr) (n : Nat), dv = .ptr p ∧ μ[n]? = some (p, D.dic (mapD lv fun u => qD (V u)))
def spSide : Dsp := fun ds μ d μ' => ds.length = 3 ∧ ∃ (lv : List U) (T : U → List Term) (u : U) (dv : D) (V : U → Rat) (r : Rat), ds = [LD lv T, uD u, dv] ∧ SG lv (tS T) ∧ u ∈ lv ∧ ValsAt μ dv lv V ∧ sdR V 0 (T u) = some r ∧ d = qD r ∧ μ = μ'
abbrev n_l_side : List Str := ["_law_live_here", "_law_unknown", "_law_values_here", "_law_total", "_law_term"]
theorem sc_l_side : FnScope n_l_side ["_law_live_here", "_law_unknown", "_law_values_here"] d_l_side.scope := ⟨rfl, rfl, rfl, by decide +kernel, rfl, by decide +kernel, by decide +kernel⟩
theorem c_l_side {g : Gv} (G : Gd g) : Ctr g 5 "_law_side" (spD g.K spSide) := by
  obtain ⟨fd, F⟩ := G.def_ 63 (d := d_l_side) rfl
  refine ⟨_, G.glo "_law_side", F.kp, fn_of_body F sc_l_side (F.bindsN fun _ _ _ _ _ _ us hl => match us, hl with | [_, _, _], _ => rfl) (fun _ _ _ _ h => h.1) fun l ds μ d μ' R h => ?_⟩
  obtain ⟨-, h⟩ := h
  have nd := sc_l_side.nd
  obtain ⟨lv, T, u, dv, V, r, rfl, GS, hm, hdv, hr, rfl, rfl⟩ := h
  have hu : (cX g l n_l_side d_l_side.scope).A.units + 1 < cLine := by have := R.un; omega
  refine DSs_cons (DS_set 3 (DE_tup (DA_cons DE_int (DA_cons DE_int DA_nil))) ?_ nd)
  refine DSs_cons (DS_for (DI_lst (DE_dget hu (DE_var 0) (DE_var 1) .fz (LD_get hm))) (fun i ρ μ' => ∃ x4 x, ρ = [some (LD lv T), some (uD u), some dv, some (qD x), x4] ∧ μ' = μ ∧ sdR V 0 ((T u).take i) = some x) ⟨none, 0, rfl, rfl, by simp [sdR]⟩ (fun _ _ _ _ => trivial) ?_ ?_)
  · rintro i d ρ μ' hi ⟨x4, x, rfl, rfl, ht⟩
    rw [List.getElem?_map] at hi
    cases hx : (T u)[i]? with
    | none => rw [hx] at hi; cases hi
    | some t =>
      rw [hx] at hi; cases hi
      obtain ⟨y, hy⟩ := sdR_take hr (i + 1)
      have hy2 := hy
      rw [take_get hx, sdR_snoc, ht] at hy2
      have hy2 : (tvR V t.1 t.2).bind (fun z => addB x z) = some y := hy2
      obtain ⟨z, ez, ea⟩ := Option.bind_eq_some_iff.mp hy2
      obtain ⟨s1, s2, e⟩ := addB_some ea
      refine ⟨_, _, DG_name 4 nd, ?_⟩
      refine DSs_cons (DS_set 3 (DE_call (c_l_plus G) R (DA_cons (DE_var 3) (DA_cons (DE_call (c_l_term_value G) R (DA_cons (DE_var 4) (DA_cons (DE_var 2) DA_nil)) ⟨rfl, t.1, .tup (t.2.map uD), t.2, dv, lv, V, z, rfl, .inl rfl, hdv, GS.sub u hm t.2 (List.mem_map_of_mem (List.mem_of_getElem? hx)), ez, rfl, rfl⟩) DA_nil)) ⟨rfl, x, z, rfl, s1, s2, rfl, rfl⟩) ?_ nd)
      exact DSs_nil ⟨some (termD t), y, by rw [← e]; rfl, rfl, hy⟩
  · rintro ρ μ' ⟨x4, x, rfl, rfl, ht⟩
    rw [List.length_map, List.take_length, hr] at ht
    cases ht
    exact DSs_cons (DS_ret (DE_var 3) Ret.rt)
def dfL (l : List Rat) : List Rat := (List.range (l.length - 1)).map fun k => l.getD (k + 1) 0 + -(l.getD k 0)
def dfOK (l : List Rat) : Prop := ∀ k, k + 1 < l.length → Sm (l.getD (k + 1) 0) ∧ Sm (-(l.getD k 0))
def dfI (l : List Rat) : Nat → List Rat
  | 0 => l
  | j + 1 => dfL (dfI l j)
theorem dfI_len (l : List Rat) : ∀ j, (dfI l j).length = l.length - j
  | 0 => rfl
  | j + 1 => by
    show (dfL (dfI l j)).length = _
    unfold dfL
    rw [List.length_map, List.length_range, dfI_len l j]; omega
theorem neg_qD (q : Rat) : D.tup [.int (0 - q.num), .int q.den] = qD (-q) := by
  show D.tup [.int (0 - q.num), .int q.den] = D.tup [.int (-q).num, .int (-q).den]
  rw [Int.zero_sub]; rfl
def spDiff : Dsp := fun ds μ d μ' => ds.length = 2 ∧ ∃ (l : List Rat) (n : Nat), ds = [.lst (l.map qD), .int n] ∧ n < l.length ∧ l.length ≤ 10 ∧ (∀ j, j ≤ n → dfOK (dfI l j)) ∧ d = .lst ((dfI l (n + 1)).map qD) ∧ μ = μ'
abbrev n_l_difference : List Str := ["_law_numbers", "_law_degree", "_law_turn", "_law_k"]
theorem sc_l_difference : FnScope n_l_difference ["_law_numbers", "_law_degree"] d_l_difference.scope := ⟨rfl, rfl, rfl, by decide +kernel, rfl, by decide +kernel, by decide +kernel⟩
theorem c_l_difference {g : Gv} (G : Gd g) : Ctr g 4 "_law_difference" (spD g.K spDiff) := by
  obtain ⟨fd, F⟩ := G.def_ 64 (d := d_l_difference) rfl
  refine ⟨_, G.glo "_law_difference", F.kp, fn_of_body F sc_l_difference (F.bindsN fun _ _ _ _ _ _ us hl => match us, hl with | [_, _], _ => rfl) (fun _ _ _ _ h => h.1) fun l ds μ d μ' R h => ?_⟩
  obtain ⟨-, h⟩ := h
  have nd := sc_l_difference.nd
  obtain ⟨l0, n, rfl, hn, hl, hok, rfl, rfl⟩ := h
  refine DSs_cons (DS_for (DI_range (n := n + 1) (G.free "range") (DE.eq (DE_add (DE_var 1) DE_int) rfl) (by omega)) (fun j ρ μ' => ∃ x2 x3, ρ = [some (.lst ((dfI l0 j).map qD)), some (.int n), x2, x3] ∧ μ' = μ) ⟨_, _, rfl, rfl⟩ (fun _ _ _ _ => trivial) ?_ ?_)
  · rintro j d ρ μ' hi ⟨x2, x3, rfl, rfl⟩
    have hj := (rgD_get hi).2
    have hd := hok j (by omega)
    have hlen := dfI_len l0 j
    have hst : dfI l0 (j + 1) = dfL (dfI l0 j) := rfl
    rw [hst]
    generalize dfI l0 j = lj at *
    refine ⟨_, _, DG_name 2 nd, ?_⟩
    refine DSs_cons (DS_setN 0 (d := .lst ((dfL lj).map qD)) (lcF [("_law_k", 3)] (List.range (lj.length - 1)) (fun k : Nat => .int k) (fun k => qD (lj.getD (k + 1) 0 + -(lj.getD k 0))) (DI_range (n := lj.length - 1) (G.free "range") (DE.eq (DE_sub (DE_len (G.free "len") (DE_var 0) .li) DE_int) (by rw [List.length_map]; congr 1; omega)) (by omega)) rfl (fun _ _ => trivial) (fun k hk a l => ?_) nd (by unfold dfL; rw [List.map_map]; rfl)) (fun q => ?_) nd)
    · have hk := List.mem_range.mp hk
      obtain ⟨s1, s2⟩ := hd k (by omega)
      have i0 : atI (lj.map qD) ((k : Nat) : Int) = some (qD (lj.getD k 0)) := atI_map (by rw [List.getD_eq_getElem?_getD, List.getElem?_eq_getElem (by omega)]; rfl)
      have i1 : atI (lj.map qD) (((k : Nat) : Int) + 1) = some (qD (lj.getD (k + 1) 0)) := atI_map (k := k + 1) (by rw [List.getD_eq_getElem?_getD, List.getElem?_eq_getElem (by omega)]; rfl)
      exact ⟨_, _, fun s0 H0 Cc cl fp => DG_name 3 nd, by decide, fun s0 H0 Cc cl fp => DE_call (c_l_plus G) R (DA_cons (DE_ixL (DE_var 0) (DE_add (DE_var 3) DE_int) i1) (DA_cons (DE.eq (DE_tup (DA_cons (DE_sub DE_int (DE_ixT (DE_ixL (DE_var 0) (DE_var 3) i0) DE_int)) (DA_cons (DE_ixT (DE_ixL (DE_var 0) (DE_var 3) i0) DE_int) DA_nil))) (neg_qD _)) DA_nil)) ⟨rfl, _, _, rfl, s1, s2, rfl, rfl⟩⟩
    · refine DSs_freeze 0 [] (h := ?_)
      exact DSs_nil ⟨_, _, rfl, rfl⟩
  · rintro ρ μ' ⟨x2, x3, rfl, rfl⟩
    rw [show (rgD (n + 1)).length = n + 1 by simp [rgD]]
    exact DSs_cons (DS_ret (DE_var 0) Ret.rt)
end Od
namespace Od
open PySem PySem.Spec PyProof.Rows L2
section
variable {X : Cx} {a b : Expr} {ρ : Rho} {μ μ1 μ2 : Mu} {pos cp apos cpos : Pos} {ds : List D}
theorem call_tuple_frz : CallR X (.type "tuple") (fun xs H Q => ∃ (p : Addr) (ys : List V), xs = [.ref p] ∧ SqL X.K H p ys ∧ ∀ (l : Addr) (o : Obj), H l = none → o.dict = none → Q (.ref l) (upd H l (.frz o (.tup ys)))) := by
  intro pins s σ H xs us Q I r h
  obtain ⟨p, ys, rfl, hq, q⟩ := h
  obtain ⟨u, rfl, rx⟩ := vals1 r
  cases rx
  obtain ⟨its, r', pl, hz⟩ := I.list hq
  have hlen := r'.length
  refine call_tuple_list pl.isList (fun h' kp => ?_) (by simp only [List.size_toArray] <;> omega)
  have I1 : Inv X pins σ H { s with heap := h' } := I.kept (t' := s.toks) kp
  have I2 : Inv X pins σ (upd H h'.objs.size (.frz { cls := .type "tuple", data := .seq its.toArray } (.tup ys))) { s with heap := h'.push { cls := .type "tuple", data := .seq its.toArray } } :=
    I1.laid (t' := s.toks) (fun b o e => Heap.get?_push_of_some _ e) (Nat.le_refl _) (show ObjOk X.prog X.w _ _ _ (.frz _ (.tup ys)) from ⟨Heap.get?_push_size _ rfl, hz, its, r', IsTup.new _ _⟩)
  exact ⟨.ref h'.objs.size, _, I2, rfl, q _ _ (I1.hok.fresh (Nat.le_refl _)) rfl⟩
theorem DE_tupG (hm : X.mg "tuple" = none) (ha : DE X a ρ μ (.lst ds) μ1) (hg : Gl X "tuple" := by rfl) (he : starEach [a] X.env = (false, eval a X.env) :: starEach [] X.env := by rfl) : DE X (.Call (.Name "tuple" cp) [a] [] pos) ρ μ (.gtup ds) μ1 :=
  DE_callTy call_tuple_frz (ds := [.lst ds]) (fun B H xs Q S r k => by
    obtain ⟨x, rfl, rx⟩ := reps1 r
    obtain ⟨p, ys, rfl, h, q⟩ := rx
    exact ⟨p, ys, rfl, SqL.of (S.sub _ _ h), fun l o nl od => by
      obtain ⟨i2, S2⟩ := S.newB (o := .frz o (.tup ys)) nl
      exact k _ _ _ i2 S2 ⟨l, ys, o, rfl, upd_same, od, q.inc i2⟩⟩) hm boot_tuple' (DA_cons ha DA_nil he) hg (he := he)
def tIdxG (K : PySem.W.Frag) (to te : TE) : TE := fun σ H Q => to σ H fun x H1 => ∃ (p : Addr) (o : Obj) (ys : List V), x = .ref p ∧ H1 p = some (.frz o (.tup ys)) ∧ o.dict = none ∧ te σ H1 fun y H2 => H2 p = some (.frz o (.tup ys)) ∧
  ∃ (ps : List PyData) (d : PyData) (j : Nat), DpAll K H2 ys ps ∧ Dp K H2 y d ∧ PyData.plainAll ps = true ∧ d.plain = true ∧ d.depth ≤ 2 ∧ SeqAt.dataPlace ps d = some j ∧ Q (.int (j : Nat)) H2
theorem pe_idxG {to te : TE} (hu : X.A.units + 64 < cLine) (ho : PE X a to) (he : PE X b te) (hbase : attributeBase a "index" X.env (eval a X.env) = eval a X.env := by rfl)
    (hfew : ((backTo cpos (starEach [b] X.env)).all (fun x => !x.1) && (backToKw cpos (keywordEach [] X.env)).all (fun x => x.1.isSome)
      && decide (([b] : List Expr).length + ([] : List Keyword).length + (if ([] : List Keyword).isEmpty then 0 else 1) < 30)) = true := by rfl)
    (hline : (apos.endLine == cpos.line) = true := by rfl) (hs : starEach [b] X.env = (false, eval b X.env) :: starEach [] X.env := by rfl) (hplain : (backTo cpos (starEach [] X.env)).any (·.1) = false := by rfl) :
    PE X (.Call (.Attribute a "index" apos) [b] [] cpos) (tIdxG X.K to te) := by
  refine ⟨fun pins s σ H Q I h => ?_⟩
  refine wpAny_Call_method_late hbase hfew hline rfl (thn (ho.run pins s σ H _ I h) fun v s1 ⟨x, H1, I1, r1, p, o, ys, ex, hp, od, q1⟩ => ?_)
  subst ex
  cases (show v = Value.ref p from r1)
  obtain ⟨g1, _, _, _, o1, h1, h2, _⟩ := (show ObjOk X.prog X.w H1 s1.heap p (.frz o (.tup ys)) from I1.hok p _ hp)
  rw [g1] at h1; cases h1
  refine ⟨"tuple", _, PySem.F.plainAttrs_tuple, PySem.F.slot_tuple_index, PySem.F.type_tuple_index, ⟨_, g1, h2⟩, fun a' e => by cases e; exact ⟨_, g1, od⟩, ?_⟩
  rw [hs]
  refine Calls.callWith_builtin (by show (false || (backTo cpos (starEach [] X.env)).any (·.1)) = false; rw [hplain] <;> rfl) (Calls.evalArgs_plain ?_)
  show wpAny _ _ (spliced ((false, eval b X.env) :: backTo cpos (starEach [] X.env))) _ _ s1
  refine Calls.spliced_cons (thn (he.run pins s1 σ H1 _ I1 q1) fun u s2 ⟨y, H2, I2, ry, hp2, ps, d, j, hps, hd, e1, e2, e3, hj, q⟩ => ?_)
  refine Calls.spliced_nil ?_
  obtain ⟨g2, z2, its, rv, o2, h1, h2, n2, h3⟩ := (show ObjOk X.prog X.w H2 s2.heap p (.frz o (.tup ys)) from I2.hok p _ hp2)
  rw [g2] at h1; cases h1
  obtain ⟨oc, odd, odt, osl⟩ := o
  simp only at h2 h3 od
  subst h2 h3 od
  obtain ⟨as, rr1⟩ := Dp.readsAll I2 ps ys its hps rv
  obtain ⟨bs, rr2⟩ := Dp.reads I2 d y u hd ry
  obtain ⟨hj1, hit, hno⟩ := SeqAt.hit_at (vs := its.toArray) (by simpa using rr1) e1 hj
  refine call_meets PySem.F.slot_tuple_index ⟨_, g2, rfl⟩ PySem.F.entry_tuple_index (PySem.F.args_tuple_index_2 _ _) (TI.tuple_indexAt p its.toArray n2 none osl u _ j hj1 hit hno)
    ⟨g2, SeqAt.items_plain (by simpa using rr1) rr2 e1 e2 (by have : min (PyData.depthAll ps) d.depth ≤ d.depth := Nat.min_le_right _ _; omega), ⟨.int (j : Nat), H2, I2.tok _, ⟨_, rfl⟩, q⟩⟩
theorem place_U {us : List U} {u : U} (hm : u ∈ us) : SeqAt.dataPlace (us.map pU) (pU u) = some (us.idxOf u) := by
  unfold SeqAt.dataPlace
  induction us with
  | nil => cases hm
  | cons c us ih =>
    rw [List.map_cons, List.findIdx?_cons, pU_eqv]
    by_cases e : c = u
    · subst e
      simp
    · have hm' : u ∈ us := by
        rcases List.mem_cons.mp hm with z | z
        · exact absurd z.symm e
        · exact z
      rw [ih hm', List.idxOf_cons]
      have : (c == u) = false := beq_eq_false_iff_ne.mpr e
      simp [e, this]
/-- t.index(u) -/
theorem DE_idxU {us : List U} {u : U} (hu : X.A.units + 64 < cLine) (ha : DE X a ρ μ (.gtup (us.map uD)) μ1) (hb : DE X b ρ μ1 (uD u) μ2) (hm : u ∈ us) (hbase : attributeBase a "index" X.env (eval a X.env) = eval a X.env := by rfl)
    (hfew : ((backTo cpos (starEach [b] X.env)).all (fun x => !x.1) && (backToKw cpos (keywordEach [] X.env)).all (fun x => x.1.isSome)
      && decide (([b] : List Expr).length + ([] : List Keyword).length + (if ([] : List Keyword).isEmpty then 0 else 1) < 30)) = true := by rfl)
    (hline : (apos.endLine == cpos.line) = true := by rfl) (hs : starEach [b] X.env = (false, eval b X.env) :: starEach [] X.env := by rfl) (hplain : (backTo cpos (starEach [] X.env)).any (·.1) = false := by rfl) :
    DE X (.Call (.Attribute a "index" apos) [b] [] cpos) ρ μ (.int ((us.idxOf u : Nat) : Int)) μ2 := fun B H σ Q S L k =>
  peW (pe_idxG hu pe_w pe_w hbase hfew hline hs hplain) (ha B H σ _ S L fun B1 H1 x i1 S1 r1 => by
    obtain ⟨p, ys, o, rfl, hp, od, q⟩ := r1
    refine ⟨p, o, ys, rfl, S1.sub _ _ hp, od, hb B1 H1 σ _ S1 (L.inc i1) fun B2 H2 y i2 S2 r2 => ?_⟩
    refine ⟨S2.sub _ _ (i2 _ _ hp), us.map pU, pU u, us.idxOf u, dps_of S2.sub _ _ _ (pys_map py_uD us) (q.inc i2), dp_of S2.sub _ _ _ (py_uD u) r2, plain_U us, ?_, ?_, place_U hm, k B2 H2 _ (i1.trans i2) S2 rfl⟩
    · simp [PyData.plain, pU, PyData.plainAll]
    · simp [pU, PyData.depth, PyData.depthAll])
end
end Od
namespace Od
open PySem PySem.Spec PyProof.Rows L2
section
variable {prog : Program} {w : World} {K : Type} [DecidableEq K] {knd : HeapKind prog w K} {A : Around} {E : Value → Shared → Prop} {s : Shared}
theorem call_dictH {o : Addr} {more : List (K × Addr × Value)} {Q : Value → Shared → Prop} (hu : knd.room A.in1.in1) (hoS : (o == sysModules) = false) (ho : s.heap.DictOfH knd o more) (hsz : more.length ≤ sizeLine)
    (hap : ((more.map (·.1)).map knd.hash).Nodup) (hpush : (s.heap.push { cls := .type "dict", data := .dict #[] }).DictOfH knd o more)
    (hty : ∀ x ∈ more, ({ s with heap := s.heap.push { cls := .type "dict", data := .dict #[] } } : Shared).TypeIs (.ref x.2.1) "tuple")
    (h : ∀ h', h'.DictOfH knd s.heap.objs.size more → Heap.SameBut s.heap.objs.size (s.heap.push { cls := .type "dict", data := .dict #[] }) h' → Q (.ref s.heap.objs.size) { s with heap := h' }) :
    wpAny (model prog w) A (call (.type "dict") [.ref o]) Q E s := by
  refine callType_codes (Q₁ := fun obj s₁ => obj = .ref s.heap.objs.size ∧ s₁ = { s with heap := s.heap.push { cls := .type "dict", data := .dict #[] } }) F.kt_called_dict (F.kt_typeCall_dict_1 _) F.entry_dict_init (kt_code_dict_new _ ⟨rfl, rfl⟩) ?_
  rintro obj s₁ ⟨rfl, rfl⟩
  have hnew : (s.heap.push { cls := .type "dict", data := .dict #[] }).DictOfH knd s.heap.objs.size [] := Heap.DictOfH.new s.heap
  have hn : (more.map (·.1)).Nodup := let ⟨_, _, _, _, _, _, _, _, hn⟩ := ho; hn
  have hdo : s.heap.objs.size ≠ o := by
    obtain ⟨_, _, _, hg, _⟩ := ho
    exact fun e => absurd (Heap.lt_size hg) (by rw [e]; exact Nat.lt_irrefl _)
  refine ⟨hnew.typeIs, F.args_dict_init_2 _ _, ?_⟩
  unfold Builtin.«dict.__init__»
  refine wpAny_bind ?_
  unfold Builtin.Dict.selfAndRest
  refine wpAny_bind (wpAny_notOrdered_dict hnew.typeIs ?_)
  show wpAny _ _ (pure (s.heap.objs.size, [Value.ref o])) _ _ _
  refine wpAny_pure ?_
  show wpAny _ _ (Builtin.Dict.updateFrom "dict.__init__" s.heap.objs.size (.ref o) [] .none) _ _ _
  unfold Builtin.Dict.updateFrom
  refine wpAny_bind (wpAny_typeOf hpush.typeIs ?_)
  rw [if_neg (by decide)]
  refine wpAny_bind ?_
  unfold Builtin.Dict.merge
  refine wpAny_bind ?_
  unfold Builtin.Dict.readDirectly
  refine wpAny_bind (wpAny_isInstance hpush.typeIs isSubtype_dict_dict ?_)
  simp only [Bool.not_true, Bool.false_eq_true, if_false]
  refine wpAny_bind (wpAny_specialOf hpush.typeIs F.slot_dict_iter.lookup (wpAny_pure ?_))
  simp only [beq_self_eq_true, if_true]
  refine wpAny_bind (wpAny_pure ?_)
  refine wpAny_mergeDict_heap (hsz := by simpa using hsz) hu hdo hoS hnew hpush (.inr ⟨hty, by rw [List.map_map] at hap; exact hap⟩) fun h' hd' _ hs' => ?_
  show wpAny _ _ (Builtin.Dict.addKeywords s.heap.objs.size [] >>= _) _ _ _
  rw [storedAllH_nil_of_nodup more hn] at hd'
  exact wpAny_bind (wpAny_pure (wpAny_pure ⟨rfl, h h' hd' hs'⟩))
end
def hU (u : U) : Int := reduceHash (Builtin.Tuple.tupleHashOf ((uK u).map fun i => hashInt i))
theorem hU_eq (prog : Program) (w : World) (u : U) : (tupleKind (mixKind prog w)).hash (kUK u) = hU u := by
  show reduceHash (Builtin.Tuple.tupleHashOf ((kUK u).map (keyH w))) = _
  unfold kUK hU
  rw [List.map_map]; rfl
def boxU : List U := (List.range 2).flatMap fun p => (List.range 5).flatMap fun i => (List.range 4).map fun w => (((p : Nat) : Int), ((i : Nat) : Int), ((w : Nat) : Int))
theorem apart : (boxU.map hU).Nodup := by decide +kernel
theorem hash_map {prog : Program} {w : World} : ∀ us : List U, (us.map kUK).map (tupleKind (mixKind prog w)).hash = us.map hU
  | [] => rfl
  | u :: us => by rw [List.map_cons, List.map_cons, List.map_cons, hash_map us, hU_eq]
theorem kt_keys {H : Hp} {kvs : List (List Key × V)} {xs : List (List Key × Addr × Value)} (r : KT H kvs xs) : xs.map (·.1) = kvs.map (·.1) ∧ ∀ x ∈ xs, H x.2.1 = some (.tup (x.1.map kV)) := by
  induction r with
  | nil => exact ⟨rfl, fun x hx => nomatch hx⟩
  | @cons p q ps qs h t ih =>
    obtain ⟨h1, h2, _⟩ := h
    refine ⟨by rw [List.map_cons, List.map_cons, ih.1, h1], fun x hx => ?_⟩
    rcases List.mem_cons.mp hx with z | z
    · rw [z, ← h1]; exact h2
    · exact ih.2 x z
section
variable {X : Cx} {a : Expr} {ρ : Rho} {μ μ1 : Mu} {d1 : D} {pos cp : Pos} {ks : List (List Int × D)} {us : List U}
theorem cr_dictU (hu : X.A.units + 64 < cLine) : CallR X (.type "dict") (fun xs H Q => ∃ (a : Addr) (kvs : List (List Key × V)) (us : List U), xs = [.ref a] ∧ Rd H a (.dT kvs) ∧ kvs.map (·.1) = us.map kUK ∧ (us.map hU).Nodup ∧ ∀ p, H p = none → Q (.ref p) (upd H p (.dT kvs))) := by
  intro pins s σ H xs ws Q I r q
  obtain ⟨ad, kvs, us, ex, hd, hk, hh, q⟩ := q
  subst ex
  obtain ⟨u, eu, rx⟩ := vals1 r
  subst eu
  cases rx
  obtain ⟨z, lo, ys, rel, dd⟩ := dt_rd I.hok hd
  obtain ⟨k1, k2⟩ := kt_keys rel
  have hm : (s.heap.objs.size == sysModules) = false := beq_eq_false_iff_ne.mpr (Nat.ne_of_gt I.big)
  have I1 := I.laid (a := s.heap.objs.size) (o := .dT []) (h' := s.heap.push { cls := .type "dict", data := .dict #[] }) (t' := s.toks) (fun _ _ q => Heap.get?_push_of_some _ q) (Nat.le_refl _) (dt_empty s.heap I.big)
  have ne : ∀ x ∈ ys, x.2.1 ≠ s.heap.objs.size := fun x hx => Nat.ne_of_lt (I.hok _ _ (k2 x hx)).lt
  have ty : ∀ x ∈ ys, s.TypeIs (.ref x.2.1) "tuple" := fun x hx => by
    obtain ⟨_, its, rv, o, h1, h2, _⟩ := (show ObjOk X.prog X.w H s.heap x.2.1 (.tup (x.1.map kV)) from I.hok _ _ (k2 x hx))
    exact ⟨o, h1, h2⟩
  have hhash : ((ys.map (·.1)).map (tupleKind (mixKind X.prog X.w)).hash).Nodup := by
    rw [k1, hk, hash_map]
    exact hh
  refine call_dictH (knd := tupleKind (mixKind X.prog X.w)) (show X.A.units + 1 + 1 < cLine by omega) lo dd (by rw [← Paired.length rel]; exact z) hhash ?_ (fun x hx => ?_) fun h' d' hs => ?_
  · obtain ⟨o, es, ep, ho, hc, hdt, he, his, hn⟩ := dd
    exact ⟨o, es, ep, Heap.get?_push_of_some _ ho, hc, hdt, he, fun x hx => key_of I1.hok (by rw [upd_ne (ne x hx)]; exact k2 x hx), hn⟩
  · obtain ⟨o, h1, h2⟩ := ty x hx
    exact ⟨o, Heap.get?_push_of_some _ h1, h2⟩
  · exact ⟨.ref s.heap.objs.size, upd H s.heap.objs.size (.dT kvs), I.laid (t' := s.toks) (fun b u e => (hs.2 b (Nat.ne_of_lt (Heap.lt_size e))).trans (Heap.get?_push_of_some _ e)) (Nat.le_refl _)
      (by
        obtain ⟨o, es, ep, ho, x2, x3, x4, _, x5⟩ := d'
        exact ⟨z, hm, ys, rel.keeps fun c yy ec => (by rw [upd_ne (Nat.ne_of_lt (I.hok _ _ ec).lt)]; exact ec), o, es, ep, ho, x2, x3, x4, x5⟩), rfl, q _ (I.hok.fresh (Nat.le_refl _))⟩
theorem box_apart {us : List U} (hn : us.Nodup) (hb : ∀ u ∈ us, u ∈ boxU) : (us.map hU).Nodup := by
  have inj : ∀ u ∈ boxU, ∀ v ∈ boxU, hU u = hU v → u = v := by
    have h := List.pairwise_map.mp apart
    intro u hu v hv e
    obtain ⟨i, hi⟩ := List.getElem?_of_mem hu
    obtain ⟨j, hj⟩ := List.getElem?_of_mem hv
    have a : (boxU.map hU)[i]? = some (hU u) := by rw [List.getElem?_map, hi]; rfl
    have b : (boxU.map hU)[j]? = some (hU u) := by rw [List.getElem?_map, hj, e]; rfl
    have := (List.getElem?_inj (List.getElem?_eq_some_iff.mp a).1 apart).mp (a.trans b.symm)
    subst this
    rw [hi] at hj
    exact Option.some.inj hj
  refine List.pairwise_map.mpr (List.Pairwise.imp_of_mem (fun {u v} hu hv hne e => hne (inj u (hb u hu) v (hb v hv) e)) hn)
theorem DN_dictU (hu : X.A.units + 64 < cLine) (hm : X.mg "dict" = none) (ha : DE X a ρ μ d1 μ1) (hd : DicAt X.K μ1 d1 ks) (hk : ks.map (·.1) = us.map uK) (hn : us.Nodup) (hb : ∀ u ∈ us, u ∈ boxU)
    (hg : Gl X "dict" := by rfl) (he : starEach [a] X.env = (false, eval a X.env) :: starEach [] X.env := by rfl) : DN X (.Call (.Name "dict" cp) [a] [] pos) ρ μ (.dic ks) μ1 :=
  DN_callTy (cr_dictU hu) (ds := [d1]) (fun B H xs Q S r k => by
    obtain ⟨x, rfl, rx⟩ := reps1 r
    obtain ⟨p, ws, rfl, e1, rk⟩ := hd.rd S rx
    refine ⟨p, ws, us, rfl, e1, ?_, box_apart hn hb, fun q hq => k B _ q (Inc.refl B) (S.newM hq ⟨ws, upd_same, rk⟩)⟩
    rw [repK_keys rk]
    have := congrArg (List.map fun k : List Int => (k.map Sum.inl : List Key)) hk
    rw [List.map_map, List.map_map] at this
    exact this) hm (by decide +kernel) (DA_cons ha DA_nil he) hg (he := he)
end
end Od
namespace Od
def updU {α : Type} (R : U → α) (u : U) (l : α) : U → α := fun x => if x = u then l else R x
theorem updU_same {α : Type} {R : U → α} {u : U} {l : α} : updU R u l u = l := if_pos rfl
theorem updU_ne {α : Type} {R : U → α} {u x : U} {l : α} (h : x ≠ u) : updU R u l x = R x := if_neg h
theorem updU_self {α : Type} {R : U → α} {u : U} : updU R u (R u) = R := by
  funext x
  unfold updU
  split
  · rename_i h; rw [h]
  · rfl
theorem updU_upd {α : Type} {R : U → α} {u : U} {l m : α} : updU (updU R u l) u m = updU R u m := by
  funext x
  unfold updU
  split <;> rfl
def llIn (R : U → List U) (u one : U) : U → List U := updU R u (addAll (R u) (R one))
def llU (R : U → List U) (u : U) : U → List U := (R u).foldl (fun R' one => llIn R' u one) R
def llTurn (ks : List U) (R : U → List U) : U → List U := ks.foldl llU R
def llN (ks : List U) (R : U → List U) : Nat → U → List U
  | 0 => R
  | k + 1 => llTurn ks (llN ks R k)
theorem addAll_sub {p b : List U} (h : ∀ x ∈ b, x ∈ p) : addAll p b = p := by
  induction b with
  | nil => rfl
  | cons o b ih =>
    show addAll (if o ∈ p then p else p ++ [o]) b = p
    rw [if_pos (h o (by simp))]
    exact ih fun x hx => h x (by simp [hx])
/-- R u: what it was at first, and nodes once each -/
def LlOk (ks : List U) (R0 R : U → List U) : Prop := ∀ u ∈ ks, ∃ e, R u = R0 u ++ e ∧ e.Nodup ∧ ∀ x ∈ e, x ∈ ks
theorem addAll_ok {ks r e b : List U} (h1 : e.Nodup) (h2 : ∀ x ∈ e, x ∈ ks) : (∀ x ∈ b, x ∈ ks) → ∃ e', addAll (r ++ e) b = r ++ e' ∧ e'.Nodup ∧ ∀ x ∈ e', x ∈ ks := by
  induction b generalizing e with
  | nil => exact fun _ => ⟨e, rfl, h1, h2⟩
  | cons o b ih =>
    intro hb
    show ∃ e', addAll (if o ∈ r ++ e then r ++ e else r ++ e ++ [o]) b = _ ∧ _
    split
    · exact ih h1 h2 fun x hx => hb x (by simp [hx])
    · rename_i hn
      rw [List.append_assoc]
      refine ih (e := e ++ [o]) ?_ (fun x hx => ?_) fun x hx => hb x (by simp [hx])
      · rw [List.nodup_append]
        exact ⟨h1, by simp, fun a ha c hc => by rw [List.mem_singleton] at hc; subst hc; exact fun z => hn (List.mem_append_right _ (z ▸ ha))⟩
      · rcases List.mem_append.mp hx with z | z
        · exact h2 x z
        · rw [List.mem_singleton] at z; subst z; exact hb _ (by simp)
theorem LlOk.sub {ks : List U} {R0 R : U → List U} (h : LlOk ks R0 R) (h0 : ∀ u ∈ ks, ∀ x ∈ R0 u, x ∈ ks) {u : U} (hu : u ∈ ks) : ∀ x ∈ R u, x ∈ ks := fun x hx => by
  obtain ⟨e, he, _, h2⟩ := h u hu
  rw [he] at hx
  exact (List.mem_append.mp hx).elim (h0 u hu x) (h2 x)
theorem LlOk.len {ks : List U} {R0 R : U → List U} (h : LlOk ks R0 R) {u : U} (hu : u ∈ ks) : (R u).length ≤ (R0 u).length + ks.length := by
  obtain ⟨e, he, h1, h2⟩ := h u hu
  have := nodup_len h1 h2
  rw [he, List.length_append]
  omega
theorem LlOk.add {ks : List U} {R0 R : U → List U} (h : LlOk ks R0 R) {u : U} (hu : u ∈ ks) {b : List U} (hb : ∀ x ∈ b, x ∈ ks) : LlOk ks R0 (updU R u (addAll (R u) b)) := fun v hv => by
  by_cases e : v = u
  · subst e
    rw [updU_same]
    obtain ⟨e, he, h1, h2⟩ := h v hv
    rw [he]
    exact addAll_ok h1 h2 hb
  · rw [updU_ne e]; exact h v hv
theorem llU_ok {ks : List U} {R0 : U → List U} (h0 : ∀ u ∈ ks, ∀ x ∈ R0 u, x ∈ ks) {u : U} (hu : u ∈ ks) : ∀ {l : List U} {R : U → List U}, LlOk ks R0 R → (∀ x ∈ l, x ∈ ks) → LlOk ks R0 (l.foldl (fun R' one => llIn R' u one) R)
  | [], R, h, _ => h
  | o :: l, R, h, hl => llU_ok h0 hu (l := l) (h.add hu (h.sub h0 (hl o (by simp)))) fun x hx => hl x (by simp [hx])
theorem llT_ok {ks : List U} {R0 : U → List U} (h0 : ∀ u ∈ ks, ∀ x ∈ R0 u, x ∈ ks) : ∀ {l : List U} {R : U → List U}, LlOk ks R0 R → (∀ x ∈ l, x ∈ ks) → LlOk ks R0 (l.foldl llU R)
  | [], R, h, _ => h
  | o :: l, R, h, hl => llT_ok h0 (l := l) (llU_ok h0 (hl o (by simp)) h (h.sub h0 (hl o (by simp)))) fun x hx => hl x (by simp [hx])
theorem llN_ok {ks : List U} {R0 : U → List U} (h0 : ∀ u ∈ ks, ∀ x ∈ R0 u, x ∈ ks) : ∀ k, LlOk ks R0 (llN ks R0 k)
  | 0 => fun u _ => ⟨[], by simp [llN], List.nodup_nil, fun x hx => nomatch hx⟩
  | k + 1 => llT_ok h0 (llN_ok h0 k) fun x hx => hx
end Od
namespace Od
open PySem PySem.Spec PyProof.Rows L2
theorem Sat.perm {K : PySem.W.Frag} {B H : Hp} {μ μ' : Mu} (S : Sat K B H μ) (h : μ.Perm μ') : Sat K B H μ' :=
  ⟨S.sub, (h.map (·.1)).nodup_iff.mp S.nd, fun p hp => S.own p (h.mem_iff.mpr hp)⟩
def famM (ks : List U) (A : U → Addr) (R : U → D) : Mu := ks.map fun u => (A u, R u)
theorem famM_get {ks : List U} {A : U → Addr} {R : U → D} {u : U} (h : u ∈ ks) (μ : Mu) : (famM ks A R ++ μ)[ks.idxOf u]? = some (A u, R u) := by
  have hi := List.idxOf_lt_length_of_mem h
  have hl : ks.idxOf u < (famM ks A R).length := by unfold famM; rw [List.length_map]; exact hi
  rw [List.getElem?_append_left hl]
  unfold famM
  rw [List.getElem?_map, List.getElem?_eq_getElem hi]
  simp only [Option.map_some, List.getElem_idxOf]
theorem famM_set {ks : List U} {A : U → Addr} {R : U → D} {u : U} (hn : ks.Nodup) (h : u ∈ ks) (d : D) (μ : Mu) : (famM ks A R ++ μ).set (ks.idxOf u) (A u, d) = famM ks A (updU R u d) ++ μ := by
  have hi := List.idxOf_lt_length_of_mem h
  have hl : ks.idxOf u < (famM ks A R).length := by unfold famM; rw [List.length_map]; exact hi
  rw [List.set_append_left _ _ hl]
  congr 1
  apply List.ext_getElem?
  intro i
  unfold famM
  rw [List.getElem?_map]
  by_cases e : ks.idxOf u = i
  · subst e
    rw [List.getElem?_set_self (by rw [List.length_map]; exact hi), List.getElem?_eq_getElem hi]
    simp only [Option.map_some, List.getElem_idxOf, updU_same]
  · rw [List.getElem?_set_ne e, List.getElem?_map]
    cases hx : ks[i]? with
    | none => rfl
    | some x =>
      have : x ≠ u := fun z => by
        subst z
        obtain ⟨h1, h2⟩ := List.getElem?_eq_some_iff.mp hx
        have := List.Nodup.idxOf_getElem hn i h1
        rw [h2] at this
        exact e this
      simp only [Option.map_some, updU_ne this]
/-- the whole family stays as it is from now on -/
theorem Sat.freezeAll {K : PySem.W.Frag} {H : Hp} {A : U → Addr} {R : U → D} : ∀ {ks : List U} {B : Hp} {μ : Mu}, Sat K B H (famM ks A R ++ μ) → ∃ B', Inc B B' ∧ Sat K B' H μ ∧ ∀ u ∈ ks, Rep K B' (R u) (.ref (A u))
  | [], B, μ, S => ⟨B, Inc.refl B, S, fun u hu => nomatch hu⟩
  | u :: ks, B, μ, S => by
    obtain ⟨B1, i1, S1, r1⟩ := Sat.freeze (μ1 := []) (a := A u) (c := R u) (μ2 := famM ks A R ++ μ) S
    obtain ⟨B2, i2, S2, r2⟩ := Sat.freezeAll (ks := ks) (B := B1) (μ := μ) S1
    refine ⟨B2, i1.trans i2, S2, fun v hv => ?_⟩
    rcases List.mem_cons.mp hv with e | e
    · rw [e]; exact r1.inc i2
    · exact r2 v e
theorem RepK.fam {K : PySem.W.Frag} {B : Hp} {A : U → Addr} {R : U → D} : ∀ {ks : List U} {ws : List (List Key × V)}, (∀ u ∈ ks, Rep K B (R u) (.ref (A u))) → RepK K B (mapD ks fun u => .ptr (A u)) ws → RepK K B (mapD ks R) ws
  | [], _, _, h => h
  | u :: ks, _, hr, h => by
    obtain ⟨x, r, rfl, h1, h2⟩ := h
    cases (show x = .ref (A u) from h1)
    exact ⟨_, _, rfl, hr u (by simp), RepK.fam (ks := ks) (fun v hv => hr v (by simp [hv])) h2⟩
section
variable {X : Cx} {e a b c : Expr} {sts : List Stmt} {ρ : Rho} {μ μ1 μ2 μ3 : Mu} {d : D} {pos px : Pos} {P : Out → Prop}
theorem DSs_perm (h : DSs X sts ρ μ1 P) (s : μ.Perm μ1) : DSs X sts ρ μ P := fun B H σ Dn S L k => h B H σ Dn (S.perm s) L k
theorem DSs_freezeAll (i : Nat) {ks : List U} {A : U → Addr} {R : U → D} (hr : ρ[i]? = some (some (.dic (mapD ks fun u => .ptr (A u)))) := by rfl) (h : DSs X sts (ρ.set i (some (.dic (mapD ks R)))) μ P) : DSs X sts ρ (famM ks A R ++ μ) P := fun B H σ Dn S L k => by
  obtain ⟨B', i', S', r⟩ := S.freezeAll
  refine h B' H σ Dn S' ((L.inc i').reput hr fun v rv => ?_) fun o q => (k o q).inc i'
  obtain ⟨p, ws, e1, e2, e3⟩ := rv
  exact ⟨p, ws, e1, e2, e3.fam r⟩
/-- d[u] = a new thing that may be written -/
theorem DS_putN (n : Nat) {p : Addr} {u : U} {ks : List (List Int × D)} (hu : X.A.units + 1 < cLine) (hv : DN X e ρ μ d μ1) (ha : ∀ q : Addr, DE X a ρ ((q, d) :: μ1) (.ptr p) ((q, d) :: μ1)) (hb : ∀ q : Addr, DE X b ρ ((q, d) :: μ1) (uD u) ((q, d) :: μ1)) (hl : ks.length < 16777216)
    (h : ∀ q : Addr, P (.nx ρ ((q, d) :: μ1.set n (p, .dic (putD ks (uK u) (.ptr q))))))
    (hn : μ1[n]? = some (p, .dic ks) := by rfl) (hs : swapsWith e (some (.Subscript a b px)) pos.line X.env = pure false := by rfl) : DS X (.Assign [.Subscript a b px] e pos) ρ μ P := fun B H σ Dn S L k =>
  psW (ps_dput hu pe_w pe_w pe_w hs) (hv B H σ _ S L fun B1 H1 w i1 S1 => ha w B1 H1 σ _ S1 (L.inc i1) fun B2 H2 x i2 S2 r2 => hb w B2 H2 σ _ S2 (L.inc (i1.trans i2)) fun B3 H3 y i3 S3 r3 => by
    cases (show x = .ref p from r2)
    have hn' : ((w, d) :: μ1)[n + 1]? = some (p, .dic ks) := hn
    obtain ⟨ws, h1, q1⟩ := own_dic S3 hn'
    obtain ⟨q, rfl, hq⟩ := uD_key r3
    refine ⟨p, _, rfl, DPut.t h1 (S3.sub _ _ hq) (by rw [q1.length, sizeLine_eq]; exact hl), k _ (h w) B3 _ σ ((i1.trans i2).trans i3) (S3.write hn' ⟨_, upd_same, q1.put (uK u) (show Rep X.K B3 (.ptr w) (.ref w) from rfl)⟩) (L.inc ((i1.trans i2).trans i3))⟩)
end
end Od
namespace Od
open PySem PySem.Spec PyProof.Rows L2
def lsD (R : U → List U) : U → D := fun u => .lst ((R u).map uD)
theorem lsD_upd {R : U → List U} {u : U} {l : List U} : updU (lsD R) u (.lst (l.map uD)) = lsD (updU R u l) := by
  funext x
  unfold updU lsD
  by_cases h : x = u <;> simp [h]
def spLLeads : Dsp := fun ds μ d μ' => ds.length = 3 ∧ ∃ lv T part cut, ds = [LD lv T, blkD part, uD cut] ∧ SG lv (tS T) ∧ (∀ u ∈ part, u ∈ lv) ∧ part.Nodup ∧ d = usesD (besN part cut) (llN (besN part cut) (ledE (tS T) part cut) part.length) ∧ μ = μ'
abbrev n_l_leads : List Str := ["_law_live_here", "_law_part", "_law_cut", "_law_reach", "_law_unknown", "_law_one", "_law_turn", "_law_other"]
theorem sc_l_leads : FnScope n_l_leads ["_law_live_here", "_law_part", "_law_cut"] d_l_leads.scope := ⟨rfl, rfl, rfl, by decide +kernel, rfl, by decide +kernel, by decide +kernel⟩
theorem c_l_leads {g : Gv} (G : Gd g) : Ctr g 2 "_law_leads" (spD g.K spLLeads) := by
  obtain ⟨fd, F⟩ := G.def_ 57 (d := d_l_leads) rfl
  refine ⟨_, G.glo "_law_leads", F.kp, fn_of_body F sc_l_leads (F.bindsN fun _ _ _ _ _ _ us hl => match us, hl with | [_, _, _], _ => rfl) (fun _ _ _ _ h => h.1) fun l ds μ d μ' R h => ?_⟩
  obtain ⟨-, h⟩ := h
  have nd := sc_l_leads.nd
  obtain ⟨lv, T, part, cut, rfl, GS, hp, hn, rfl, rfl⟩ := h
  have hu : (cX g l n_l_leads d_l_leads.scope).A.units + 1 < cLine := by have := R.un; omega
  have hu64 : (cX g l n_l_leads d_l_leads.scope).A.units + 64 < cLine := R.units
  have hu65 : (cX g l n_l_leads d_l_leads.scope).A.units + 65 < cLine := by have := R.un; omega
  have hl : part.length ≤ 40 := Nat.le_trans (nodup_len hn hp) GS.len
  have Gu := led_gr GS (cut := cut) hp hn
  have hled : ∀ u ∈ besN part cut, (ledE (tS T) part cut u).length ≤ 20 := fun u hu => Nat.le_trans (List.length_filter_le _ _) (GS.fac_len (hp u (List.mem_filter.mp hu).1))
  have hks : (besN part cut).length ≤ 40 := Nat.le_trans (List.length_filter_le _ _) hl
  generalize hE : ledE (tS T) part cut = E at *
  refine DSs_cons (DS_setN 3 DN_dic (fun q => ?_) nd)
  refine DSs_cons (DS_for (DI_tup (DE_var 1)) (fun i ρ μ' => ∃ (A : U → Addr) (x4 x5 x6 x7 : Option D), ρ = [some (LD lv T), some (blkD part), some (uD cut), some (.ptr q), x4, x5, x6, x7] ∧ μ' = (q, .dic (mapD (besN (part.take i) cut) fun u => .ptr (A u))) :: (famM (besN (part.take i) cut) A (lsD E) ++ μ)) ⟨fun _ => q, _, _, _, _, rfl, rfl⟩ (fun _ _ _ _ => trivial) ?_ ?_)
  · rintro i d ρ μ' hi ⟨A, x4, x5, x6, x7, rfl, rfl⟩
    rw [List.getElem?_map] at hi
    cases hx : part[i]? with
    | none => rw [hx] at hi; cases hi
    | some u =>
      rw [hx] at hi; cases hi
      have hm := List.mem_of_getElem? hx
      have hnew : u ∉ besN (part.take i) cut := fun h => not_in_take hn hx (List.mem_filter.mp h).1
      refine ⟨_, _, DG_name 4 nd, ?_⟩
      refine DSs_cons (DS_if (DT_neU hu64 (DE_var 4) (DE_var 2)) (fun c => ?_) fun c => ?_)
      · have c : ¬ u = cut := by simpa using c
        refine DSs_cons (DS_putN 0 (ks := mapD (besN (part.take i) cut) fun u => .ptr (A u)) (d := .lst ((E u).map uD)) hu (lcP [("_law_one", 5)] (facR (tS T) u) uD (fun o => decide (o ∈ part) && !decide (o = cut)) uD (DI_lst (DE_call (c_l_factors G) R (DA_cons (DE_var 0) (DA_cons (DE_var 4) DA_nil)) ⟨rfl, lv, T, u, rfl, GS, hp u hm, rfl, rfl⟩)) rfl (fun _ _ => trivial) (fun x hx a l => ⟨_, _, fun s0 H0 Cc cl fp => DG_name 5 nd, by decide, fun s0 H0 Cc cl fp => DTs_one (DW.dt (DW_and (DT_inU hu65 (DE_var 5) (DE_var 1) .tu) fun _ => DW_and1 (DT_neU hu64 (DE_var 5) (DE_var 2)))), fun _ => fun s0 H0 Cc cl fp => (DE_var 5)⟩) nd (by rw [← hE]; rfl)) (fun _ => (DE_var 3)) (fun _ => (DE_var 4)) ?_ (fun a => ?_))
        · unfold mapD besN
          rw [List.length_map]
          have := List.length_filter_le (fun u => !decide (u = cut)) (part.take i)
          rw [List.length_take] at this
          omega
        · have eb : besN (part.take (i + 1)) cut = besN (part.take i) cut ++ [u] := by
            unfold besN
            rw [take_get hx, List.filter_append, List.filter_cons_of_pos (by simp [c])]
            rfl
          have same : ∀ v ∈ besN (part.take i) cut, updU A u a v = A v := fun v hv => updU_ne fun e => hnew (e ▸ hv)
          have e1 : putD (mapD (besN (part.take i) cut) fun u => .ptr (A u)) (uK u) (.ptr a) = mapD (besN (part.take (i + 1)) cut) fun v => .ptr (updU A u a v) := by
            rw [putD_new (us := besN (part.take i) cut) hnew, eb]
            unfold mapD
            rw [List.map_append]
            congr 1
            · exact List.map_congr_left fun v hv => by show (uK v, D.ptr (A v)) = (uK v, D.ptr (updU A u a v)); rw [same v hv]
            · simp only [List.map_cons, List.map_nil, updU_same]
          have e2 : famM (besN (part.take (i + 1)) cut) (updU A u a) (lsD E) = famM (besN (part.take i) cut) A (lsD E) ++ [(a, lsD E u)] := by
            rw [eb]
            unfold famM
            rw [List.map_append]
            congr 1
            · exact List.map_congr_left fun v hv => by show (updU A u a v, lsD E v) = (A v, lsD E v); rw [same v hv]
            · simp only [List.map_cons, List.map_nil, updU_same]
          refine DSs_nil ?_
          refine DSs_perm (μ1 := (q, .dic (mapD (besN (part.take (i + 1)) cut) fun v => .ptr (updU A u a v))) :: (famM (besN (part.take (i + 1)) cut) (updU A u a) (lsD E) ++ μ)) (DSs_nil ⟨updU A u a, some (uD u), x5, x6, x7, rfl, rfl⟩) ?_
          rw [e1, e2]
          show ((a, lsD E u) :: (q, _) :: (famM (besN (part.take i) cut) A (lsD E) ++ μ)).Perm _
          refine (List.Perm.swap _ _ _).trans (List.Perm.cons _ ?_)
          rw [List.append_assoc]
          exact List.perm_middle.symm
      · have c : u = cut := by simpa using c
        have e : besN (part.take (i + 1)) cut = besN (part.take i) cut := by
          unfold besN
          rw [take_get hx, List.filter_append, List.filter_cons_of_neg (by simp [c])]
          simp
        rw [e]
        exact DSs_nil (DSs_nil ⟨A, some (uD u), x5, x6, x7, rfl, rfl⟩)
  rintro ρ μ' ⟨A, x4, x5, x6, x7, rfl, rfl⟩
  rw [List.length_map, List.take_length]
  have ksn := Gu.nd
  have ksub := Gu.sub
  generalize hK : besN part cut = ks at *
  refine DSs_freeze 3 [] (h := ?_)
  have getA : ∀ u ∈ ks, getK (mapD ks fun u => .ptr (A u)) (uK u) = some (.ptr (A u)) := fun u hm => by rw [getK_map, if_pos hm]
  have hlp : (part.map uD).length = part.length := List.length_map _
  refine DSs_cons (DS_for (DI_range (n := part.length) (G.free "range") (DE.eq (DE_len (G.free "len") (DE_var 1) .tu) (by rw [hlp])) (by omega)) (fun k ρ μ' => ∃ (x4 x5 x6 x7 : Option D), ρ = [some (LD lv T), some (blkD part), some (uD cut), some (.dic (mapD ks fun u => .ptr (A u))), x4, x5, x6, x7] ∧ μ' = famM ks A (lsD (llN ks E k)) ++ μ) ⟨_, _, _, _, rfl, rfl⟩ (fun _ _ _ _ => trivial) ?_ ?_)
  · rintro k d ρ μ' hi ⟨x4, x5, x6, x7, rfl, rfl⟩
    have hst : llN ks E (k + 1) = llTurn ks (llN ks E k) := rfl
    have ok0 := llN_ok (ks := ks) (R0 := E) ksub k
    rw [hst]
    generalize llN ks E k = R0 at *
    refine ⟨_, _, DG_name 6 nd, ?_⟩
    refine DSs_cons (DS_forD (DV_var 3) (fun i ρ μ' => ∃ (x4 x5 x7 : Option D), ρ = [some (LD lv T), some (blkD part), some (uD cut), some (.dic (mapD ks fun u => .ptr (A u))), x4, x5, some d, x7] ∧ μ' = famM ks A (lsD ((ks.take i).foldl llU R0)) ++ μ) ⟨_, _, _, rfl, rfl⟩ ?_ ?_)
    · rintro i kk dd ρ μ' hi ⟨x4, x5, x7, rfl, rfl⟩
      unfold mapD at hi
      rw [List.getElem?_map] at hi
      cases hx : ks[i]? with
      | none => rw [hx] at hi; cases hi
      | some u =>
        rw [hx] at hi; cases hi
        have hm := List.mem_of_getElem? hx
        have ok1 := llT_ok (R0 := E) ksub (l := ks.take i) ok0 fun x hx => List.mem_of_mem_take hx
        rw [take_get hx, List.foldl_append]
        generalize (ks.take i).foldl llU R0 = R1 at *
        have sub1 := ok1.sub ksub hm
        show ∃ ρ' is, _ ∧ DSs _ _ _ _ (LoopP (fun ρ μ' => ∃ x4 x5 x7, ρ = _ ∧ μ' = famM ks A (lsD (llU R1 u)) ++ μ) _)
        unfold llU
        refine ⟨_, _, DG_name 4 nd, ?_⟩
        refine DSs_cons (DS_for (DI_lst (DN.de (DN_list (G.free "list") (DE_dget hu (DE_var 3) (DE_var 4) .fz (getA u hm)) (.pt (ks.idxOf u) (famM_get hm μ))))) (fun j ρ μ' => ∃ (x5 x7 : Option D), ρ = [some (LD lv T), some (blkD part), some (uD cut), some (.dic (mapD ks fun u => .ptr (A u))), some (uD u), x5, some d, x7] ∧ μ' = famM ks A (lsD (((R1 u).take j).foldl (fun R' one => llIn R' u one) R1)) ++ μ) ⟨x5, x7, rfl, rfl⟩ (fun _ _ _ _ => trivial) ?_ ?_)
        · rintro j d2 ρ μ' hi ⟨x5, x7, rfl, rfl⟩
          unfold lsD at hi
          rw [List.getElem?_map] at hi
          cases hx2 : (R1 u)[j]? with
          | none => rw [hx2] at hi; cases hi
          | some o =>
            rw [hx2] at hi; cases hi
            have ho := sub1 o (List.mem_of_getElem? hx2)
            have ok2 := llU_ok (R0 := E) ksub hm (l := (R1 u).take j) ok1 fun x hx => sub1 x (List.mem_of_mem_take hx)
            rw [take_get hx2, List.foldl_append]
            generalize ((R1 u).take j).foldl (fun R' one => llIn R' u one) R1 = R2 at *
            have sub2 := ok2.sub ksub ho
            show ∃ ρ' is, _ ∧ DSs _ _ _ _ (LoopP (fun ρ μ' => ∃ x5 x7, ρ = _ ∧ μ' = famM ks A (lsD (updU R2 u (addAll (R2 u) (R2 o)))) ++ μ) _)
            refine ⟨_, _, DG_name 5 nd, ?_⟩
            have inv : ∀ m, LlOk ks E (updU R2 u (addAll (R2 u) ((R2 o).take m))) ∧ updU R2 u (addAll (R2 u) ((R2 o).take m)) o = R2 o := fun m => by
              refine ⟨ok2.add hm fun x hx => sub2 x (List.mem_of_mem_take hx), ?_⟩
              by_cases e : o = u
              · subst e
                rw [updU_same, addAll_sub fun x hx => List.mem_of_mem_take hx]
              · rw [updU_ne e]
            refine DSs_cons (DS_for (DI_ptr (ks.idxOf o) (DE_dget hu (DE_var 3) (DE_var 5) .fz (getA o ho)) (famM_get ho μ)) (fun m ρ μ' => ∃ (x7 : Option D), ρ = [some (LD lv T), some (blkD part), some (uD cut), some (.dic (mapD ks fun u => .ptr (A u))), some (uD u), some (uD o), some d, x7] ∧ μ' = famM ks A (lsD (updU R2 u (addAll (R2 u) ((R2 o).take m)))) ++ μ) ⟨x7, rfl, by rw [List.take_zero]; show _ = famM ks A (lsD (updU R2 u (R2 u))) ++ μ; rw [updU_self]⟩ (fun m ρ μ' hh => ?_) ?_ ?_)
            · obtain ⟨x7, rfl, rfl⟩ := hh
              refine ⟨ks.idxOf o, ?_⟩
              rw [famM_get ho μ]
              unfold lsD
              rw [(inv m).2]
            · rintro m d3 ρ μ' hi ⟨x7, rfl, rfl⟩
              unfold lsD at hi
              rw [List.getElem?_map] at hi
              cases hx3 : (R2 o)[m]? with
              | none => rw [hx3] at hi; cases hi
              | some f =>
                rw [hx3] at hi; cases hi
                obtain ⟨ok3, _⟩ := inv m
                have hlen := ok3.len hm
                have h20 := hled u hm
                rw [updU_same] at hlen
                rw [take_get hx3, addAll_snoc]
                generalize addAll (R2 u) ((R2 o).take m) = l3 at *
                refine ⟨_, _, DG_name 7 nd, ?_⟩
                have gu : (famM ks A (lsD (updU R2 u l3)) ++ μ)[ks.idxOf u]? = some (A u, .lst (l3.map uD)) := by
                  rw [famM_get hm μ]
                  unfold lsD
                  rw [updU_same]
                refine DSs_cons (DS_if (DT_notinU hu65 (DE_var 7) (DE_dget hu (DE_var 3) (DE_var 4) .fz (getA u hm)) (.pt (ks.idxOf u) gu)) (fun c => ?_) fun c => ?_)
                · have c : f ∉ l3 := by simpa using c
                  refine DSs_cons (DS_expr (apd (ks.idxOf u) (DE_dget hu (DE_var 3) (DE_var 4) .fz (getA u hm)) (DE_var 7) (hn := gu) (hl := by rw [List.length_map]; omega) (hn1 := ⟨_, gu⟩)) ?_)
                  rw [famM_set ksn hm]
                  refine DSs_nil (DSs_nil ⟨some (uD f), rfl, ?_⟩)
                  rw [if_neg c, show l3.map uD ++ [uD f] = (l3 ++ [f]).map uD by rw [List.map_append]; rfl, lsD_upd, updU_upd]
                · have c : f ∈ l3 := by simpa using c
                  refine DSs_nil (DSs_nil ⟨some (uD f), rfl, ?_⟩)
                  rw [if_pos c]
            · rintro ρ μ' ⟨x7, rfl, rfl⟩
              refine DSs_nil ⟨some (uD o), x7, rfl, ?_⟩
              rw [List.length_map, List.take_length]
        · rintro ρ μ' ⟨x5, x7, rfl, rfl⟩
          refine DSs_nil ⟨some (uD u), x5, x7, rfl, ?_⟩
          rw [List.length_map, List.take_length]
    · rintro ρ μ' ⟨x4, x5, x7, rfl, rfl⟩
      unfold mapD
      rw [List.length_map, List.take_length]
      exact DSs_nil ⟨x4, x5, some d, x7, rfl, rfl⟩
  · rintro ρ μ' ⟨x4, x5, x6, x7, rfl, rfl⟩
    rw [show (rgD part.length).length = part.length by simp [rgD]]
    refine DSs_freezeAll 3 (h := ?_)
    exact DSs_cons (DS_ret (DE_var 3) Ret.rt)
end Od
namespace Od
open PySem PySem.Spec PyProof.Rows L2
def grpD (b : List U) : D := .gtup (b.map uD)
/-- the law's reach beside the cut -/
def lledR (T : U → List Term) (part : List U) (cut : U) : U → List U := llN (besN part cut) (ledE (tS T) part cut) part.length
def lgrpR (T : U → List Term) (part : List U) (cut : U) : List (List U) := (lpN (lledR T part cut) ⟨besN part cut, [], []⟩ part.length).listed
def spLGroups : Dsp := fun ds μ d μ' => ds.length = 3 ∧ ∃ lv T part cut, ds = [LD lv T, blkD part, uD cut] ∧ SG lv (tS T) ∧ (∀ u ∈ part, u ∈ lv) ∧ part.Nodup ∧ d = .lst ((lgrpR T part cut).map grpD) ∧ μ = μ'
abbrev n_l_groups : List Str := ["_law_live_here", "_law_part", "_law_cut", "_law_reach", "_law_left", "_law_unknown", "_law_found", "_law_done", "_law_turn", "_law_own", "_law_one"]
theorem sc_l_groups : FnScope n_l_groups ["_law_live_here", "_law_part", "_law_cut"] d_l_groups.scope := ⟨rfl, rfl, rfl, by decide +kernel, rfl, by decide +kernel, by decide +kernel⟩
theorem c_l_groups {g : Gv} (G : Gd g) : Ctr g 3 "_law_groups" (spD g.K spLGroups) := by
  obtain ⟨fd, F⟩ := G.def_ 58 (d := d_l_groups) rfl
  refine ⟨_, G.glo "_law_groups", F.kp, fn_of_body F sc_l_groups (F.bindsN fun _ _ _ _ _ _ us hl => match us, hl with | [_, _, _], _ => rfl) (fun _ _ _ _ h => h.1) fun l ds μ d μ' R h => ?_⟩
  obtain ⟨-, h⟩ := h
  have nd := sc_l_groups.nd
  obtain ⟨lv, T, part, cut, rfl, GS, hp, hn, rfl, rfl⟩ := h
  have hu : (cX g l n_l_groups d_l_groups.scope).A.units + 1 < cLine := by have := R.un; omega
  have hu64 : (cX g l n_l_groups d_l_groups.scope).A.units + 64 < cLine := R.units
  have hu65 : (cX g l n_l_groups d_l_groups.scope).A.units + 65 < cLine := by have := R.un; omega
  have hl : part.length ≤ 40 := Nat.le_trans (nodup_len hn hp) GS.len
  have hks : (besN part cut).length ≤ part.length := List.length_filter_le _ _
  refine DSs_cons (DS_set 3 (DE_call (c_l_leads G) R (DA_cons (DE_var 0) (DA_cons (DE_var 1) (DA_cons (DE_var 2) DA_nil))) ⟨rfl, lv, T, part, cut, rfl, GS, hp, hn, rfl, rfl⟩) ?_ nd)
  refine DSs_cons (DS_setLc 4 [("_law_unknown", 5)] part uD (fun u => !decide (u = cut)) uD (DI_tup (DE_var 1)) (fun _ _ => trivial) (fun u hm a l => ⟨_, _, fun s0 H0 Cc cl fp => DG_name 5 nd, by decide, fun s0 H0 Cc cl fp => DTs_one (DT_neU hu64 (DE_var 5) (DE_var 2)), fun _ => fun s0 H0 Cc cl fp => (DE_var 5)⟩) (fun q => ?_) nd)
  refine DSs_freeze 4 [] (h := ?_)
  refine DSs_cons (DS_setN 6 (DN_lst DA_nil) (fun L => ?_) nd)
  refine DSs_cons (DS_setN 7 (DN_lst DA_nil) (fun q3 => ?_) nd)
  refine DSs_freeze 7 [] (h := ?_)
  have hfold : llN (besN part cut) (ledE (tS T) part cut) part.length = lledR T part cut := rfl
  have hfold2 : (part.filter fun u => !decide (u = cut)) = besN part cut := rfl
  rw [hfold, hfold2]
  unfold lgrpR
  generalize lledR T part cut = RR
  generalize besN part cut = ks at *
  have getR : ∀ u ∈ ks, getK (mapD ks fun u => .lst ((RR u).map uD)) (uK u) = some (.lst ((RR u).map uD)) := fun u hm => by rw [getK_map, if_pos hm]
  refine DSs_cons (DS_for (DI_range (n := part.length) (G.free "range") (DE.eq (DE_len (G.free "len") (DE_var 1) .tu) (by rw [List.length_map])) (by omega)) (fun k ρ μ' => ∃ (x5 x8 x9 x10 : Option D), ρ = [some (LD lv T), some (blkD part), some (uD cut), some (usesD ks RR), some (.lst ((lpN RR ⟨ks, [], []⟩ k).left.map uD)), x5, some (.ptr L), some (.lst ((lpN RR ⟨ks, [], []⟩ k).done.map uD)), x8, x9, x10] ∧ μ' = (L, .lst ((lpN RR ⟨ks, [], []⟩ k).listed.map grpD)) :: μ) ⟨_, _, _, _, rfl, rfl⟩ (fun _ _ _ _ => trivial) ?_ ?_)
  · rintro k d ρ μ' hi ⟨x5, x8, x9, x10, rfl, rfl⟩
    obtain ⟨rfl, hk⟩ := rgD_get hi
    have I := lpN_inv (lv := ks) (R := RR) k
    have hst : lpN RR ⟨ks, [], []⟩ (k + 1) = lpst RR (lpN RR ⟨ks, [], []⟩ k) := rfl
    rw [hst]
    have hdl : ks.length * k ≤ 1600 := Nat.mul_le_mul (by omega : ks.length ≤ 40) (by omega : k ≤ 40)
    generalize lpN RR ⟨ks, [], []⟩ k = s at *
    refine ⟨_, _, DG_name 8 nd, ?_⟩
    refine DSs_cons (DS_for (DI_lst (DE_var 4)) (fun j ρ μ' => ∃ (x5 x9 x10 : Option D), ρ = [some (LD lv T), some (blkD part), some (uD cut), some (usesD ks RR), some (.lst (s.left.map uD)), x5, some (.ptr L), some (.lst (s.done.map uD)), some (.int k), x9, x10] ∧ μ' = (L, .lst (s.listed.map grpD)) :: μ ∧ (s.left.take j).find? (lready s.left RR s.done) = none) ⟨_, _, _, rfl, rfl, by rw [List.take_zero]; rfl⟩ (fun _ _ _ _ => trivial) ?_ ?_)
    · rintro j d ρ μ' hi ⟨x5, x9, x10, rfl, rfl, hno⟩
      rw [List.getElem?_map] at hi
      cases hx : s.left[j]? with
      | none => rw [hx] at hi; cases hi
      | some u =>
        rw [hx] at hi; cases hi
        have hul := I.l u (List.mem_of_getElem? hx)
        refine ⟨_, _, DG_name 5 nd, ?_⟩
        refine DSs_cons (DS_setN 9 (d := .lst ((ownR s.left RR u).map uD)) (lcP [("_law_one", 10)] s.left uD (fun o => decide (o = u) || (decide (o ∈ RR u) && decide (u ∈ RR o))) uD (DI_lst (DE_var 4)) rfl (fun _ _ => trivial) (fun x hx a l => ⟨_, _, fun s0 H0 Cc cl fp => DG_name 10 nd, by decide, fun s0 H0 Cc cl fp => DTs_one (DW.dt (DW_or (DT_eqU hu64 (DE_var 10) (DE_var 5)) fun _ => DW_or1 (DW.dt (DW_and (DT_inU hu65 (DE_var 10) (DE_dget hu (DE_var 3) (DE_var 5) .fz (getR u hul)) .li) fun _ => DW_and1 (DT_inU hu65 (DE_var 5) (DE_dget hu (DE_var 3) (DE_var 10) .fz (getR x (I.l x hx))) .li))))), fun _ => fun s0 H0 Cc cl fp => (DE_var 10)⟩) nd rfl) (fun q4 => ?_) nd)
        refine DSs_freeze 9 [] (h := ?_)
        have ea : (((RR u).map fun o => decide (o ∈ ownR s.left RR u) || decide (o ∈ s.done)).all fun z => z) = lready s.left RR s.done u := by
          rw [List.all_map]
          unfold lready
          congr 1
          funext o
          exact Bool.or_comm _ _
        have hch : (ownR s.left RR u).length ≤ 40 := by
          have := ownR_len s.left RR u
          have := I.ln
          omega
        refine DSs_cons (DS_if (DT_val (DE_all_ (bs := (RR u).map fun o => decide (o ∈ ownR s.left RR u) || decide (o ∈ s.done)) (G.free "all") (DN.de (lcF [("_law_one", 10)] (RR u) uD (fun o => .bl (decide (o ∈ ownR s.left RR u) || decide (o ∈ s.done))) (DI_lst (DE_dget hu (DE_var 3) (DE_var 5) .fz (getR u hul))) rfl (fun _ _ => trivial) (fun o ho a l => ⟨_, _, fun s0 H0 Cc cl fp => DG_name 10 nd, by decide, fun s0 H0 Cc cl fp => DE_or (DE_inU hu65 (DE_var 10) (DE_var 9) .li) fun _ => DE_one (DE_inU hu65 (DE_var 10) (DE_var 7) .li)⟩) nd (by rw [List.map_map]; rfl))))) (fun c => ?_) fun c => ?_)
        · rw [ea] at c
          have hf : s.left.find? (lready s.left RR s.done) = some u := find_first (j := j) (fun x hx => by
            have := List.find?_eq_none.mp hno x hx
            simpa using this) hx c
          have es : lpst RR s = ⟨s.left.filter fun v => !decide (v ∈ ownR s.left RR u), s.listed ++ [ownR s.left RR u], s.done ++ ownR s.left RR u⟩ := by
            unfold lpst lpick
            rw [hf]; rfl
          have i1 := I.li
          have i2 := I.d
          refine DSs_cons (DS_expr (apd 0 (DE_var 6) (DE_tupG (G.free "tuple") (DE_var 9)) (hl := by rw [List.length_map]; omega)) ?_)
          refine DSs_cons (DS_setN 7 (DN_cat (DE_var 7) (DE_var 9) .li .li (by rw [List.length_map, List.length_map]; omega)) (fun q5 => ?_) nd)
          refine DSs_freeze 7 [] (h := ?_)
          refine DSs_cons (DS_setLc 4 [("_law_one", 10)] s.left uD (fun v => !decide (v ∈ ownR s.left RR u)) uD (DI_lst (DE_var 4)) (fun _ _ => trivial) (fun v hm a l => ⟨_, _, fun s0 H0 Cc cl fp => DG_name 10 nd, by decide, fun s0 H0 Cc cl fp => DTs_one (DT_notinU hu65 (DE_var 10) (DE_var 9) .li), fun _ => fun s0 H0 Cc cl fp => (DE_var 10)⟩) (fun q6 => ?_) nd)
          refine DSs_freeze 4 [] (h := ?_)
          refine DSs_cons (DS_brk ?_)
          refine DSs_nil ⟨some (uD u), some (.int k), some (.lst ((ownR s.left RR u).map uD)), x10, ?_, ?_⟩
          · rw [es, List.map_append]
            rfl
          · rw [es, List.map_append]
            rfl
        · rw [ea] at c
          refine DSs_nil (DSs_nil ⟨some (uD u), _, x10, rfl, rfl, ?_⟩)
          rw [take_get hx, List.find?_append, hno, Option.none_or, List.find?_cons_of_neg (by rw [c]; decide)]
          rfl
    · rintro ρ μ' ⟨x5, x9, x10, rfl, rfl, hno⟩
      rw [List.length_map, List.take_length] at hno
      have es : lpst RR s = s := by
        unfold lpst lpick
        rw [hno]; rfl
      rw [es]
      exact DSs_nil ⟨_, _, _, _, rfl, rfl⟩
  · rintro ρ μ' ⟨x5, x8, x9, x10, rfl, rfl⟩
    rw [show (rgD part.length).length = part.length by simp [rgD]]
    refine DSs_freeze 6 [] (h := ?_)
    exact DSs_cons (DS_ret (DE_var 6) Ret.rt)
end Od
namespace Od
open PySem PySem.Spec PyProof.Rows L2
section
variable {X : Cx} {a : Expr} {ρ : Rho} {μ μ1 : Mu} {pos : Pos} {i : Int}
theorem DE_neg (ha : DE X a ρ μ (.int i) μ1) : DE X (.UnaryOp .USub a pos) ρ μ (.int (-i)) μ1 := fun B H σ Q S L k =>
  peW (pe_un un_neg pe_w) (show tUn _ (wE X a) σ H Q from ha B H σ _ S L fun B1 H1 x i1 S1 r1 => ⟨i, r1, k B1 H1 _ i1 S1 rfl⟩)
end
def encL (m : Nat) (r : Nat → Rat) : List D := (List.range m).map fun j => qD (r j)
def encRow (m : Nat) (r : Nat → Rat) : D := .lst (encL m r)
def updN (r : Nat → Rat) (k : Nat) (x : Rat) : Nat → Rat := fun j => if j = k then x else r j
/-- a new thing said in another way -/
theorem DN.eqL {X : Cx} {e : Expr} {ρ : Rho} {μ μ1 : Mu} {c c' : D} (h : DN X e ρ μ c μ1) (q : c = c') : DN X e ρ μ c' μ1 := q ▸ h
theorem encL_len {m : Nat} {r : Nat → Rat} : (encL m r).length = m := by unfold encL; rw [List.length_map, List.length_range]
theorem encL_get {m : Nat} {r : Nat → Rat} {k : Nat} (h : k < m) : (encL m r)[k]? = some (qD (r k)) := by
  unfold encL
  rw [List.getElem?_map, List.getElem?_range h]; rfl
theorem encL_at {m : Nat} {r : Nat → Rat} {k : Nat} (h : k < m) : atI (encL m r) ((k : Nat) : Int) = some (qD (r k)) := by
  unfold atI
  have : ixN (encL m r).length ((k : Nat) : Int) = some k := by
    unfold ixN
    rw [encL_len, if_pos (by omega), if_pos (by omega)]; simp
  rw [this]
  exact encL_get h
theorem encL_last {m : Nat} {r : Nat → Rat} : atI (encL (m + 1) r) (-1) = some (qD (r m)) := by
  unfold atI
  have : ixN (encL (m + 1) r).length (-1) = some m := by
    unfold ixN
    rw [encL_len, if_neg (by omega), if_pos (by omega)]
    congr 1; omega
  rw [this]
  exact encL_get (by omega)
theorem encL_set {m : Nat} {r : Nat → Rat} {k : Nat} {x : Rat} : (encL m r).set k (qD x) = encL m (updN r k x) := by
  apply List.ext_getElem?
  intro j
  by_cases hj : j < m
  · by_cases e : k = j
    · subst e
      rw [List.getElem?_set_self (by rw [encL_len]; exact hj), encL_get hj]
      unfold updN; rw [if_pos rfl]
    · rw [List.getElem?_set_ne e, encL_get hj, encL_get hj]
      unfold updN; rw [if_neg fun z => e z.symm]
  · rw [List.getElem?_eq_none (by rw [List.length_set, encL_len]; omega), List.getElem?_eq_none (by rw [encL_len]; omega)]
end Od
namespace Od
open PySem PySem.Spec PyProof.Rows L2
def row0 (g : List U) (u : U) : Nat → Rat := fun j => if g[j]? = some u then 1 else 0
def rowStep (V : U → Rat) (g : List U) (r : Nat → Rat) (t : Term) : Option (Nat → Rat) :=
  match t.2.filter fun f => decide (f ∈ g) with
  | [] => (tvR V t.1 t.2).bind fun x => (addB (r g.length) x).map fun b => updN r g.length b
  | f :: _ => (tvR V t.1 (t.2.filter fun f => !decide (f ∈ g))).bind fun x => (addB (r (g.idxOf f)) (-x)).map fun b => updN r (g.idxOf f) b
def rowGo (V : U → Rat) (g : List U) : (Nat → Rat) → List Term → Option (Nat → Rat)
  | r, [] => some r
  | r, t :: ts => (rowStep V g r t).bind fun r' => rowGo V g r' ts
theorem rowGo_snoc (V : U → Rat) (g : List U) : ∀ (ts : List Term) (r : Nat → Rat) (t : Term), rowGo V g r (ts ++ [t]) = (rowGo V g r ts).bind fun r' => rowStep V g r' t
  | [], r, t => by
    show (rowStep V g r t).bind some = rowStep V g r t
    cases rowStep V g r t <;> rfl
  | s :: ts, r, t => by
    show (rowStep V g r s).bind _ = ((rowStep V g r s).bind _).bind _
    cases rowStep V g r s with
    | none => rfl
    | some r' => exact rowGo_snoc V g ts r' t
theorem rowGo_take {V : U → Rat} {g : List U} {ts : List Term} {r x : Nat → Rat} (h : rowGo V g r ts = some x) : ∀ i, ∃ y, rowGo V g r (ts.take i) = some y := by
  intro i
  induction ts generalizing r i with
  | nil => exact ⟨r, by simp [rowGo]⟩
  | cons t ts ih =>
    cases i with
    | zero => exact ⟨r, by simp [rowGo]⟩
    | succ i =>
      have h : (rowStep V g r t).bind (fun r' => rowGo V g r' ts) = some x := h
      show ∃ y, (rowStep V g r t).bind (fun r' => rowGo V g r' (ts.take i)) = some y
      cases e : rowStep V g r t with
      | none => rw [e] at h; cases h
      | some r' => rw [e] at h; exact ih h i
def spLRows : Dsp := fun ds μ d μ' => ds.length = 3 ∧ ∃ (lv : List U) (T : U → List Term) (grp : List U) (dv : D) (V : U → Rat) (Rm : Nat → Nat → Rat), ds = [LD lv T, grpD grp, dv] ∧ SG lv (tS T) ∧ (∀ u ∈ grp, u ∈ lv) ∧ grp.Nodup ∧ ValsAt μ dv lv V ∧
  (∀ (i : Nat) (u : U), grp[i]? = some u → rowGo V grp (row0 grp u) (T u) = some (Rm i)) ∧ d = .lst ((List.range grp.length).map fun i => encRow (grp.length + 1) (Rm i)) ∧ μ = μ'
theorem row0_enc {g : List U} {u : U} : (g.map fun o => (D.tup [.int (if decide (o = u) then 1 else 0), .int 1])) ++ [D.tup [.int 0, .int 1]] = encL (g.length + 1) (row0 g u) := by
  unfold encL
  rw [List.range_succ, List.map_append]
  congr 1
  · apply List.ext_getElem?
    intro j
    rw [List.getElem?_map, List.getElem?_map]
    by_cases hj : j < g.length
    · rw [List.getElem?_range hj, List.getElem?_eq_getElem hj]
      simp only [Option.map_some, Option.some.injEq]
      unfold row0
      rw [List.getElem?_eq_getElem hj]
      simp only [Option.some.injEq]
      by_cases e : g[j] = u
      · simp [e]; rfl
      · simp [e]; rfl
    · rw [List.getElem?_eq_none (by omega), List.getElem?_eq_none (by simp; omega)]; rfl
  · simp only [List.map_cons, List.map_nil]
    unfold row0
    rw [List.getElem?_eq_none (Nat.le_refl _)]
    rfl
abbrev n_l_group_rows : List Str := ["_law_live_here", "_law_group", "_law_values_here", "_law_rows", "_law_unknown", "_law_row", "_law_one", "_law_coefficient", "_law_factors_here", "_law_inside", "_law_others", "_law_worth", "_law_at"]
theorem sc_l_group_rows : FnScope n_l_group_rows ["_law_live_here", "_law_group", "_law_values_here"] d_l_group_rows.scope := ⟨rfl, rfl, rfl, by decide +kernel, rfl, by decide +kernel, by decide +kernel⟩
theorem c_l_group_rows {g : Gv} (G : Gd g) : Ctr g 5 "_law_group_rows" (spD g.K spLRows) := by
  obtain ⟨fd, F⟩ := G.def_ 60 (d := d_l_group_rows) rfl
  refine ⟨_, G.glo "_law_group_rows", F.kp, fn_of_body F sc_l_group_rows (F.bindsN fun _ _ _ _ _ _ us hl => match us, hl with | [_, _, _], _ => rfl) (fun _ _ _ _ h => h.1) fun l ds μ d μ' R h => ?_⟩
  obtain ⟨-, h⟩ := h
  have nd := sc_l_group_rows.nd
  obtain ⟨lv, T, grp, dv, V, Rm, rfl, GS, hp, hn, hdv, hrow, rfl, rfl⟩ := h
  have hu : (cX g l n_l_group_rows d_l_group_rows.scope).A.units + 1 < cLine := by have := R.un; omega
  have hu64 : (cX g l n_l_group_rows d_l_group_rows.scope).A.units + 64 < cLine := R.units
  have hu65 : (cX g l n_l_group_rows d_l_group_rows.scope).A.units + 65 < cLine := by have := R.un; omega
  have hl : grp.length ≤ 40 := Nat.le_trans (nodup_len hn hp) GS.len
  have vals2 : ∀ {p q : Addr × D}, ValsAt (p :: q :: μ) dv lv V := fun {p q} => by
    rcases hdv with e | ⟨a, n, e1, e2⟩
    · exact .inl e
    · exact .inr ⟨a, n + 2, e1, e2⟩
  refine DSs_cons (DS_setN 3 (DN_lst DA_nil) (fun q => ?_) nd)
  refine DSs_cons (DS_for (DI_gtup (DE_var 1)) (fun i ρ μ' => ∃ (x4 x5 x6 x7 x8 x9 x10 x11 x12 : Option D), ρ = [some (LD lv T), some (grpD grp), some dv, some (.ptr q), x4, x5, x6, x7, x8, x9, x10, x11, x12] ∧ μ' = (q, .lst ((List.range i).map fun i => encRow (grp.length + 1) (Rm i))) :: μ) ⟨_, _, _, _, _, _, _, _, _, rfl, rfl⟩ (fun _ _ _ _ => trivial) ?_ ?_)
  · rintro i d ρ μ' hi ⟨x4, x5, x6, x7, x8, x9, x10, x11, x12, rfl, rfl⟩
    rw [List.getElem?_map] at hi
    cases hx : grp[i]? with
    | none => rw [hx] at hi; cases hi
    | some u =>
      rw [hx] at hi; cases hi
      have hm := hp u (List.mem_of_getElem? hx)
      have hil : i < grp.length := (List.getElem?_eq_some_iff.mp hx).1
      have hr := hrow i u hx
      refine ⟨_, _, DG_name 4 nd, ?_⟩
      refine DSs_cons (DS_setN 5 (d := encRow (grp.length + 1) (row0 grp u)) (DN.eqL (DN_cat (DN.de (lcF [("_law_one", 6)] grp uD (fun o => .tup [.int (if decide (o = u) then 1 else 0), .int 1]) (DI_gtup (DE_var 1)) rfl (fun _ _ => trivial) (fun o ho a l => ⟨_, _, fun s0 H0 Cc cl fp => DG_name 6 nd, by decide, fun s0 H0 Cc cl fp => DE_tup (DA_cons (DE_intB (G.free "int") (DE_eqU hu64 (DE_var 6) (DE_var 4))) (DA_cons DE_int DA_nil))⟩) nd rfl)) (DN.de (DN_lst (DA_cons (DE_tup (DA_cons DE_int (DA_cons DE_int DA_nil))) DA_nil))) .li .li (by rw [List.length_map]; show grp.length + 1 ≤ _; omega)) (by unfold encRow; rw [row0_enc])) (fun rw_ => ?_) nd)
      refine DSs_cons (DS_for (DI_lst (DE_dget hu (DE_var 0) (DE_var 4) .fz (LD_get hm))) (fun j ρ μ' => ∃ (x6 x7 x8 x9 x10 x11 x12 : Option D) (r : Nat → Rat), ρ = [some (LD lv T), some (grpD grp), some dv, some (.ptr q), some (uD u), some (.ptr rw_), x6, x7, x8, x9, x10, x11, x12] ∧ μ' = (rw_, encRow (grp.length + 1) r) :: (q, .lst ((List.range i).map fun i => encRow (grp.length + 1) (Rm i))) :: μ ∧ rowGo V grp (row0 grp u) ((T u).take j) = some r) ⟨x6, x7, x8, x9, x10, x11, x12, row0 grp u, rfl, rfl, by simp [rowGo]⟩ (fun _ _ _ _ => trivial) ?_ ?_)
      · rintro j d ρ μ' hi ⟨x6, x7, x8, x9, x10, x11, x12, r, rfl, rfl, ht⟩
        rw [List.getElem?_map] at hi
        cases hx2 : (T u)[j]? with
        | none => rw [hx2] at hi; cases hi
        | some t =>
          rw [hx2] at hi; cases hi
          have hsub : ∀ f ∈ t.2, f ∈ lv := GS.sub u hm t.2 (List.mem_map_of_mem (List.mem_of_getElem? hx2))
          obtain ⟨r', hr'⟩ := rowGo_take hr (j + 1)
          have hr2 := hr'
          rw [take_get hx2, rowGo_snoc, ht] at hr2
          have hr2 : rowStep V grp r t = some r' := hr2
          refine ⟨_, _, DG_tup (DGs_cons (DG_name 7 nd) (DGs_cons (DG_name 8 nd) DGs_nil)), ?_⟩
          refine DSs_cons (DS_setLc 9 [("_law_one", 6)] t.2 uD (fun f => decide (f ∈ grp)) uD (DI_tup (DE_var 8)) (fun _ _ => trivial) (fun o ho a l => ⟨_, _, fun s0 H0 Cc cl fp => DG_name 6 nd, by decide, fun s0 H0 Cc cl fp => DTs_one (DT_inU hu65 (DE_var 6) (DE_var 1) .gt), fun _ => fun s0 H0 Cc cl fp => (DE_var 6)⟩) (fun q2 => ?_) nd)
          refine DSs_freeze 9 [] (h := ?_)
          unfold rowStep at hr2
          cases hin : t.2.filter fun f => decide (f ∈ grp) with
          | nil =>
            rw [hin] at hr2
            have hr2 : (tvR V t.1 t.2).bind (fun x => (addB (r grp.length) x).map fun b => updN r grp.length b) = some r' := hr2
            obtain ⟨x, ex, hr3⟩ := Option.bind_eq_some_iff.mp hr2
            obtain ⟨b, eb, rfl⟩ := Option.map_eq_some_iff.mp hr3
            obtain ⟨s1, s2, rfl⟩ := addB_some eb
            refine DSs_cons (DS_if (DT_not (DT_truL (DE_var 9))) (fun c => ?_) fun c => absurd c (by simp))
            refine DSs_cons (DS_setL (j := grp.length) 0 (DE_call (c_l_plus G) R (DA_cons (DE_ixP 0 (DE_var 5) (DE_neg DE_int) rfl encL_last) (DA_cons (DE_call (c_l_term_value G) R (DA_cons (DE_tup (DA_cons (DE_var 7) (DA_cons (DE_var 8) DA_nil))) (DA_cons (DE_var 2) DA_nil)) ⟨rfl, t.1, .tup (t.2.map uD), t.2, dv, lv, V, x, rfl, .inl rfl, vals2, hsub, ex, rfl, rfl⟩) DA_nil)) ⟨rfl, r grp.length, x, rfl, s1, s2, rfl, rfl⟩) (DE_var 5) (DE_neg DE_int) ?_ ?_)
            · unfold ixN
              rw [encL_len, if_neg (by omega), if_pos (by omega)]
              congr 1; omega
            · refine DSs_nil (DSs_nil ⟨_, _, _, _, _, _, _, _, rfl, ?_, hr'⟩)
              rw [encL_set]; rfl
          | cons f fs =>
            rw [hin] at hr2
            have hr2 : (tvR V t.1 (t.2.filter fun f => !decide (f ∈ grp))).bind (fun x => (addB (r (grp.idxOf f)) (-x)).map fun b => updN r (grp.idxOf f) b) = some r' := hr2
            obtain ⟨x, ex, hr3⟩ := Option.bind_eq_some_iff.mp hr2
            obtain ⟨b, eb, rfl⟩ := Option.map_eq_some_iff.mp hr3
            obtain ⟨s1, s2, rfl⟩ := addB_some eb
            have hf : f ∈ grp := by
              have : f ∈ t.2.filter fun f => decide (f ∈ grp) := by rw [hin]; exact List.mem_cons_self
              simpa using (List.mem_filter.mp this).2
            have hat : grp.idxOf f < grp.length + 1 := by have := List.idxOf_lt_length_of_mem hf; omega
            refine DSs_cons (DS_if (DT_not (DT_truL (DE_var 9))) (fun c => absurd c (by simp)) fun c => ?_)
            refine DSs_cons (DS_setLc 10 [("_law_one", 6)] t.2 uD (fun f => !decide (f ∈ grp)) uD (DI_tup (DE_var 8)) (fun _ _ => trivial) (fun o ho a l => ⟨_, _, fun s0 H0 Cc cl fp => DG_name 6 nd, by decide, fun s0 H0 Cc cl fp => DTs_one (DT_notinU hu65 (DE_var 6) (DE_var 1) .gt), fun _ => fun s0 H0 Cc cl fp => (DE_var 6)⟩) (fun q3 => ?_) nd)
            refine DSs_freeze 10 [] (h := ?_)
            refine DSs_cons (DS_set 11 (DE_call (c_l_term_value G) R (DA_cons (DE_tup (DA_cons (DE_var 7) (DA_cons (DE_var 10) DA_nil))) (DA_cons (DE_var 2) DA_nil)) ⟨rfl, t.1, .lst ((t.2.filter fun f => !decide (f ∈ grp)).map uD), t.2.filter fun f => !decide (f ∈ grp), dv, lv, V, x, rfl, .inr rfl, vals2, fun f hf => hsub f (List.mem_filter.mp hf).1, ex, rfl, rfl⟩) ?_ nd)
            refine DSs_cons (DS_set 12 (DE_idxU hu64 (us := grp) (u := f) (DE_var 1) (DE_ixL (DE_var 9) DE_int (h := by unfold atI ixN; simp)) hf) ?_ nd)
            refine DSs_cons (DS_setL (j := grp.idxOf f) 0 (DE_call (c_l_plus G) R (DA_cons (DE_ixP 0 (DE_var 5) (DE_var 12) rfl (encL_at hat)) (DA_cons (DE.eq (DE_tup (DA_cons (DE_sub DE_int (DE_ixT (DE_var 11) DE_int)) (DA_cons (DE_ixT (DE_var 11) DE_int) DA_nil))) (neg_qD _)) DA_nil)) ⟨rfl, r (grp.idxOf f), -x, rfl, s1, s2, rfl, rfl⟩) (DE_var 5) (DE_var 12) ?_ ?_)
            · unfold ixN
              rw [encL_len, if_pos (by omega), if_pos (by omega)]
              simp
            · refine DSs_nil (DSs_nil ⟨_, _, _, _, _, _, _, _, rfl, ?_, hr'⟩)
              rw [encL_set]; rfl
      · rintro ρ μ' ⟨x6, x7, x8, x9, x10, x11, x12, r, rfl, rfl, ht⟩
        rw [List.length_map, List.take_length, hr] at ht
        cases ht
        refine DSs_freeze 5 [] (h := ?_)
        refine DSs_cons (DS_expr (apd 0 (DE_var 3) (DE_var 5) (hl := by rw [List.length_map, List.length_range]; omega)) ?_)
        refine DSs_nil ⟨_, _, _, _, _, _, _, _, _, rfl, ?_⟩
        rw [List.range_succ, List.map_append]
        rfl
  · rintro ρ μ' ⟨x4, x5, x6, x7, x8, x9, x10, x11, x12, rfl, rfl⟩
    rw [List.length_map]
    refine DSs_freeze 3 [] (h := ?_)
    exact DSs_cons (DS_ret (DE_var 3) Ret.rt)
end Od
namespace Od
theorem nodup_lenN {l m : List Nat} (h : l.Nodup) (s : ∀ x ∈ l, x ∈ m) : l.length ≤ m.length := by
  induction l generalizing m with
  | nil => simp
  | cons x l ih =>
    rw [List.nodup_cons] at h
    have hx := s x (by simp)
    have := ih (m := m.erase x) h.2 fun y hy => by
      have ne : y ≠ x := fun e => h.1 (e ▸ hy)
      exact (List.mem_erase_of_ne ne).mpr (s y (by simp [hy]))
    rw [List.length_erase_of_mem hx] at this
    have : 0 < m.length := List.length_pos_of_mem hx
    simp; omega
theorem pigeon {f : Nat → Nat} {N M : Nat} (h : M < N) (hf : ∀ i, i < N → f i < M) : ∃ i j, i < j ∧ j < N ∧ f i = f j := by
  refine Classical.byContradiction fun hn => ?_
  have nd : ((List.range N).map f).Nodup := by
    refine List.pairwise_map.mpr ?_
    refine List.Pairwise.imp_of_mem ?_ (List.pairwise_lt_range (n := N))
    intro a b ha hb hlt e
    exact hn ⟨a, b, hlt, List.mem_range.mp hb, e⟩
  have := nodup_lenN nd (m := List.range M) fun x hx => by
    obtain ⟨i, hi, rfl⟩ := List.mem_map.mp hx
    exact List.mem_range.mpr (hf i (List.mem_range.mp hi))
  rw [List.length_map, List.length_range, List.length_range] at this
  omega
def dig (b k j : Nat) : Nat := k / b ^ j % b
theorem dig_ext {b k l : Nat} : ∀ m, (∀ j, j < m → dig b k j = dig b l j) → k / b ^ m = l / b ^ m → k = l
  | 0, _, h => by simpa using h
  | m + 1, h, e => by
    refine dig_ext m (fun j hj => h j (by omega)) ?_
    have h1 := h m (by omega)
    unfold dig at h1
    have e1 := Nat.div_add_mod (k / b ^ m) b
    have e2 := Nat.div_add_mod (l / b ^ m) b
    rw [Nat.div_div_eq_div_mul, ← Nat.pow_succ] at e1 e2
    rw [← e1, ← e2, h1, e]
def encN (R : Nat) (d : Nat → Nat) : Nat → Nat
  | 0 => 0
  | m + 1 => encN R d m + d m * R ^ m
theorem encN_lt {R : Nat} {d : Nat → Nat} : ∀ m, (∀ i, i < m → d i < R) → encN R d m < R ^ m
  | 0, _ => by simp [encN]
  | m + 1, h => by
    have ih := encN_lt m fun i hi => h i (by omega)
    have hd := h m (by omega)
    have : (d m + 1) * R ^ m ≤ R * R ^ m := Nat.mul_le_mul_right _ hd
    rw [Nat.succ_mul] at this
    rw [Nat.pow_succ, Nat.mul_comm (R ^ m)]
    show encN R d m + d m * R ^ m < _
    omega
theorem encN_inj {R : Nat} {d e : Nat → Nat} : ∀ m, (∀ i, i < m → d i < R) → (∀ i, i < m → e i < R) → encN R d m = encN R e m → ∀ i, i < m → d i = e i
  | 0, _, _, _ => fun i hi => absurd hi (Nat.not_lt_zero _)
  | m + 1, hd, he, h => by
    have h1 := encN_lt m fun i hi => hd i (by omega)
    have h2 := encN_lt m fun i hi => he i (by omega)
    have hp : 0 < R ^ m := Nat.lt_of_le_of_lt (Nat.zero_le _) h1
    have h : encN R d m + d m * R ^ m = encN R e m + e m * R ^ m := h
    have q1 : (encN R d m + d m * R ^ m) / R ^ m = d m := by rw [Nat.add_mul_div_right _ _ hp, Nat.div_eq_of_lt h1, Nat.zero_add]
    have q2 : (encN R e m + e m * R ^ m) / R ^ m = e m := by rw [Nat.add_mul_div_right _ _ hp, Nat.div_eq_of_lt h2, Nat.zero_add]
    have hm : d m = e m := by rw [← q1, ← q2, h]
    have ih := encN_inj m (fun i hi => hd i (by omega)) (fun i hi => he i (by omega)) (by rw [hm] at h; omega)
    intro i hi
    by_cases c : i = m
    · rw [c]; exact hm
    · exact ih i (by omega)
def sZ (f : Nat → Int) : Nat → Int
  | 0 => 0
  | n + 1 => sZ f n + f n
def sNt (f : Nat → Nat) : Nat → Nat
  | 0 => 0
  | n + 1 => sNt f n + f n
theorem sZ_sub (f g : Nat → Int) : ∀ n, sZ (fun i => f i - g i) n = sZ f n - sZ g n
  | 0 => rfl
  | n + 1 => by simp only [sZ, sZ_sub f g n]; omega
theorem sZ_congr {f g : Nat → Int} : ∀ {n}, (∀ i, i < n → f i = g i) → sZ f n = sZ g n
  | 0, _ => rfl
  | n + 1, h => by simp only [sZ, sZ_congr (n := n) fun i hi => h i (by omega), h n (by omega)]
theorem sZ_abs {a y : Nat → Int} {Y : Nat} : ∀ n, (∀ j, j < n → (y j).natAbs ≤ Y) → (sZ (fun j => a j * y j) n).natAbs ≤ sNt (fun j => (a j).natAbs) n * Y
  | 0, _ => Nat.zero_le _
  | n + 1, h => by
    have ih := sZ_abs (a := a) n fun j hj => h j (by omega)
    have hn := h n (by omega)
    have h1 : (a n * y n).natAbs ≤ (a n).natAbs * Y := by rw [Int.natAbs_mul]; exact Nat.mul_le_mul_left _ hn
    have h2 := Int.natAbs_add_le (sZ (fun j => a j * y j) n) (a n * y n)
    simp only [sZ, sNt, Nat.add_mul]
    omega
/-- a small solution that is not zero -/
theorem siegel (m : Nat) (a : Nat → Nat → Int) (q : Nat → Int) (A Q : Nat) (hA : ∀ i, i < m → sNt (fun j => (a i j).natAbs) m ≤ A) (hQ : ∀ i, i < m → (q i).natAbs ≤ Q) :
    ∃ (y : Nat → Int) (w : Int), ((∃ j, j < m ∧ y j ≠ 0) ∨ w ≠ 0) ∧ (∀ j, j < m → (y j).natAbs ≤ Q * (2 * A + 2) ^ m) ∧ w.natAbs ≤ (2 * A + 2) ^ m ∧ ∀ i, i < m → sZ (fun j => a i j * y j) m + q i * w = 0 := by
  generalize hW : (2 * A + 2) ^ m = W
  generalize hY : Q * W = Y
  have yv : ∀ k j, dig (Y + 1) k j ≤ Y := fun k j => Nat.le_of_lt_succ (Nat.mod_lt _ (Nat.succ_pos _))
  have hpos : 0 < (Y + 1) ^ m := Nat.pow_pos (Nat.succ_pos _)
  have wv : ∀ k, k < (W + 1) * (Y + 1) ^ m → k / (Y + 1) ^ m ≤ W := fun k hk => Nat.le_of_lt_succ ((Nat.div_lt_iff_lt_mul hpos).mpr hk)
  let v : Nat → Nat → Int := fun k i => sZ (fun j => a i j * (dig (Y + 1) k j : Int)) m + q i * ((k / (Y + 1) ^ m : Nat) : Int)
  have hv : ∀ k, k < (W + 1) * (Y + 1) ^ m → ∀ i, i < m → (v k i).natAbs ≤ (A + 1) * Y := fun k hk i hi => by
    have h1 := sZ_abs (a := a i) (y := fun j => (dig (Y + 1) k j : Int)) (Y := Y) m fun j _ => by rw [Int.natAbs_natCast]; exact yv k j
    have h2 : (q i * ((k / (Y + 1) ^ m : Nat) : Int)).natAbs ≤ Q * W := by
      rw [Int.natAbs_mul, Int.natAbs_natCast]
      exact Nat.mul_le_mul (hQ i hi) (wv k hk)
    have h3 := Nat.mul_le_mul_right Y (hA i hi)
    have h4 := Int.natAbs_add_le (sZ (fun j => a i j * (dig (Y + 1) k j : Int)) m) (q i * ((k / (Y + 1) ^ m : Nat) : Int))
    show (sZ _ m + _).natAbs ≤ _
    rw [Nat.add_mul]
    omega
  let R : Nat := 2 * ((A + 1) * Y) + 1
  let d : Nat → Nat → Nat := fun k i => (v k i + ((A + 1) * Y : Nat)).toNat
  have hd : ∀ k, k < (W + 1) * (Y + 1) ^ m → ∀ i, i < m → d k i < R := fun k hk i hi => by
    have := hv k hk i hi
    show (v k i + ((A + 1) * Y : Nat)).toNat < 2 * ((A + 1) * Y) + 1
    omega
  have hR : R ^ m ≤ W * (Y + 1) ^ m := by
    rw [← hW, ← Nat.mul_pow]
    refine Nat.pow_le_pow_left ?_ m
    show 2 * ((A + 1) * Y) + 1 ≤ _
    have : (2 * A + 2) * (Y + 1) = 2 * ((A + 1) * Y) + (2 * A + 2) := by
      rw [Nat.mul_succ, show 2 * A + 2 = 2 * (A + 1) by omega, Nat.mul_assoc]
    omega
  obtain ⟨k, l, hkl, hl, he⟩ := pigeon (f := fun k => encN R (d k) m) (N := (W + 1) * (Y + 1) ^ m) (M := R ^ m) (by rw [Nat.succ_mul]; omega) fun k hk => encN_lt m (hd k hk)
  have hk : k < (W + 1) * (Y + 1) ^ m := by omega
  have hdd := encN_inj m (hd k hk) (hd l hl) he
  refine ⟨fun j => (dig (Y + 1) k j : Int) - (dig (Y + 1) l j : Int), ((k / (Y + 1) ^ m : Nat) : Int) - ((l / (Y + 1) ^ m : Nat) : Int), ?_, fun j _ => ?_, ?_, fun i hi => ?_⟩
  · refine Classical.byContradiction fun hn => ?_
    have h1 : ∀ j, j < m → dig (Y + 1) k j = dig (Y + 1) l j := fun j hj => by
      refine Decidable.byContradiction fun hne => hn (.inl ⟨j, hj, ?_⟩)
      show (dig (Y + 1) k j : Int) - (dig (Y + 1) l j : Int) ≠ 0
      omega
    have h2 : k / (Y + 1) ^ m = l / (Y + 1) ^ m := by
      refine Decidable.byContradiction fun hne => hn (.inr ?_)
      omega
    have := dig_ext m h1 h2
    omega
  · have := yv k j
    have := yv l j
    show ((dig (Y + 1) k j : Int) - (dig (Y + 1) l j : Int)).natAbs ≤ Y
    omega
  · have h1 := wv k hk
    have h2 := wv l hl
    generalize k / (Y + 1) ^ m = kk at *
    generalize l / (Y + 1) ^ m = ll at *
    omega
  · have e : d k i = d l i := hdd i hi
    have b1 := hv k hk i hi
    have b2 := hv l hl i hi
    have e : v k i = v l i := by
      have e : (v k i + ((A + 1) * Y : Nat)).toNat = (v l i + ((A + 1) * Y : Nat)).toNat := e
      omega
    have s1 : sZ (fun j => a i j * ((dig (Y + 1) k j : Int) - (dig (Y + 1) l j : Int))) m = sZ (fun j => a i j * (dig (Y + 1) k j : Int)) m - sZ (fun j => a i j * (dig (Y + 1) l j : Int)) m := by
      rw [← sZ_sub]
      exact sZ_congr fun j _ => Int.mul_sub _ _ _
    rw [s1, Int.mul_sub]
    have e : sZ (fun j => a i j * (dig (Y + 1) k j : Int)) m + q i * ((k / (Y + 1) ^ m : Nat) : Int) = sZ (fun j => a i j * (dig (Y + 1) l j : Int)) m + q i * ((l / (Y + 1) ^ m : Nat) : Int) := e
    omega
end Od
namespace Od
def sR (f : Nat → Rat) : Nat → Rat
  | 0 => 0
  | n + 1 => sR f n + f n
theorem sR_congr {f g : Nat → Rat} : ∀ {n}, (∀ i, i < n → f i = g i) → sR f n = sR g n
  | 0, _ => rfl
  | n + 1, h => by simp only [sR, sR_congr (n := n) fun i hi => h i (by omega), h n (by omega)]
theorem sR_add (f g : Nat → Rat) : ∀ n, sR (fun i => f i + g i) n = sR f n + sR g n
  | 0 => by simp only [sR]; grind
  | n + 1 => by simp only [sR, sR_add f g n]; grind
theorem sR_mul (c : Rat) (f : Nat → Rat) : ∀ n, sR (fun i => c * f i) n = c * sR f n
  | 0 => by simp only [sR]; grind
  | n + 1 => by simp only [sR, sR_mul c f n]; grind
theorem sR_zero {f : Nat → Rat} : ∀ {n}, (∀ i, i < n → f i = 0) → sR f n = 0
  | 0, _ => rfl
  | n + 1, h => by simp only [sR, sR_zero (n := n) fun i hi => h i (by omega), h n (by omega)]; grind
theorem sR_cast (f : Nat → Int) : ∀ n, ((sZ f n : Int) : Rat) = sR (fun i => (f i : Rat)) n
  | 0 => rfl
  | n + 1 => by simp only [sZ, sR, Rat.intCast_add, sR_cast f n]
theorem sR_one {f : Nat → Rat} {k : Nat} : ∀ {n}, (∀ i, i < n → i ≠ k → f i = 0) → k < n → sR f n = f k
  | 0, _, h => absurd h (Nat.not_lt_zero _)
  | n + 1, h, hk => by
    by_cases c : k = n
    · subst c
      simp only [sR, sR_zero (n := k) fun i hi => h i (by omega) (by omega)]; grind
    · simp only [sR, sR_one (n := n) (fun i hi => h i (by omega)) (by omega), h n (by omega) (by omega)]; grind
def dot (r y : Nat → Rat) (n : Nat) : Rat := sR (fun j => r j * y j) n
theorem dot_add (r s y : Nat → Rat) (n : Nat) : dot (fun j => r j + s j) y n = dot r y n + dot s y n := by
  unfold dot
  rw [← sR_add]
  exact sR_congr fun i _ => by grind
theorem dot_mul (c : Rat) (r y : Nat → Rat) (n : Nat) : dot (fun j => c * r j) y n = c * dot r y n := by
  unfold dot
  rw [← sR_mul]
  exact sR_congr fun i _ => by grind
theorem dot_congr {r s y : Nat → Rat} {n : Nat} (h : ∀ j, j < n → r j = s j) : dot r y n = dot s y n := sR_congr fun i hi => by rw [h i hi]
theorem dot_congr2 {r y z : Nat → Rat} {n : Nat} (h : ∀ j, j < n → y j = z j) : dot r y n = dot r z n := sR_congr fun i hi => by rw [h i hi]
theorem dot_sum (g : Nat → Rat) (S : Nat → Nat → Rat) (y : Nat → Rat) (n : Nat) : ∀ c, dot (fun j => sR (fun i => g i * S i j) c) y n = sR (fun i => g i * dot (S i) y n) c
  | 0 => by
    unfold dot
    exact sR_zero fun i _ => by simp only [sR]; grind
  | c + 1 => by
    show dot (fun j => sR (fun i => g i * S i j) c + g c * S c j) y n = _
    rw [dot_add, dot_sum g S y n c, dot_mul]
    rfl
/-- a vector that is nought but at the first c places and at j -/
def vecA (c j : Nat) (y : Nat → Rat) (t : Rat) : Nat → Rat := fun l => if l < c then y l else if l = j then t else 0
theorem dot_vecA {r y : Nat → Rat} {c j : Nat} {t : Rat} (hcj : c ≤ j) : ∀ {n}, j < n → dot r (vecA c j y t) n = sR (fun l => r l * y l) c + r j * t := fun {n} hn => by
  have h1 : ∀ m, c + m ≤ j → dot r (vecA c j y t) (c + m) = sR (fun l => r l * y l) c := fun m => by
    induction m with
    | zero =>
      intro _
      refine sR_congr fun l hl => ?_
      have hl : l < c := hl
      unfold vecA
      rw [if_pos hl]
    | succ m ih =>
      intro h
      show dot r (vecA c j y t) (c + m) + r (c + m) * vecA c j y t (c + m) = _
      rw [ih (by omega)]
      have : vecA c j y t (c + m) = 0 := by unfold vecA; rw [if_neg (by omega), if_neg (by omega)]
      rw [this]; grind
  have h2 : ∀ m, dot r (vecA c j y t) (j + 1 + m) = sR (fun l => r l * y l) c + r j * t := fun m => by
    induction m with
    | zero =>
      obtain ⟨d, rfl⟩ := Nat.exists_eq_add_of_le hcj
      show dot r (vecA c (c + d) y t) (c + d) + r (c + d) * vecA c (c + d) y t (c + d) = _
      rw [h1 d (Nat.le_refl _)]
      have : vecA c (c + d) y t (c + d) = t := by unfold vecA; rw [if_neg (by omega), if_pos rfl]
      rw [this]
    | succ m ih =>
      show dot r (vecA c j y t) (j + 1 + m) + r (j + 1 + m) * vecA c j y t (j + 1 + m) = _
      rw [ih]
      have : vecA c j y t (j + 1 + m) = 0 := by unfold vecA; rw [if_neg (by omega), if_neg (by omega)]
      rw [this]; grind
  obtain ⟨d, rfl⟩ := Nat.exists_eq_add_of_le hn
  exact h2 d
abbrev Mx := Nat → Nat → Rat
def swI (c ch i : Nat) : Nat := if i < c then i else if i = c then ch else if i ≤ ch then i - 1 else i
def swp (R : Mx) (c ch : Nat) : Mx := fun i => R (swI c ch i)
def pivF (R : Mx) (n c : Nat) : Option Nat := ((List.range (n - c)).map fun k => c + k).find? fun k => decide (R k c ≠ 0)
def elimF (S : Mx) (c : Nat) : Mx := fun i j => if i = c then S c j * (S c c)⁻¹ else S i j + -(S i c) * (S c j * (S c c)⁻¹)
def gjN (R : Mx) (n : Nat) : Nat → Option Mx
  | 0 => some R
  | c + 1 => (gjN R n c).bind fun S => (pivF S n c).map fun ch => elimF (swp S c ch) c
theorem pivF_some {R : Mx} {n c ch : Nat} (h : pivF R n c = some ch) : c ≤ ch ∧ ch < n ∧ R ch c ≠ 0 := by
  unfold pivF at h
  have h1 := List.find?_some h
  obtain ⟨k, hk, rfl⟩ := List.mem_map.mp (List.mem_of_find?_eq_some h)
  have := List.mem_range.mp hk
  exact ⟨by omega, by omega, by simpa using h1⟩
theorem swI_lt {c ch i n : Nat} (h1 : c ≤ ch) (h2 : ch < n) (hi : i < n) : swI c ch i < n := by
  unfold swI
  split <;> (try split) <;> (try split) <;> omega
theorem swI_sur {c ch k n : Nat} (h1 : c ≤ ch) (h2 : ch < n) (hk : k < n) : ∃ i, i < n ∧ swI c ch i = k := by
  by_cases a : k < c
  · exact ⟨k, hk, by unfold swI; rw [if_pos a]⟩
  · by_cases b : k = ch
    · exact ⟨c, by omega, by unfold swI; rw [if_neg (by omega), if_pos rfl, b]⟩
    · by_cases d : k < ch
      · exact ⟨k + 1, by omega, by unfold swI; rw [if_neg (by omega), if_neg (by omega), if_pos (by omega)]; omega⟩
      · exact ⟨k, hk, by unfold swI; rw [if_neg (by omega), if_neg (by omega), if_neg (by omega)]⟩
theorem swI_lo {c ch i : Nat} (h : i < c) : swI c ch i = i := by unfold swI; rw [if_pos h]
theorem swI_hi {c ch i : Nat} (h1 : c ≤ ch) (h : c ≤ i) : c ≤ swI c ch i := by
  unfold swI
  split <;> (try split) <;> (try split) <;> omega
/-- what holds after c steps: O are the rows at the start, in another order -/
structure GI (R : Mx) (n c : Nat) (O S : Mx) : Prop where
  fr : ∀ i, i < n → ∃ k, k < n ∧ O i = R k
  on : ∀ k, k < n → ∃ i, i < n ∧ O i = R k
  id : ∀ i, i < c → ∀ j, j < c → S i j = if i = j then 1 else 0
  sp : ∀ y : Nat → Rat, (∀ i, i < c → dot (O i) y (n + 1) = 0) ↔ (∀ i, i < c → dot (S i) y (n + 1) = 0)
  lo : ∀ k, c ≤ k → k < n → ∀ j, j < n + 1 → S k j = O k j + -(sR (fun i => O k i * S i j) c)
theorem GI.start (R : Mx) (n : Nat) : GI R n 0 R R := ⟨fun i hi => ⟨i, hi, rfl⟩, fun i hi => ⟨i, hi, rfl⟩, fun i hi => absurd hi (Nat.not_lt_zero _), fun y => ⟨fun _ i hi => absurd hi (Nat.not_lt_zero _), fun _ i hi => absurd hi (Nat.not_lt_zero _)⟩, fun k _ _ j _ => by simp only [sR]; grind⟩
theorem GI.swp {R : Mx} {n c ch : Nat} {O S : Mx} (I : GI R n c O S) (h1 : c ≤ ch) (h2 : ch < n) : GI R n c (swp O c ch) (swp S c ch) := by
  refine ⟨fun i hi => I.fr _ (swI_lt h1 h2 hi), fun k hk => ?_, fun i hi j hj => ?_, fun y => ?_, fun k hk hkn j hj => ?_⟩
  · obtain ⟨i, hi, e⟩ := I.on k hk
    obtain ⟨i', hi', e'⟩ := swI_sur h1 h2 hi
    exact ⟨i', hi', by show O (swI c ch i') = _; rw [e', e]⟩
  · show S (swI c ch i) j = _
    rw [swI_lo hi]; exact I.id i hi j hj
  · have a : (∀ i, i < c → dot (Od.swp O c ch i) y (n + 1) = 0) ↔ (∀ i, i < c → dot (O i) y (n + 1) = 0) := by
      constructor <;> intro h i hi
      · have := h i hi
        unfold Od.swp at this; rw [swI_lo hi] at this; exact this
      · unfold Od.swp; rw [swI_lo hi]; exact h i hi
    have b : (∀ i, i < c → dot (Od.swp S c ch i) y (n + 1) = 0) ↔ (∀ i, i < c → dot (S i) y (n + 1) = 0) := by
      constructor <;> intro h i hi
      · have := h i hi
        unfold Od.swp at this; rw [swI_lo hi] at this; exact this
      · unfold Od.swp; rw [swI_lo hi]; exact h i hi
    rw [a, b]; exact I.sp y
  · show S (swI c ch k) j = O (swI c ch k) j + -(sR (fun i => O (swI c ch k) i * S (swI c ch i) j) c)
    rw [I.lo _ (swI_hi h1 hk) (swI_lt h1 h2 hkn) j hj]
    congr 2
    exact sR_congr fun i hi => by rw [swI_lo hi]
theorem GI.elim {R : Mx} {n c : Nat} {O S : Mx} (I : GI R n c O S) (hc : c < n) (hp : S c c ≠ 0) : GI R n (c + 1) O (elimF S c) := by
  have em : ∀ j, elimF S c c j = S c j * (S c c)⁻¹ := fun j => by unfold elimF; rw [if_pos rfl]
  have eo : ∀ i j, i ≠ c → elimF S c i j = S i j + -(S i c) * (S c j * (S c c)⁻¹) := fun i j h => by unfold elimF; rw [if_neg h]
  have sc0 : ∀ j, j < c → S c j = 0 := fun j hj => by
    rw [I.lo c (Nat.le_refl _) hc j (by omega)]
    rw [sR_one (k := j) (fun i hi hne => by rw [I.id i hi j hj, if_neg hne]; grind) hj, I.id j hj j hj, if_pos rfl]
    grind
  refine ⟨I.fr, I.on, fun i hi j hj => ?_, fun y => ?_, fun k hk hkn j hj => ?_⟩
  · by_cases hic : i = c
    · subst hic
      rw [em]
      by_cases hjc : j = i
      · subst hjc; rw [if_pos rfl]; grind
      · rw [if_neg (fun e => hjc e.symm), sc0 j (by omega)]; grind
    · rw [eo i j hic]
      by_cases hjc : j = c
      · subst hjc; rw [if_neg hic]; grind
      · rw [sc0 j (by omega), I.id i (by omega) j (by omega)]; grind
  · have dm : dot (elimF S c c) y (n + 1) = (S c c)⁻¹ * dot (S c) y (n + 1) := by
      rw [← dot_mul]
      exact dot_congr fun j _ => by rw [em]; grind
    have dO : ∀ i, i ≠ c → dot (elimF S c i) y (n + 1) = dot (S i) y (n + 1) + -(S i c) * dot (elimF S c c) y (n + 1) := fun i hi => by
      rw [← dot_mul, ← dot_add]
      exact dot_congr fun j _ => by rw [eo i j hi, em]
    have dc : dot (S c) y (n + 1) = dot (O c) y (n + 1) + -(sR (fun i => O c i * dot (S i) y (n + 1)) c) := by
      rw [← dot_sum]
      have : -(dot (fun j => sR (fun i => O c i * S i j) c) y (n + 1)) = (-1) * dot (fun j => sR (fun i => O c i * S i j) c) y (n + 1) := by grind
      rw [this, ← dot_mul, ← dot_add]
      exact dot_congr fun j hj => by rw [I.lo c (Nat.le_refl _) hc j hj]; grind
    constructor
    · intro h
      have hs := (I.sp y).mp fun i hi => h i (by omega)
      have z : sR (fun i => O c i * dot (S i) y (n + 1)) c = 0 := sR_zero fun i hi => by rw [hs i hi]; grind
      have h0 : dot (S c) y (n + 1) = 0 := by rw [dc, z, h c (by omega)]; grind
      have hm : dot (elimF S c c) y (n + 1) = 0 := by rw [dm, h0]; grind
      intro i hi
      by_cases hic : i = c
      · rw [hic]; exact hm
      · rw [dO i hic, hm, hs i (by omega)]; grind
    · intro h
      have hm := h c (by omega)
      have h0 : dot (S c) y (n + 1) = 0 := by
        have := dm
        rw [hm] at this
        have q : S c c * ((S c c)⁻¹ * dot (S c) y (n + 1)) = 0 := by rw [← this]; grind
        grind
      have hs : ∀ i, i < c → dot (S i) y (n + 1) = 0 := fun i hi => by
        have a := h i (by omega)
        rw [dO i (by omega), hm] at a
        grind
      have z : sR (fun i => O c i * dot (S i) y (n + 1)) c = 0 := sR_zero fun i hi => by rw [hs i hi]; grind
      have ho := (I.sp y).mpr hs
      intro i hi
      by_cases hic : i = c
      · rw [hic]
        rw [h0, z] at dc
        grind
      · exact ho i (by omega)
  · rw [eo k j (by omega)]
    show _ = O k j + -(sR (fun i => O k i * elimF S c i j) c + O k c * elimF S c c j)
    have e1 : sR (fun i => O k i * elimF S c i j) c = sR (fun i => O k i * S i j) c + -(sR (fun i => O k i * S i c) c) * (S c j * (S c c)⁻¹) := by
      have : -(sR (fun i => O k i * S i c) c) * (S c j * (S c c)⁻¹) = (-(S c j * (S c c)⁻¹)) * sR (fun i => O k i * S i c) c := by grind
      rw [this, ← sR_mul, ← sR_add]
      exact sR_congr fun i hi => by rw [eo i j (by omega)]; grind
    rw [e1, em, I.lo k (by omega) hkn j hj]
    have e2 := I.lo k (by omega) hkn c (by omega)
    rw [e2]
    grind
theorem gj_inv {R : Mx} {n : Nat} : ∀ {c : Nat} {S : Mx}, c ≤ n → gjN R n c = some S → ∃ O, GI R n c O S
  | 0, S, _, h => by cases h; exact ⟨R, GI.start R n⟩
  | c + 1, S, hc, h => by
    obtain ⟨S0, e0, h⟩ := Option.bind_eq_some_iff.mp h
    obtain ⟨ch, ep, rfl⟩ := Option.map_eq_some_iff.mp h
    obtain ⟨O, I⟩ := gj_inv (c := c) (by omega) e0
    obtain ⟨p1, p2, p3⟩ := pivF_some ep
    refine ⟨_, (I.swp p1 p2).elim (by omega) ?_⟩
    show S0 (swI c ch c) c ≠ 0
    unfold swI
    rw [if_neg (by omega), if_pos rfl]
    exact p3
/-- the end: the rows say y i + x i * y n = 0 -/
theorem gj_sol {R : Mx} {n : Nat} {S : Mx} (h : gjN R n n = some S) (y : Nat → Rat) : (∀ i, i < n → dot (R i) y (n + 1) = 0) ↔ ∀ i, i < n → y i + S i n * y n = 0 := by
  obtain ⟨O, I⟩ := gj_inv (Nat.le_refl n) h
  have a : (∀ i, i < n → dot (R i) y (n + 1) = 0) ↔ ∀ i, i < n → dot (O i) y (n + 1) = 0 := by
    constructor
    · intro q i hi
      obtain ⟨k, hk, e⟩ := I.fr i hi
      rw [e]; exact q k hk
    · intro q k hk
      obtain ⟨i, hi, e⟩ := I.on k hk
      rw [← e]; exact q i hi
  rw [a, I.sp y]
  have e : ∀ i, i < n → dot (S i) y (n + 1) = y i + S i n * y n := fun i hi => by
    show dot (S i) y n + S i n * y n = _
    congr 1
    show sR (fun j => S i j * y j) n = y i
    rw [sR_one (k := i) (fun j hj hne => by rw [I.id i hi j hj, if_neg (fun e => hne e.symm)]; grind) hi, I.id i hi i hi, if_pos rfl]
    grind
  constructor
  · intro q i hi; rw [← e i hi]; exact q i hi
  · intro q i hi; rw [e i hi]; exact q i hi
/-- whether it can be solved does not hang on the last column -/
theorem gj_same {R R' : Mx} {n : Nat} (h : ∀ i, i < n → ∀ j, j < n → R i j = R' i j) : ∀ c, c ≤ n → (gjN R n c = none ∧ gjN R' n c = none) ∨ ∃ S S', gjN R n c = some S ∧ gjN R' n c = some S' ∧ ∀ i, i < n → ∀ j, j < n → S i j = S' i j
  | 0, _ => .inr ⟨R, R', rfl, rfl, h⟩
  | c + 1, hc => by
    rcases gj_same h c (by omega) with ⟨a, b⟩ | ⟨S, S', a, b, e⟩
    · exact .inl ⟨by show (gjN R n c).bind _ = _; rw [a]; rfl, by show (gjN R' n c).bind _ = _; rw [b]; rfl⟩
    · have ep : pivF S n c = pivF S' n c := by
        unfold pivF
        have : ∀ l : List Nat, (∀ k ∈ l, k < n) → l.find? (fun k => decide (S k c ≠ 0)) = l.find? (fun k => decide (S' k c ≠ 0)) := fun l => by
          induction l with
          | nil => intro _; rfl
          | cons x l ih =>
            intro hl
            rw [List.find?_cons, List.find?_cons, ih fun k hk => hl k (by simp [hk]), e x (hl x (by simp)) c (by omega)]
        apply this
        intro k hk
        obtain ⟨j, hj, rfl⟩ := List.mem_map.mp hk
        have := List.mem_range.mp hj
        omega
      have x1 : gjN R n (c + 1) = (pivF S n c).map fun ch => elimF (swp S c ch) c := by show (gjN R n c).bind _ = _; rw [a]; rfl
      have x2 : gjN R' n (c + 1) = (pivF S' n c).map fun ch => elimF (swp S' c ch) c := by show (gjN R' n c).bind _ = _; rw [b]; rfl
      rw [x1, x2, ← ep]
      cases hp : pivF S n c with
      | none => exact .inl ⟨rfl, rfl⟩
      | some ch =>
        refine .inr ⟨_, _, rfl, rfl, fun i hi j hj => ?_⟩
        obtain ⟨p1, p2, _⟩ := pivF_some hp
        have es : ∀ i, i < n → ∀ j, j < n → swp S c ch i j = swp S' c ch i j := fun i hi j hj => e _ (swI_lt p1 p2 hi) j hj
        show (if i = c then swp S c ch c j * (swp S c ch c c)⁻¹ else swp S c ch i j + -swp S c ch i c * (swp S c ch c j * (swp S c ch c c)⁻¹)) = (if i = c then swp S' c ch c j * (swp S' c ch c c)⁻¹ else swp S' c ch i j + -swp S' c ch i c * (swp S' c ch c j * (swp S' c ch c c)⁻¹))
        rw [es c (by omega) j hj, es c (by omega) c (by omega), es i hi j hj, es i hi c (by omega)]
/-- a fraction of p at most P over q at most N -/
def Fr (P N : Nat) (x : Rat) : Prop := ∃ p q : Int, q ≠ 0 ∧ p.natAbs ≤ P ∧ q.natAbs ≤ N ∧ x * (q : Rat) = (p : Rat)
theorem Fr.mono {P N P' N' : Nat} {x : Rat} (h : Fr P N x) (h1 : P ≤ P') (h2 : N ≤ N') : Fr P' N' x := by
  obtain ⟨p, q, a, b, c, d⟩ := h
  exact ⟨p, q, a, by omega, by omega, d⟩
theorem Fr.sm {P N : Nat} {x : Rat} (h : Fr P N x) : x.num.natAbs ≤ P ∧ x.den ≤ N := by
  obtain ⟨p, q, hq, hp, hn, e⟩ := h
  have hd : (x.den : Int) ≠ 0 := by have := x.den_nz; omega
  have e2 : x.num * q = p * (x.den : Int) := by
    have a : x = (x.num : Rat) / (x.den : Rat) := by
      have := Rat.num_divInt_den x
      rw [Rat.divInt_eq_div] at this
      exact this.symm
    have hd' : (x.den : Rat) ≠ 0 := fun z => x.den_nz (Rat.natCast_eq_zero_iff.mp z)
    rw [a] at e
    have : (x.num : Rat) * (q : Rat) = (p : Rat) * (x.den : Rat) := by grind
    rw [← Rat.intCast_mul, show (x.den : Rat) = (((x.den : Nat) : Int) : Rat) from rfl, ← Rat.intCast_mul, Rat.intCast_inj] at this
    exact this
  have e3 : x.num.natAbs * q.natAbs = p.natAbs * x.den := by
    have := congrArg Int.natAbs e2
    rw [Int.natAbs_mul, Int.natAbs_mul, Int.natAbs_natCast] at this
    exact this
  have d1 : x.den ∣ q.natAbs := by
    have : x.den ∣ x.num.natAbs * q.natAbs := ⟨p.natAbs, by rw [e3, Nat.mul_comm]⟩
    exact Nat.Coprime.dvd_of_dvd_mul_left x.reduced.symm this
  have hq' : 0 < q.natAbs := Int.natAbs_pos.mpr hq
  obtain ⟨k, hk⟩ := d1
  have hk0 : 0 < k := Nat.pos_of_ne_zero fun z => by rw [z, Nat.mul_zero] at hk; omega
  have e4 : p.natAbs = x.num.natAbs * k := by
    rw [hk, ← Nat.mul_assoc, Nat.mul_comm _ x.den, Nat.mul_assoc] at e3
    have e3 : x.den * (x.num.natAbs * k) = x.den * p.natAbs := by rw [e3, Nat.mul_comm]
    exact (Nat.eq_of_mul_eq_mul_left (Nat.pos_of_ne_zero x.den_nz) e3).symm
  constructor
  · have := Nat.le_mul_of_pos_right x.num.natAbs hk0
    omega
  · have := Nat.le_mul_of_pos_right x.den hk0
    omega
/-- rows of whole numbers over small denominators, the last column over a common D as well -/
structure Rows (R : Mx) (n : Nat) (A Q Δ : Nat) (D : Int) : Prop where
  d : D ≠ 0
  r : ∀ i, i < n → ∃ (δ : Int) (a : Nat → Int) (b : Int), δ ≠ 0 ∧ δ.natAbs ≤ Δ ∧ (∀ j, j < n → R i j * (δ : Rat) = (a j : Rat)) ∧ sNt (fun j => (a j).natAbs) n ≤ A ∧ b.natAbs ≤ Q ∧ R i n * ((δ * D : Int) : Rat) = (b : Rat)
theorem sNt_le {f : Nat → Nat} : ∀ {n m}, m ≤ n → sNt f m ≤ sNt f n
  | 0, m, h => by rw [show m = 0 by omega]; exact Nat.le_refl _
  | n + 1, m, h => by
    by_cases c : m = n + 1
    · rw [c]; exact Nat.le_refl _
    · exact Nat.le_trans (sNt_le (n := n) (by omega)) (Nat.le_add_right _ _)
theorem sNt_at {f : Nat → Nat} {j : Nat} : ∀ {n}, j < n → f j ≤ sNt f n
  | 0, h => absurd h (Nat.not_lt_zero _)
  | n + 1, h => by
    by_cases c : j = n
    · rw [c]; exact Nat.le_add_left _ _
    · exact Nat.le_trans (sNt_at (n := n) (by omega)) (Nat.le_add_right _ _)
theorem gj_bound {R : Mx} {n A Q Δ : Nat} {D : Int} (H : Rows R n A Q Δ D) (hAQ : A ≤ Q) (hQ : 1 ≤ Q) (hΔ : 1 ≤ Δ) {c : Nat} {S : Mx} (hc : c ≤ n) (h : gjN R n c = some S) :
    ∀ i, i < n → ∀ j, j < n + 1 → Fr ((A + 1) * (Q * (2 * A + 2) ^ n)) (Δ * (D.natAbs * (2 * A + 2) ^ n)) (S i j) := by
  obtain ⟨O, I⟩ := gj_inv hc h
  have hD := H.d
  have hD1 : 1 ≤ D.natAbs := Int.natAbs_pos.mpr hD
  have hW1 : 1 ≤ (2 * A + 2) ^ n := Nat.pow_pos (by omega)
  have hWc : (2 * A + 2) ^ c ≤ (2 * A + 2) ^ n := Nat.pow_le_pow_right (by omega) hc
  have hQW : 1 ≤ Q * (2 * A + 2) ^ n := Nat.mul_pos hQ hW1
  have hDW : 1 ≤ D.natAbs * (2 * A + 2) ^ n := Nat.mul_pos hD1 hW1
  have hP : Q * (2 * A + 2) ^ n ≤ (A + 1) * (Q * (2 * A + 2) ^ n) := Nat.le_mul_of_pos_left _ (by omega)
  have hN : D.natAbs * (2 * A + 2) ^ n ≤ Δ * (D.natAbs * (2 * A + 2) ^ n) := Nat.le_mul_of_pos_left _ hΔ
  -- the rows O in the same way
  have HO : ∀ i, ∃ (δ : Int) (a : Nat → Int) (b : Int), i < n → δ ≠ 0 ∧ δ.natAbs ≤ Δ ∧ (∀ j, j < n → O i j * (δ : Rat) = (a j : Rat)) ∧ sNt (fun j => (a j).natAbs) n ≤ A ∧ b.natAbs ≤ Q ∧ O i n * ((δ * D : Int) : Rat) = (b : Rat) := fun i => by
    by_cases hi : i < n
    · obtain ⟨k, hk, e⟩ := I.fr i hi
      obtain ⟨δ, a, b, q⟩ := H.r k hk
      exact ⟨δ, a, b, fun _ => by rw [e]; exact q⟩
    · exact ⟨0, fun _ => 0, 0, fun q => absurd q hi⟩
  obtain ⟨δ, HO⟩ := Classical.axiomOfChoice HO
  obtain ⟨a, HO⟩ := Classical.axiomOfChoice HO
  obtain ⟨b, HO⟩ := Classical.axiomOfChoice HO
  -- the column j, scaled
  have col : ∀ j, c ≤ j → j < n + 1 → ∃ (E : Int) (q : Nat → Int), E ≠ 0 ∧ E.natAbs ≤ D.natAbs ∧ ∀ i, i < n → (q i).natAbs ≤ Q ∧ O i j * ((δ i * E : Int) : Rat) = (q i : Rat) := fun j hj hjn => by
    by_cases e : j = n
    · subst e
      exact ⟨D, b, hD, Nat.le_refl _, fun i hi => ⟨(HO i hi).2.2.2.2.1, (HO i hi).2.2.2.2.2⟩⟩
    · refine ⟨1, fun i => a i j, by decide, hD1, fun i hi => ⟨?_, ?_⟩⟩
      · have := (HO i hi).2.2.2.1
        have := sNt_at (f := fun j => (a i j).natAbs) (j := j) (n := n) (by omega)
        have this : (a i j).natAbs ≤ sNt (fun j => (a i j).natAbs) n := this
        show (a i j).natAbs ≤ Q
        omega
      · rw [Int.mul_one]; exact (HO i hi).2.2.1 j (by omega)
  intro i hi j hj
  by_cases hjc : j < c
  · have one : ∀ x : Rat, x = 1 ∨ x = 0 → Fr ((A + 1) * (Q * (2 * A + 2) ^ n)) (Δ * (D.natAbs * (2 * A + 2) ^ n)) x := fun x hx => by
      rcases hx with rfl | rfl
      · exact ⟨1, 1, by decide, by show 1 ≤ _; omega, by show 1 ≤ _; omega, by grind⟩
      · exact ⟨0, 1, by decide, Nat.zero_le _, by show 1 ≤ _; omega, by grind⟩
    apply one
    by_cases hic : i < c
    · rw [I.id i hic j hjc]
      split
      · exact .inl rfl
      · exact .inr rfl
    · right
      rw [I.lo i (by omega) hi j hj, sR_one (k := j) (fun l hl hne => by rw [I.id l hl j hjc, if_neg hne]; grind) hjc, I.id j hjc j hjc, if_pos rfl]
      grind
  · obtain ⟨E, q, hE, hED, hq⟩ := col j (by omega) hj
    have hE0 : (E : Rat) ≠ 0 := fun z => hE (Rat.intCast_eq_zero_iff.mp z)
    have hδ0 : ∀ i, i < n → (δ i : Rat) ≠ 0 := fun i hi z => (HO i hi).1 (Rat.intCast_eq_zero_iff.mp z)
    obtain ⟨y, w, hne, hy, hw, hs⟩ := siegel c a q A Q (fun i hi => Nat.le_trans (sNt_le hc) (HO i (by omega)).2.2.2.1) (fun i hi => (hq i (by omega)).1)
    -- the vector is in the kernel
    have ker : ∀ i, i < c → dot (O i) (vecA c j (fun l => (y l : Rat)) ((E * w : Int) : Rat)) (n + 1) = 0 := fun i hi => by
      rw [dot_vecA (by omega) hj]
      have hin : i < n := by omega
      have e1 : (δ i : Rat) * (sR (fun l => O i l * (y l : Rat)) c + O i j * ((E * w : Int) : Rat)) = 0 := by
        have := congrArg (fun z : Int => (z : Rat)) (hs i hi)
        simp only [Rat.intCast_add, Rat.intCast_mul, sR_cast] at this
        have e2 : sR (fun l => (a i l : Rat) * (y l : Rat)) c = (δ i : Rat) * sR (fun l => O i l * (y l : Rat)) c := by
          rw [← sR_mul]
          exact sR_congr fun l hl => by rw [← (HO i hin).2.2.1 l (by omega)]; grind
        have e3 := (hq i hin).2
        rw [Rat.intCast_mul] at e3
        rw [e2, ← e3] at this
        rw [Rat.intCast_mul]
        have z0 : ((0 : Int) : Rat) = 0 := rfl
        rw [z0] at this
        grind
      have := hδ0 i hin
      grind
    have kerS := (I.sp _).mp ker
    have eqS : ∀ i, i < c → (y i : Rat) + S i j * ((E * w : Int) : Rat) = 0 := fun i hi => by
      have := kerS i hi
      rw [dot_vecA (by omega) hj, sR_one (k := i) (fun l hl hne => by rw [I.id i hi l hl, if_neg (fun e => hne e.symm)]; grind) hi, I.id i hi i hi, if_pos rfl] at this
      grind
    have hw0 : w ≠ 0 := fun z => by
      rcases hne with ⟨l, hl, e⟩ | e
      · have := eqS l hl
        rw [z, Int.mul_zero] at this
        have z0 : ((0 : Int) : Rat) = 0 := rfl
        rw [z0] at this
        have : (y l : Rat) = 0 := by grind
        exact e (Rat.intCast_eq_zero_iff.mp this)
      · exact e z
    have hEw : (E * w).natAbs ≤ D.natAbs * (2 * A + 2) ^ n := by
      rw [Int.natAbs_mul]
      exact Nat.mul_le_mul hED (Nat.le_trans hw hWc)
    have hEw0 : E * w ≠ 0 := Int.mul_ne_zero hE hw0
    have hy' : ∀ l, l < c → (y l).natAbs ≤ Q * (2 * A + 2) ^ n := fun l hl => Nat.le_trans (hy l hl) (Nat.mul_le_mul_left _ hWc)
    by_cases hic : i < c
    · refine ⟨-(y i), E * w, hEw0, ?_, ?_, ?_⟩
      · have := hy' i hic
        omega
      · omega
      · have := eqS i hic
        rw [Rat.intCast_neg]
        grind
    · -- a row below
      have hlo := I.lo i (by omega) hi j hj
      refine ⟨q i * w + sZ (fun l => a i l * y l) c, δ i * (E * w), Int.mul_ne_zero (HO i hi).1 hEw0, ?_, ?_, ?_⟩
      · have h1 : (q i * w).natAbs ≤ Q * (2 * A + 2) ^ n := by
          rw [Int.natAbs_mul]
          exact Nat.mul_le_mul (hq i hi).1 (Nat.le_trans hw hWc)
        have h2 := sZ_abs (a := a i) (y := y) c hy'
        have h3 : sNt (fun j => (a i j).natAbs) c * (Q * (2 * A + 2) ^ n) ≤ A * (Q * (2 * A + 2) ^ n) := Nat.mul_le_mul_right _ (Nat.le_trans (sNt_le hc) (HO i hi).2.2.2.1)
        have h4 := Int.natAbs_add_le (q i * w) (sZ (fun l => a i l * y l) c)
        rw [Nat.succ_mul]
        omega
      · rw [Int.natAbs_mul]
        exact Nat.mul_le_mul (HO i hi).2.1 hEw
      · rw [hlo]
        have e1 : ((sZ (fun l => a i l * y l) c : Int) : Rat) = -((δ i : Rat) * ((E * w : Int) : Rat)) * sR (fun l => O i l * S l j) c := by
          rw [sR_cast, ← sR_mul]
          refine sR_congr fun l hl => ?_
          rw [Rat.intCast_mul, ← (HO i hi).2.2.1 l (by omega)]
          have := eqS l hl
          have : (y l : Rat) = -(S l j * ((E * w : Int) : Rat)) := by grind
          rw [this]
          grind
        have e3 := (hq i hi).2
        rw [Rat.intCast_add, e1, Rat.intCast_mul (q i), ← e3, Rat.intCast_mul, Rat.intCast_mul, Rat.intCast_mul]
        grind
end Od
namespace Od
theorem gjN_none {R : Mx} {n c : Nat} (h : gjN R n c = none) : ∀ k, gjN R n (c + k) = none
  | 0 => h
  | k + 1 => by show (gjN R n (c + k)).bind _ = none; rw [gjN_none h k]; rfl
theorem range_split {n c ch : Nat} (h1 : c ≤ ch) (h2 : ch < n) : List.range n = List.range c ++ ((List.range (ch - c)).map (fun k => c + k) ++ (ch :: (List.range (n - ch - 1)).map fun k => ch + 1 + k)) := by
  have a : List.range n = List.range (c + ((ch - c) + (1 + (n - ch - 1)))) := by congr 1; omega
  rw [a, List.range_add, List.range_add, List.range_add]
  simp only [List.map_append, List.map_map]
  congr 2
  show [c + (ch - c + 0)] ++ _ = _
  rw [show c + (ch - c + 0) = ch by omega, List.singleton_append]
  congr 1
  apply List.map_congr_left
  intro k _
  show c + (ch - c + (1 + k)) = ch + 1 + k
  omega
theorem upto_split {n c ch : Nat} (h1 : c ≤ ch) (h2 : ch < n) : (List.range (n - c)).map (fun k => c + k) = (List.range (ch - c)).map (fun k => c + k) ++ (ch :: (List.range (n - ch - 1)).map fun k => ch + 1 + k) := by
  have a : List.range (n - c) = List.range ((ch - c) + (1 + (n - ch - 1))) := by congr 1; omega
  rw [a, List.range_add, List.range_add]
  simp only [List.map_append, List.map_map]
  congr 1
  show [c + (ch - c + 0)] ++ _ = _
  rw [show c + (ch - c + 0) = ch by omega, List.singleton_append]
  congr 1
  apply List.map_congr_left
  intro k _
  show c + (ch - c + (1 + k)) = ch + 1 + k
  omega
theorem upto_filter {n c ch : Nat} (h1 : c ≤ ch) (h2 : ch < n) : ((List.range (n - c)).map (fun k => c + k)).filter (fun k => !decide (k = ch)) = (List.range (ch - c)).map (fun k => c + k) ++ (List.range (n - ch - 1)).map fun k => ch + 1 + k := by
  rw [upto_split h1 h2, List.filter_append, List.filter_cons_of_neg (by simp)]
  congr 1
  · refine List.filter_eq_self.mpr fun k hk => ?_
    obtain ⟨j, hj, rfl⟩ := List.mem_map.mp hk
    have := List.mem_range.mp hj
    have : ¬ c + j = ch := by omega
    simp [this]
  · refine List.filter_eq_self.mpr fun k hk => ?_
    obtain ⟨j, hj, rfl⟩ := List.mem_map.mp hk
    have : ¬ ch + 1 + j = ch := by omega
    simp [this]
theorem swp_list {α : Type} (f : Nat → α) {n c ch : Nat} (h1 : c ≤ ch) (h2 : ch < n) :
    ((((List.range n).map f).take c ++ [f ch]) ++ (((List.range (n - c)).map (fun k => c + k)).filter fun k => !decide (k = ch)).map f) ++ ((List.range n).map f).drop n = (List.range n).map fun i => f (swI c ch i) := by
  rw [List.drop_eq_nil_of_le (by simp), List.append_nil, upto_filter h1 h2, ← List.map_take, List.take_range, show min c n = c by omega]
  have e : List.range n = List.range c ++ ([c] ++ ((List.range (ch - c)).map (fun k => c + 1 + k) ++ (List.range (n - ch - 1)).map fun k => ch + 1 + k)) := by
    have a : List.range n = List.range (c + (1 + ((ch - c) + (n - ch - 1)))) := by congr 1; omega
    rw [a, List.range_add, List.range_add, List.range_add]
    simp only [List.map_append, List.map_map]
    congr 2
    congr 1
    · apply List.map_congr_left
      intro k _
      show c + (1 + k) = c + 1 + k
      omega
    · apply List.map_congr_left
      intro k _
      show c + (1 + (ch - c + k)) = ch + 1 + k
      omega
  rw [e]
  simp only [List.map_append, List.map_map, List.append_assoc, List.map_cons, List.map_nil]
  congr 1
  · apply List.map_congr_left
    intro i hi
    have := List.mem_range.mp hi
    show f i = f (swI c ch i)
    unfold swI; rw [if_pos this]
  · congr 1
    · show [f ch] = [f (swI c ch c)]
      unfold swI; rw [if_neg (by omega), if_pos rfl]
    · congr 1
      · apply List.map_congr_left
        intro i hi
        have := List.mem_range.mp hi
        show f (c + i) = f (swI c ch (c + 1 + i))
        unfold swI; rw [if_neg (by omega), if_neg (by omega), if_pos (by omega)]
        congr 1; omega
      · apply List.map_congr_left
        intro i hi
        show f (ch + 1 + i) = f (swI c ch (ch + 1 + i))
        unfold swI; rw [if_neg (by omega), if_neg (by omega), if_neg (by omega)]
end Od
namespace Od
open PySem PySem.Spec PyProof.Rows L2
/-- numbers whose products the arithmetic takes -/
def Sb (x : Rat) : Prop := x.num.natAbs < 2 ^ 2200 ∧ x.den < 2 ^ 2200
theorem p2200 : 2 ^ 2200 ≤ 2 ^ 4400 := Nat.pow_le_pow_right (by decide) (by decide)
theorem Sb.sm {x : Rat} (h : Sb x) : Sm x := ⟨Nat.lt_of_lt_of_le h.1 p2200, Nat.lt_of_lt_of_le h.2 p2200⟩
theorem Sb.neg {x : Rat} (h : Sb x) : Sb (-x) := ⟨by rw [Rat.neg_num, Int.natAbs_neg]; exact h.1, h.2⟩
theorem Sb.inv {x : Rat} (h : Sb x) : Sb x⁻¹ := by
  unfold Sb
  rw [Rat.num_inv, Rat.den_inv]
  refine ⟨?_, ?_⟩
  · rw [Int.natAbs_mul, Int.natAbs_natCast, Int.natAbs_sign]
    split
    · have : 0 < 2 ^ 2200 := Nat.pow_pos (by decide)
      omega
    · have := h.2; omega
  · split
    · exact Nat.one_lt_two_pow (by decide)
    · exact h.1
theorem Sb.mul {x y : Rat} (h : Sb x) (g : Sb y) : Sm (x * y) := by
  have e : 2 ^ 2200 * 2 ^ 2200 = 2 ^ 4400 := by rw [← Nat.pow_add]
  unfold Sm
  rw [Rat.num_mul, Rat.den_mul]
  refine ⟨?_, ?_⟩
  · refine Nat.lt_of_le_of_lt (m := x.num.natAbs * y.num.natAbs) ?_ (e ▸ Nat.mul_lt_mul'' h.1 g.1)
    rw [← Int.natAbs_mul, Int.natAbs_ediv_of_dvd]
    · exact Nat.div_le_self _ _
    · exact Int.ofNat_dvd_left.mpr (Nat.gcd_dvd_left _ _)
  · exact Nat.lt_of_le_of_lt (Nat.div_le_self _ _) (e ▸ Nat.mul_lt_mul'' h.2 g.2)
def encM (n : Nat) (R : Mx) : List D := (List.range n).map fun i => encRow (n + 1) (R i)
theorem encM_len {n : Nat} {R : Mx} : (encM n R).length = n := by unfold encM; rw [List.length_map, List.length_range]
theorem encM_at {n : Nat} {R : Mx} {k : Nat} (h : k < n) : atI (encM n R) ((k : Nat) : Int) = some (encRow (n + 1) (R k)) := by
  refine atI_nat ?_
  unfold encM
  rw [List.getElem?_map, List.getElem?_range h]; rfl
def oN : Option Nat → D
  | none => .non
  | some k => .int k
theorem oN_non (o : Option Nat) : isNon (oN o) = !o.isSome := by cases o <;> rfl
theorem oN_any (o : Option Nat) : notAny (oN o) = true := by cases o <;> rfl
def solD (n : Nat) : Option Mx → D
  | none => .non
  | some S => .lst ((List.range n).map fun i => qD (S i n))
def spSolved : Dsp := fun ds μ d μ' => ds.length = 1 ∧ ∃ (n : Nat) (R : Mx), ds = [.lst (encM n R)] ∧ n ≤ 40 ∧ (∀ c, c ≤ n → ∀ S, gjN R n c = some S → ∀ i, i < n → ∀ j, j < n + 1 → Sb (S i j)) ∧ d = solD n (gjN R n n) ∧ μ = μ'
theorem qD_inv (x : Rat) : Rat.divInt (x.den : Int) x.num = x⁻¹ := (Rat.inv_def x).symm
abbrev n_l_solved : List Str := ["_law_rows", "_law_many", "_law_column", "_law_chosen", "_law_k", "_law_lead", "_law_main", "_law_part", "_law_fresh", "_law_factor", "_law_a", "_law_b", "_law_row"]
theorem sc_l_solved : FnScope n_l_solved ["_law_rows"] d_l_solved.scope := ⟨rfl, rfl, rfl, by decide +kernel, rfl, by decide +kernel, by decide +kernel⟩
theorem c_l_solved {g : Gv} (G : Gd g) : Ctr g 5 "_law_solved" (spD g.K spSolved) := by
  obtain ⟨fd, F⟩ := G.def_ 61 (d := d_l_solved) rfl
  refine ⟨_, G.glo "_law_solved", F.kp, fn_of_body F sc_l_solved (F.bindsN fun _ _ _ _ _ _ us hl => match us, hl with | [_], _ => rfl) (fun _ _ _ _ h => h.1) fun l ds μ d μ' R h => ?_⟩
  obtain ⟨-, h⟩ := h
  have nd := sc_l_solved.nd
  obtain ⟨n, R0, rfl, hn, hb, rfl, rfl⟩ := h
  refine DSs_cons (DS_set 1 (DE.eq (DE_len (G.free "len") (DE_var 0) .li) (by rw [encM_len])) ?_ nd)
  refine DSs_cons (DS_for (DI_range (n := n) (G.free "range") (DE_var 1) (by omega)) (fun c ρ μ' => ∃ (S : Mx) (x2 x3 x4 x5 x6 x7 x8 x9 x10 x11 x12 : Option D), ρ = [some (.lst (encM n S)), some (.int n), x2, x3, x4, x5, x6, x7, x8, x9, x10, x11, x12] ∧ μ = μ' ∧ gjN R0 n c = some S) ⟨R0, _, _, _, _, _, _, _, _, _, _, _, rfl, rfl, rfl⟩ (fun _ _ _ _ => trivial) ?_ ?_)
  · rintro c d ρ μ' hi ⟨S, x2, x3, x4, x5, x6, x7, x8, x9, x10, x11, x12, rfl, rfl, hS⟩
    obtain ⟨rfl, hc⟩ := rgD_get hi
    have hbS := hb c (by omega) S hS
    refine ⟨_, _, DG_name 2 nd, ?_⟩
    refine DSs_cons (DS_set 3 DE_non ?_ nd)
    refine DSs_cons (DS_for (DI_range2 (m := c) (n := n) (G.free "range") (DE_var 2) (DE_var 1) (by omega) (by omega)) (fun j ρ μ' => ∃ (x4 : Option D), ρ = [some (.lst (encM n S)), some (.int n), some (.int c), some (oN (((List.range j).map fun k => c + k).find? fun k => decide (S k c ≠ 0))), x4, x5, x6, x7, x8, x9, x10, x11, x12] ∧ μ = μ') ⟨x4, rfl, rfl⟩ (fun _ _ _ _ => trivial) ?_ ?_)
    · rintro j d ρ μ' hi ⟨x4, rfl, rfl⟩
      rw [List.getElem?_map] at hi
      cases hj : (List.range (n - c))[j]? with
      | none => rw [hj] at hi; cases hi
      | some j' =>
        rw [hj] at hi; cases hi
        obtain ⟨h1, h2⟩ := List.getElem?_eq_some_iff.mp hj
        rw [List.getElem_range] at h2
        have hjn : j < n - c := by simpa using h1
        subst h2
        rw [List.range_succ, List.map_append, List.find?_append]
        generalize ((List.range j).map fun k => c + k).find? (fun k => decide (S k c ≠ 0)) = o
        have ez : (!decide ((S (c + j) c).num = 0)) = decide (S (c + j) c ≠ 0) := by
          rw [Bool.eq_iff_iff]
          simp [Rat.num_eq_zero]
        refine ⟨_, _, DG_name 4 nd, ?_⟩
        refine DSs_cons (DS_if (DW.dt (DW_and (DT_isN (DE_var 3) (oN_any _)) fun _ => DW_and1 (DT.eq (DT_neI (DE_ixT (DE_ixL (DE_ixL (DE_var 0) (DE_var 4) (encM_at (by omega))) (DE_var 2) (encL_at (by omega))) DE_int) DE_int) ez))) (fun t => ?_) fun t => ?_)
        · rw [oN_non, Bool.and_eq_true] at t
          have ho : o = none := by
            cases o with
            | none => rfl
            | some x => exact absurd t.1 (by simp)
          subst ho
          refine DSs_cons (DS_set 3 (DE_var 4) ?_ nd)
          refine DSs_nil (DSs_nil ⟨some (.int ((c + j : Nat) : Int)), ?_, rfl⟩)
          rw [Option.none_or, List.map_cons, List.find?_cons_of_pos (p := fun k => decide (S k c ≠ 0)) t.2]
          rfl
        · rw [oN_non] at t
          refine DSs_nil (DSs_nil ⟨some (.int ((c + j : Nat) : Int)), ?_, rfl⟩)
          cases o with
          | none =>
            have t : decide (S (c + j) c ≠ 0) = false := by simpa using t
            rw [Option.none_or, List.map_cons, List.find?_cons_of_neg (p := fun k => decide (S k c ≠ 0)) (by rw [t]; decide)]
            rfl
          | some x => rw [Option.some_or]; rfl
    · rintro ρ μ' ⟨x4, rfl, rfl⟩
      rw [List.length_map, List.length_range]
      have ep : ((List.range (n - c)).map fun k => c + k).find? (fun k => decide (S k c ≠ 0)) = pivF S n c := rfl
      rw [ep]
      have hst : gjN R0 n (c + 1) = (pivF S n c).map fun ch => elimF (swp S c ch) c := by show (gjN R0 n c).bind _ = _; rw [hS]; rfl
      cases hp : pivF S n c with
      | none =>
        rw [hp] at hst
        have hend : gjN R0 n n = none := by
          have := gjN_none (c := c + 1) hst (n - (c + 1))
          rw [show c + 1 + (n - (c + 1)) = n by omega] at this
          exact this
        refine DSs_cons (DS_if (DT_isN (d := .non) (DE_var 3)) (fun _ => ?_) fun t => absurd (show true = false from t) (by decide))
        refine DSs_cons (DS_ret DE_non ?_)
        rw [hend]
        exact Ret.rt
      | some ch =>
        rw [hp] at hst
        have hst : gjN R0 n (c + 1) = some (elimF (swp S c ch) c) := hst
        obtain ⟨p1, p2, p3⟩ := pivF_some hp
        have hbT := hb (c + 1) (by omega) _ hst
        refine DSs_cons (DS_if (DT_isN (d := .int ch) (DE_var 3)) (fun t => absurd (show false = true from t) (by decide)) fun _ => ?_)
        refine DSs_nil ?_
        have hl1 : (encM n S).length = n := encM_len
        refine DSs_cons (DS_setN 0 (d := .lst (encM n (swp S c ch))) (DN.eqL (DN_cat (DN.de (DN_cat (DN.de (DN_cat (DN.de (DN_take (m := c) (DE_var 0) (DE_var 2) .li)) (DN.de (DN_lst (DA_cons (DE_ixL (DE_var 0) (DE_var 3) (encM_at p2)) DA_nil))) .li .li ?_)) (DN.de (lcP [("_law_k", 4)] ((List.range (n - c)).map fun k => c + k) (fun k => .int ((k : Nat) : Int)) (fun k => !decide (k = ch)) (fun k => encRow (n + 1) (S k)) (DI_range2 (m := c) (n := n) (G.free "range") (DE_var 2) (DE_var 1) (by omega) (by omega)) (by rw [List.map_map]; rfl) (fun _ _ => trivial) (fun k hk a l => ⟨_, _, fun s0 H0 Cc cl fp => DG_name 4 nd, by decide, fun s0 H0 Cc cl fp => DTs_one (DT.eq (DT_neI (DE_var 4) (DE_var 3)) ?_), fun _ => fun s0 H0 Cc cl fp => DE_ixL (DE_var 0) (DE_var 4) (encM_at ?_)⟩) nd rfl)) .li .li ?_)) (DN.de (DN_drop (m := n) (DE_var 0) (DE_var 1) .li)) .li .li ?_) ?_) (fun q => ?_) nd)
        · rw [List.length_take, hl1]; show min c n + 1 ≤ _; omega
        · rw [Bool.eq_iff_iff]; simp; omega
        · obtain ⟨j, hj, rfl⟩ := List.mem_map.mp hk
          have := List.mem_range.mp hj
          omega
        · rw [List.length_append, List.length_take, hl1, List.length_map]
          have := List.length_filter_le (fun k => !decide (k = ch)) ((List.range (n - c)).map fun k => c + k)
          rw [List.length_map, List.length_range] at this
          show min c n + 1 + _ ≤ _
          omega
        · rw [List.length_append, List.length_append, List.length_take, hl1, List.length_map, List.length_drop, hl1]
          have := List.length_filter_le (fun k => !decide (k = ch)) ((List.range (n - c)).map fun k => c + k)
          rw [List.length_map, List.length_range] at this
          show min c n + 1 + _ + _ ≤ _
          omega
        · exact congrArg D.lst (swp_list (fun i => encRow (n + 1) (S i)) p1 p2)
        refine DSs_freeze 0 [] (h := ?_)
        have hbW : ∀ i, i < n → ∀ j, j < n + 1 → Sb (swp S c ch i j) := fun i hi j hj => hbS _ (swI_lt p1 p2 hi) j hj
        have hlead : swp S c ch c c ≠ 0 := by
          show S (swI c ch c) c ≠ 0
          unfold swI
          rw [if_neg (by omega), if_pos rfl]
          exact p3
        generalize swp S c ch = W at *
        refine DSs_cons (DS_set 5 (DE_ixL (DE_ixL (DE_var 0) (DE_var 2) (encM_at hc)) (DE_var 2) (encL_at (by omega))) ?_ nd)
        have hinv := (hbW c hc c (by omega)).inv
        have hnum : (W c c).num ≠ 0 := fun z => hlead (Rat.num_eq_zero.mp z)
        have hmain : ∀ j, j < n + 1 → Sb (W c j * (W c c)⁻¹) := fun j hj => by
          have := hbT c hc j hj
          unfold elimF at this
          rw [if_pos rfl] at this
          exact this
        refine DSs_cons (DS_setLc 6 [("_law_part", 7)] (List.range (n + 1)) (fun j => qD (W c j)) (fun _ => true) (fun j => qD (W c j * (W c c)⁻¹)) (DI_lst (DE_ixL (DE_var 0) (DE_var 2) (encM_at hc))) (fun _ _ => trivial) (fun j hj a l => ⟨_, _, fun s0 H0 Cc cl fp => DG_name 7 nd, by decide, fun s0 H0 Cc cl fp => DTs_nil, fun _ => fun s0 H0 Cc cl fp => DE_call (c_l_times G) R (DA_cons (DE_var 7) (DA_cons (DE_call (c_low G) R (DA_cons (DE_ixT (DE_var 5) DE_int) (DA_cons (DE_ixT (DE_var 5) DE_int) DA_nil)) ⟨_, _, rfl, hnum, ?_, rfl, rfl⟩) DA_nil)) ⟨rfl, W c j, (W c c)⁻¹, ?_, (hbW c hc j (List.mem_range.mp hj)).sm, hinv.sm, rfl, rfl⟩⟩) (fun q2 => ?_) nd)
        · have := (hbW c hc c (by omega)).sm.1
          exact Nat.lt_of_lt_of_le this (Nat.pow_le_pow_right (by decide) (by decide))
        · rw [qD_inv]
        rw [List.filter_eq_self.mpr fun _ _ => rfl]
        refine DSs_freeze 6 [] (d := encRow (n + 1) fun j => W c j * (W c c)⁻¹) (h := ?_)
        refine DSs_cons (DS_setN 8 (DN_lst DA_nil) (fun F => ?_) nd)
        refine DSs_cons (DS_for (DI_range (n := n) (G.free "range") (DE_var 1) (by omega)) (fun k ρ μ' => ∃ (x4 x9 x10 x11 : Option D), ρ = [some (.lst (encM n W)), some (.int n), some (.int c), some (.int ch), x4, some (qD (W c c)), some (encRow (n + 1) fun j => W c j * (W c c)⁻¹), x7, some (.ptr F), x9, x10, x11, x12] ∧ μ' = (F, .lst ((List.range k).map fun i => encRow (n + 1) (elimF W c i))) :: μ) ⟨x4, x9, x10, x11, rfl, rfl⟩ (fun _ _ _ _ => trivial) ?_ ?_)
        · rintro k d ρ μ' hi ⟨x4, x9, x10, x11, rfl, rfl⟩
          obtain ⟨rfl, hk⟩ := rgD_get hi
          have hlen : ((List.range k).map fun i => encRow (n + 1) (elimF W c i)).length < 16777216 := by rw [List.length_map, List.length_range]; omega
          have hsnoc : (List.range k).map (fun i => encRow (n + 1) (elimF W c i)) ++ [encRow (n + 1) (elimF W c k)] = (List.range (k + 1)).map fun i => encRow (n + 1) (elimF W c i) := by rw [List.range_succ, List.map_append]; rfl
          refine ⟨_, _, DG_name 4 nd, ?_⟩
          refine DSs_cons (DS_set 9 (DE_ixL (DE_ixL (DE_var 0) (DE_var 4) (encM_at hk)) (DE_var 2) (encL_at (by omega))) ?_ nd)
          refine DSs_cons (DS_if (DT_eqI (DE_var 4) (DE_var 2)) (fun t => ?_) fun t => ?_)
          · have t : k = c := by have := of_decide_eq_true t; omega
            subst t
            refine DSs_cons (DS_expr (apd 0 (DE_var 8) (DE_var 6) (hl := hlen)) ?_)
            refine DSs_nil (DSs_nil ⟨_, _, _, _, rfl, ?_⟩)
            rw [← hsnoc]
            have : (elimF W k k) = fun j => W k j * (W k k)⁻¹ := by funext j; unfold elimF; rw [if_pos rfl]
            rw [this]
            rfl
          · have t : ¬ k = c := by have := of_decide_eq_false t; omega
            have hsq : ∀ j, j < n + 1 → Sm (-(W k c) * (W c j * (W c c)⁻¹)) := fun j hj => (hbW k hk c (by omega)).neg.mul (hmain j hj)
            refine DSs_cons (DS_expr (apd 0 (DE_var 8) (DN.de (lcF [("_law_a", 10), ("_law_b", 11)] (List.range (n + 1)) (fun j => .tup [qD (W k j), qD (W c j * (W c c)⁻¹)]) (fun j => qD (elimF W c k j)) (DI_zip false false (G.free "zip") (DE_ixL (DE_var 0) (DE_var 4) (encM_at hk)) (DE_var 6) rfl rfl (by rw [encL_len, encL_len])) ?_ (fun _ _ => trivial) (fun j hj a l => ⟨_, _, fun s0 H0 Cc cl fp => DG_tup (DGs_cons (DG_name 10 nd) (DGs_cons (DG_name 11 nd) DGs_nil)), by decide, fun s0 H0 Cc cl fp => DE_call (c_l_plus G) R (DA_cons (DE_var 10) (DA_cons (DE_call (c_l_times G) R (DA_cons (DE.eq (DE_tup (DA_cons (DE_sub DE_int (DE_ixT (DE_var 9) DE_int)) (DA_cons (DE_ixT (DE_var 9) DE_int) DA_nil))) (neg_qD _)) (DA_cons (DE_var 11) DA_nil)) ⟨rfl, -(W k c), _, rfl, (hbW k hk c (by omega)).neg.sm, (hmain j (List.mem_range.mp hj)).sm, rfl, rfl⟩) DA_nil)) ⟨rfl, W k j, _, rfl, (hbW k hk j (List.mem_range.mp hj)).sm, hsq j (List.mem_range.mp hj), ?_, rfl⟩⟩) nd rfl)) (hl := hlen)) ?_)
            · unfold pairs encL
              rw [List.zipWith_map_left, List.zipWith_map_right, List.zipWith_self]
            · unfold elimF; rw [if_neg t]
            · refine DSs_nil (DSs_nil ⟨_, _, _, _, rfl, ?_⟩)
              rw [← hsnoc]
              rfl
        · rintro ρ μ' ⟨x4, x9, x10, x11, rfl, rfl⟩
          rw [show (rgD n).length = n by simp [rgD]]
          refine DSs_freeze 8 [] (h := ?_)
          refine DSs_cons (DS_set 0 (DE_var 8) ?_ nd)
          exact DSs_nil ⟨elimF W c, _, _, _, _, _, _, _, _, _, _, _, rfl, rfl, hst⟩
  · rintro ρ μ' ⟨S, x2, x3, x4, x5, x6, x7, x8, x9, x10, x11, x12, rfl, rfl, hS⟩
    rw [show (rgD n).length = n by simp [rgD]] at hS
    rw [hS]
    exact DSs_cons (DS_ret (DN.de (lcF [("_law_row", 12)] (List.range n) (fun i => encRow (n + 1) (S i)) (fun i => qD (S i n)) (DI_lst (DE_var 0)) rfl (fun _ _ => trivial) (fun i hi a l => ⟨_, _, fun s0 H0 Cc cl fp => DG_name 12 nd, by decide, fun s0 H0 Cc cl fp => DE_ixL (DE_var 12) (DE_var 1) (encL_at (by omega))⟩) nd rfl)) Ret.rt)
end Od
namespace Od
open PySem PySem.Spec PyProof.Rows L2
def rowsOK (T : U → List Term) (V : U → Rat) (g : List U) (Rm : Mx) : Prop := ∀ (i : Nat) (u : U), g[i]? = some u → rowGo V g (row0 g u) (T u) = some (Rm i)
def gjOK (n : Nat) (R : Mx) : Prop := ∀ c, c ≤ n → ∀ S, gjN R n c = some S → ∀ i, i < n → ∀ j, j < n + 1 → Sb (S i j)
def putG (V : U → Rat) (g : List U) (S : Mx) : U → Rat := fun u => if u ∈ g then S (g.idxOf u) g.length else V u
/-- what the law's values runs through -/
inductive VRun (T : U → List Term) : (U → Rat) → List (List U) → Option (U → Rat) → Prop where
  | nil (V : U → Rat) : VRun T V [] (some V)
  | stop (V : U → Rat) (g : List U) (gs : List (List U)) (Rm : Mx) : rowsOK T V g Rm → gjOK g.length Rm → gjN Rm g.length g.length = none → VRun T V (g :: gs) none
  | step (V : U → Rat) (g : List U) (gs : List (List U)) (Rm S : Mx) (r : Option (U → Rat)) : rowsOK T V g Rm → gjOK g.length Rm → gjN Rm g.length g.length = some S → VRun T (putG V g S) gs r → VRun T V (g :: gs) r
def valD (lv : List U) : Option (U → Rat) → D
  | none => .non
  | some V => .dic (mapD lv fun u => qD (V u))
theorem putD_old {us : List U} {f : U → D} {u : U} (h : u ∈ us) (d : D) : putD (mapD us f) (uK u) d = mapD us (updU f u d) := by
  unfold putD
  rw [getK_map, if_pos h]
  simp only [Option.isSome_some, if_true]
  unfold mapD
  rw [List.map_map]
  apply List.map_congr_left
  intro x _
  show (if uK x = uK u then (uK x, d) else (uK x, f x)) = (uK x, updU f u d x)
  by_cases e : x = u
  · subst e; rw [if_pos rfl, updU_same]
  · rw [if_neg fun z => e (uK_inj z), updU_ne e]
def spValues : Dsp := fun ds μ d μ' => ds.length = 4 ∧ ∃ (lv : List U) (T : U → List Term) (part : List U) (cut : U) (dv : D) (V : U → Rat) (r : Option (U → Rat)), ds = [LD lv T, blkD part, uD cut, dv] ∧ SG lv (tS T) ∧ (∀ u ∈ part, u ∈ lv) ∧ part.Nodup ∧ (∀ u ∈ lv, u ∈ boxU) ∧
  ValsAt μ dv lv V ∧ (∀ b ∈ lgrpR T part cut, b.Nodup ∧ ∀ u ∈ b, u ∈ lv) ∧ VRun T V (lgrpR T part cut) r ∧ d = valD lv r ∧ μ = μ'
abbrev n_l_values : List Str := ["_law_live_here", "_law_part", "_law_cut", "_law_given", "_law_values_here", "_law_group", "_law_found", "_law_unknown", "_law_number"]
theorem sc_l_values : FnScope n_l_values ["_law_live_here", "_law_part", "_law_cut", "_law_given"] d_l_values.scope := ⟨rfl, rfl, rfl, by decide +kernel, rfl, by decide +kernel, by decide +kernel⟩
theorem c_l_values {g : Gv} (G : Gd g) : Ctr g 6 "_law_values" (spD g.K spValues) := by
  obtain ⟨fd, F⟩ := G.def_ 62 (d := d_l_values) rfl
  refine ⟨_, G.glo "_law_values", F.kp, fn_of_body F sc_l_values (F.bindsN fun _ _ _ _ _ _ us hl => match us, hl with | [_, _, _, _], _ => rfl) (fun _ _ _ _ h => h.1) fun l ds μ d μ' R h => ?_⟩
  obtain ⟨-, h⟩ := h
  have nd := sc_l_values.nd
  obtain ⟨lv, T, part, cut, dv, V, r, rfl, GS, hp, hn, hbox, hdv, hgs, hrun, rfl, rfl⟩ := h
  have hu : (cX g l n_l_values d_l_values.scope).A.units + 1 < cLine := by have := R.un; omega
  have hu64 : (cX g l n_l_values d_l_values.scope).A.units + 64 < cLine := R.units
  have hkeys : (mapD lv fun u => qD (V u)).map (·.1) = lv.map uK := by unfold mapD; rw [List.map_map]; rfl
  have hdic : DicAt (cX g l n_l_values d_l_values.scope).K μ dv (mapD lv fun u => qD (V u)) := hdv
  have hml : ∀ W : U → Rat, (mapD lv fun u => qD (W u)).length < 16777216 := fun W => by
    unfold mapD
    rw [List.length_map]
    have := GS.len
    omega
  refine DSs_cons (DS_setN 4 (DN_dictU hu64 (G.free "dict") (DE_var 3) hdic hkeys GS.nd hbox) (fun q => ?_) nd)
  refine DSs_cons (DS_for (DI_lst (DE_call (c_l_groups G) R (DA_cons (DE_var 0) (DA_cons (DE_var 1) (DA_cons (DE_var 2) DA_nil))) ⟨rfl, lv, T, part, cut, rfl, GS, hp, hn, rfl, rfl⟩)) (fun i ρ μ' => ∃ (W : U → Rat) (x5 x6 x7 x8 : Option D), ρ = [some (LD lv T), some (blkD part), some (uD cut), some dv, some (.ptr q), x5, x6, x7, x8] ∧ μ' = (q, .dic (mapD lv fun u => qD (W u))) :: μ ∧ VRun T W ((lgrpR T part cut).drop i) r) ⟨V, _, _, _, _, rfl, rfl, hrun⟩ (fun _ _ _ _ => trivial) ?_ ?_)
  · rintro i d ρ μ' hi ⟨W, x5, x6, x7, x8, rfl, rfl, hr⟩
    rw [List.getElem?_map] at hi
    cases hx : (lgrpR T part cut)[i]? with
    | none => rw [hx] at hi; cases hi
    | some grp =>
      rw [hx] at hi; cases hi
      obtain ⟨hgn, hgl⟩ := hgs grp (List.mem_of_getElem? hx)
      have hdrop : (lgrpR T part cut).drop i = grp :: (lgrpR T part cut).drop (i + 1) := by
        obtain ⟨h1, h2⟩ := List.getElem?_eq_some_iff.mp hx
        rw [List.drop_eq_getElem_cons h1, h2]
      rw [hdrop] at hr
      have hg40 : grp.length ≤ 40 := Nat.le_trans (nodup_len hgn hgl) GS.len
      have hvals : ValsAt ((q, .dic (mapD lv fun u => qD (W u))) :: μ) (.ptr q) lv W := .inr ⟨q, 0, rfl, rfl⟩
      refine ⟨_, _, DG_name 5 nd, ?_⟩
      cases hr with
      | stop _ _ _ Rm h1 h2 h3 =>
        refine DSs_cons (DS_set 6 (DE_call (c_l_solved G) R (DA_cons (DE_call (c_l_group_rows G) R (DA_cons (DE_var 0) (DA_cons (DE_var 5) (DA_cons (DE_var 4) DA_nil))) ⟨rfl, lv, T, grp, .ptr q, W, Rm, rfl, GS, hgl, hgn, hvals, h1, rfl, rfl⟩) DA_nil) ⟨rfl, grp.length, Rm, rfl, hg40, h2, rfl, rfl⟩) ?_ nd)
        rw [h3]
        refine DSs_cons (DS_if (DT_isN (d := .non) (DE_var 6)) (fun _ => ?_) fun t => absurd (show true = false from t) (by decide))
        exact DSs_cons (DS_ret DE_non Ret.rt1)
      | step _ _ _ Rm S _ h1 h2 h3 h4 =>
        refine DSs_cons (DS_set 6 (DE_call (c_l_solved G) R (DA_cons (DE_call (c_l_group_rows G) R (DA_cons (DE_var 0) (DA_cons (DE_var 5) (DA_cons (DE_var 4) DA_nil))) ⟨rfl, lv, T, grp, .ptr q, W, Rm, rfl, GS, hgl, hgn, hvals, h1, rfl, rfl⟩) DA_nil) ⟨rfl, grp.length, Rm, rfl, hg40, h2, rfl, rfl⟩) ?_ nd)
        rw [h3]
        refine DSs_cons (DS_if (DT_isN (d := .lst ((List.range grp.length).map fun i => qD (S i grp.length))) (DE_var 6)) (fun t => absurd (show false = true from t) (by decide)) fun _ => ?_)
        refine DSs_nil ?_
        have el : (grp.map uD).length = ((List.range grp.length).map fun i => qD (S i grp.length)).length := by simp
        refine DSs_cons (DS_for (DI_zip true false (G.free "zip") (DE_var 5) (DE_var 6) (.inr rfl) rfl el) (fun j ρ μ' => ∃ (x7 x8 : Option D), ρ = [some (LD lv T), some (blkD part), some (uD cut), some dv, some (.ptr q), some (grpD grp), some (.lst ((List.range grp.length).map fun i => qD (S i grp.length))), x7, x8] ∧ μ' = (q, .dic (mapD lv fun u => qD (if u ∈ grp.take j then S (grp.idxOf u) grp.length else W u))) :: μ) ⟨x7, x8, rfl, by simp⟩ (fun _ _ _ _ => trivial) ?_ ?_)
        · rintro j d ρ μ' hi ⟨x7, x8, rfl, rfl⟩
          obtain ⟨v1, v2, e1, e2, rfl⟩ := pairs_get hi
          rw [List.getElem?_map] at e1
          cases hy : grp[j]? with
          | none => rw [hy] at e1; cases e1
          | some u =>
            rw [hy] at e1; cases e1
            have hj : j < grp.length := (List.getElem?_eq_some_iff.mp hy).1
            rw [List.getElem?_map, List.getElem?_range hj] at e2
            cases e2
            have hul := hgl u (List.mem_of_getElem? hy)
            have hidx : grp.idxOf u = j := by
              obtain ⟨h1, h2⟩ := List.getElem?_eq_some_iff.mp hy
              have := List.Nodup.idxOf_getElem hgn j h1
              rw [h2] at this
              exact this
            refine ⟨_, _, DG_tup (DGs_cons (DG_name 7 nd) (DGs_cons (DG_name 8 nd) DGs_nil)), ?_⟩
            refine DSs_cons (DS_put 0 hu (DE_var 8) (DE_var 4) (DE_var 7) (hml _) ?_)
            refine DSs_nil ⟨_, _, rfl, ?_⟩
            rw [putD_old hul]
            show ((q, D.dic (mapD lv _)) :: μ) = _
            congr 3
            refine congrArg (mapD lv) ?_
            funext x
            unfold updU
            rw [take_get hy]
            by_cases e : x = u
            · subst e
              simp [hidx]
            · simp [e]
        · rintro ρ μ' ⟨x7, x8, rfl, rfl⟩
          have : (pairs (grp.map uD) ((List.range grp.length).map fun i => qD (S i grp.length))).length = grp.length := by unfold pairs; simp
          rw [this, List.take_length]
          exact DSs_nil ⟨putG W grp S, _, _, _, _, rfl, rfl, h4⟩
  · rintro ρ μ' ⟨W, x5, x6, x7, x8, rfl, rfl, hr⟩
    rw [List.length_map, List.drop_length] at hr
    cases hr
    refine DSs_freeze 4 [] (h := ?_)
    exact DSs_cons (DS_ret (DE_var 4) Ret.rt)
end Od
namespace Od
open PySem PySem.Spec PyProof.Rows L2
section
variable {A : Around} {s : Shared}
theorem sub_NoneType_dict : isSubtype (.type "NoneType") (.type "dict") = pure false := by rw [isSubtype_type]; kernel_rfl
theorem rcAt_dict_none {l : Addr} (ht : s.TypeIs (.ref l) "dict") (hu : A.units < cLine) : SeqAt.RcAt A s (.ref l) .none false := fun prog w E Q h => by
  exact SeqAt.rc_eq_decline_or (k := false) ht rfl (by decide) sub_NoneType_dict PySem.F.slot_dict_eq PySem.F.slot_NoneType_eq_refl
    (fun _ hq => wpAny_call_entry PySem.F.slot_dict_eq ht PySem.F.entry_dict_eq (by
      show wpAny _ _ (Builtin.Dict.dictSlotArgs "__eq__" ⟨[.ref l, .none], []⟩ >>= _) _ _ s
      refine wpAny_bind ?_
      unfold Builtin.Dict.dictSlotArgs
      refine wpAny_bind (wpAny_notOrdered_dict ht ?_)
      show wpAny _ _ (pure (Value.ref l, Value.none)) _ _ s
      refine wpAny_pure ?_
      refine wpAny_bind (wpAny_isInstance (T := "NoneType") (show s.TypeIs .none "NoneType" from rfl) sub_NoneType_dict ?_)
      simp only [Bool.not_false, if_true]
      exact wpAny_bind (wpAny_rule (wpAny_pure ⟨_, rfl, hq⟩))) (PySem.F.args_dict_eq_2 _ _))
    (fun _ hq => call_gives PySem.F.slot_NoneType_eq_refl rfl PySem.F.entry_NoneType_eq (PySem.F.args_NoneType_eq_2 _ _) (SeqAt.NoneType___eq___none_ref_0 l) hq)
    (fun _ hq => wpAny_of_eq (rfl : isSame (.ref l) .none = pure false) hq) (.inr hu) h
theorem eqAt_dict_none {l : Addr} (ht : s.TypeIs (.ref l) "dict") (hu : A.units < cLine) : SeqAt.EqAt A s (.ref l) .none false := fun prog w E Q h => by
  unfold eqBool
  refine wpAny_holding ?_
  refine wpAny_ite_split (fun hab => absurd (eq_of_beq hab) nofun) (fun _ => ?_)
  exact wpAny_bind (rcAt_dict_none ht hu prog w E _ (wpAny_truthy_bool h))
end
def NoneOrD (H : Hp) (z : V) : Prop := z = .non ∨ ∃ a ws, z = .ref a ∧ Rd H a (.dT ws)
section
variable {X : Cx}
theorem isNoneD_of {z : V} {u : Value} {H : Hp} (r : RelV z u) (f : NoneOrD H z) : PySem.Numpy.isNone u = L2.isNon z := by
  rcases f with rfl | ⟨a, ws, rfl, _⟩
  · cases r; rfl
  · cases r; rfl
theorem any_nonD {H : Hp} : ∀ {xs : List V} {us : List Value}, Vals xs us → (∀ z ∈ xs, NoneOrD H z) → us.any PySem.Numpy.isNone = xs.any L2.isNon
  | _, _, .nil, _ => rfl
  | y :: xs, u :: us, .cons r t, f => by
    rw [List.any_cons, List.any_cons, isNoneD_of r (f y (List.mem_cons_self ..)), any_nonD t fun z hz => f z (List.mem_cons_of_mem _ hz)]
theorem noneOrD_eq {A : Around} {pins : List (Addr × Obj)} {σ : L2.St} {H : Hp} {s : Shared} (I : Inv X pins σ H s) (hu : A.units < cLine) {z : V} {u : Value} (r : RelV z u) (f : NoneOrD H z) : SeqAt.EqAt A s u .none (PySem.Numpy.isNone u) := by
  rcases f with rfl | ⟨a, ws, rfl, ha⟩
  · cases r
    exact SeqAt.EqAt.same _
  · cases r
    obtain ⟨z, lo, ys, rel, dd⟩ := dt_rd I.hok ha
    exact eqAt_dict_none dd.typeIs hu
theorem mem_nonD {A : Around} {pins : List (Addr × Obj)} {σ : L2.St} {H : Hp} {s : Shared} (I : Inv X pins σ H s) (hu : A.units < cLine) : ∀ {xs : List V} {us : List Value}, Vals xs us → (∀ z ∈ xs, NoneOrD H z) → ∀ u ∈ us, SeqAt.EqAt A s u .none (PySem.Numpy.isNone u)
  | _, _, .nil, _ => fun u hu' => by cases hu'
  | y :: xs, u :: us, .cons r t, f => fun u' hu' => by
    rcases List.mem_cons.mp hu' with e | hu'
    · subst e
      exact noneOrD_eq I hu r (f y (List.mem_cons_self ..))
    · exact mem_nonD I hu t (fun z hz => f z (List.mem_cons_of_mem _ hz)) u' hu'
def rNoneInD (K : PySem.W.Frag) : R2 := fun x y H Q => ∃ p xs, x = .non ∧ y = .ref p ∧ SqL K H p xs ∧ (∀ z ∈ xs, NoneOrD H z) ∧ Q (.bl (xs.any L2.isNon)) H
theorem op_noneInD (hu : X.A.units + 64 < cLine) : OpR X (compareOp .In) (rNoneInD X.K) := by
  intro pins s σ H x y v u Q I rx ry h
  obtain ⟨p, xs, rfl, rfl, hq, f, q⟩ := h
  cases rx
  cases ry
  obtain ⟨its, rv, hl, _⟩ := I.list hq
  have hu1 : X.A.in1.units < cLine := by show X.A.units + 1 < cLine; omega
  refine SeqAt.in_listAt PySem.Numpy.isNone hl.isList (fun z hz => mem_nonD I hu1 rv f z (by simpa using hz)) ⟨.bl _, H, I, rfl, ?_⟩
  rw [show its.toArray.any PySem.Numpy.isNone = its.any PySem.Numpy.isNone by simp, any_nonD rv f]
  exact q
end
/-- a None or a dict that stays -/
def noneDic : D → Bool
  | .non => true
  | .dic _ => true
  | _ => false
theorem reps_noneD {K : PySem.W.Frag} {B H : Hp} (s : Inc B H) : ∀ {ds : List D} {xs : List V}, (∀ d ∈ ds, noneDic d = true) → Reps K B ds xs → (∀ z ∈ xs, NoneOrD H z) ∧ xs.any L2.isNon = ds.any Od.isNon
  | [], _, _, h => by cases h; exact ⟨fun z hz => (nomatch hz), rfl⟩
  | d :: ds, _, hd, h => by
    obtain ⟨x, r, rfl, h1, h2⟩ := h
    obtain ⟨i1, i2⟩ := reps_noneD s (ds := ds) (fun e he => hd e (by simp [he])) h2
    have := hd d (by simp)
    cases d with
    | non =>
      cases (show x = .non from h1)
      refine ⟨fun z hz => ?_, ?_⟩
      · rcases List.mem_cons.mp hz with e | e
        · exact .inl e
        · exact i1 z e
      · rw [List.any_cons, List.any_cons, i2]; rfl
    | dic ks =>
      obtain ⟨a, ws, rfl, hr, _⟩ := h1
      refine ⟨fun z hz => ?_, ?_⟩
      · rcases List.mem_cons.mp hz with e | e
        · exact .inr ⟨a, ws, e, s.rd hr⟩
        · exact i1 z e
      · rw [List.any_cons, List.any_cons, i2]; rfl
    | _ => cases this
section
variable {X : Cx} {b : Expr} {ρ : Rho} {μ μ1 : Mu} {ds : List D} {pos : Pos}
theorem DT_noneIn {j pos'} (hu : X.A.units + 64 < cLine) (hb : DE X b ρ μ (.lst ds) μ1) (hd : ∀ d ∈ ds, noneDic d = true) (hm : behindInMarks .In b = false := by rfl) : DT X (.Compare (.Constant .none j pos') [.In] [b] pos) ρ μ (ds.any isNon) μ1 :=
  DT_cmp (op_noneInD hu) (fun B H x y Q S r1 r2 k => by
    obtain ⟨p, xs, rfl, e1, e2⟩ := r2
    obtain ⟨f1, f2⟩ := reps_noneD S.sub hd e2
    refine ⟨p, xs, r1, rfl, SqL.of (S.sub _ _ e1), f1, ?_⟩
    rw [f2]
    exact k B H _ (Inc.refl B) S rfl) DE_non hb hm
end
end Od
namespace Od
open PySem PySem.Spec PyProof.Rows L2
/-- the differences exist and come to nought -/
def dfZ (l : List Rat) (n : Nat) : Prop := (∀ j, j ≤ n → dfOK (dfI l j)) ∧ ∀ x ∈ dfI l (n + 1), x = 0
/-- what the law asks of a cut -/
def RightCut (T : U → List Term) (part : List U) (cut : U) (V : U → Rat) (dg : U → Nat) : Prop :=
  ∃ r : Nat → Option (U → Rat), (∀ t, t < 4 → VRun T (updU V cut (t : Nat)) (lgrpR T part cut) (r t)) ∧
    ((∀ t, t < 4 → r t = none) ∨ ∃ W : Nat → U → Rat, (∀ t, t < 4 → r t = some (W t)) ∧
      (∃ sd : Nat → Rat, (∀ t, t < 4 → sdR (W t) 0 (T cut) = some (sd t)) ∧ dfZ ((List.range 4).map sd) 2) ∧
      ∀ u ∈ part, dg u < 3 → dfZ ((List.range 4).map fun t => W t u) (dg u))
def spCutRight : Dsp := fun ds μ d μ' => ds.length = 5 ∧ ∃ (lv : List U) (T : U → List Term) (part : List U) (cut : U) (p : Addr) (V : U → Rat) (dg : U → Nat) (μ0 : Mu), ds = [LD lv T, blkD part, uD cut, .ptr p, .lst (part.map fun u => .int (dg u))] ∧ SG lv (tS T) ∧ (∀ u ∈ part, u ∈ lv) ∧ part.Nodup ∧ (∀ u ∈ lv, u ∈ boxU) ∧ cut ∈ part ∧
  μ = (p, .dic (mapD lv fun u => qD (V u))) :: μ0 ∧ (∀ b ∈ lgrpR T part cut, b.Nodup ∧ ∀ u ∈ b, u ∈ lv) ∧ RightCut T part cut V dg ∧ d = .bl true ∧ μ' = μ0
theorem upd_qD {V : U → Rat} {u : U} {x : Rat} : updU (fun v => qD (V v)) u (qD x) = fun v => qD (updU V u x v) := by
  funext v
  unfold updU
  by_cases h : v = u <;> simp [h]
theorem dfZ_any {l : List Rat} (h : ∀ x ∈ l, x = 0) : ((l.map fun x : Rat => !decide (x.num = 0)).any fun z => z) = false := by
  rw [List.any_map, List.any_eq_false]
  intro x hx
  rw [h x hx]
  decide
abbrev n_l_cut_is_right : List Str := ["_law_live_here", "_law_part", "_law_cut", "_law_given", "_law_told", "_law_found", "_law_t", "_law_sides", "_law_values_here", "_law_one", "_law_unknown", "_law_degree"]
theorem sc_l_cut_is_right : FnScope n_l_cut_is_right ["_law_live_here", "_law_part", "_law_cut", "_law_given", "_law_told"] d_l_cut_is_right.scope := ⟨rfl, rfl, rfl, by decide +kernel, rfl, by decide +kernel, by decide +kernel⟩
theorem c_l_cut_is_right {g : Gv} (G : Gd g) : Ctr g 7 "_law_cut_is_right" (spD g.K spCutRight) := by
  obtain ⟨fd, F⟩ := G.def_ 65 (d := d_l_cut_is_right) rfl
  refine ⟨_, G.glo "_law_cut_is_right", F.kp, fn_of_body F sc_l_cut_is_right (F.bindsN fun _ _ _ _ _ _ us hl => match us, hl with | [_, _, _, _, _], _ => rfl) (fun _ _ _ _ h => h.1) fun l ds μ d μ' R h => ?_⟩
  obtain ⟨-, h⟩ := h
  have nd := sc_l_cut_is_right.nd
  obtain ⟨lv, T, part, cut, p, V, dg, μ0, rfl, GS, hp, hn, hbox, hcut, rfl, hgs, ⟨r, hrun, hres⟩, rfl, rfl⟩ := h
  have hu : (cX g l n_l_cut_is_right d_l_cut_is_right.scope).A.units + 1 < cLine := by have := R.un; omega
  have hu64 : (cX g l n_l_cut_is_right d_l_cut_is_right.scope).A.units + 64 < cLine := R.units
  have hml : ∀ W : U → Rat, (mapD lv fun u => qD (W u)).length < 16777216 := fun W => by
    unfold mapD
    rw [List.length_map]
    have := GS.len
    omega
  have hcl := hp cut hcut
  refine DSs_cons (DS_setN 5 (DN_lst DA_nil) (fun F => ?_) nd)
  refine DSs_cons (DS_for (DI_range (n := 4) (G.free "range") DE_int (by omega)) (fun t ρ μ2 => ∃ (W : U → Rat) (x6 x7 x8 x9 x10 x11 : Option D), ρ = [some (LD lv T), some (blkD part), some (uD cut), some (.ptr p), some (.lst (part.map fun u => .int (dg u))), some (.ptr F), x6, x7, x8, x9, x10, x11] ∧ μ2 = (F, .lst ((List.range t).map fun t => valD lv (r t))) :: (p, .dic (mapD lv fun u => qD (W u))) :: μ' ∧ ∀ x, updU W cut x = updU V cut x) ⟨V, _, _, _, _, _, _, rfl, rfl, fun _ => rfl⟩ (fun _ _ _ _ => trivial) ?_ ?_)
  · rintro t d ρ μ2 hi ⟨W, x6, x7, x8, x9, x10, x11, rfl, rfl, hW⟩
    obtain ⟨rfl, ht⟩ := rgD_get hi
    refine ⟨_, _, DG_name 6 nd, ?_⟩
    refine DSs_cons (DS_put 1 hu (DE.eq (d' := qD ((t : Nat) : Rat)) (DE_tup (DA_cons (DE_var 6) (DA_cons DE_int DA_nil))) rfl) (DE_var 3) (DE_var 2) (hml _) ?_)
    rw [putD_old hcl, upd_qD, hW]
    have hv : ValsAt ((F, .lst ((List.range t).map fun t => valD lv (r t))) :: (p, .dic (mapD lv fun u => qD (updU V cut ((t : Nat) : Rat) u))) :: μ') (.ptr p) lv (updU V cut ((t : Nat) : Rat)) := .inr ⟨p, 1, rfl, rfl⟩
    refine DSs_cons (DS_expr (apd 0 (DE_var 5) (DE_call (c_l_values G) R (DA_cons (DE_var 0) (DA_cons (DE_var 1) (DA_cons (DE_var 2) (DA_cons (DE_var 3) DA_nil)))) ⟨rfl, lv, T, part, cut, .ptr p, _, r t, rfl, GS, hp, hn, hbox, hv, hgs, hrun t ht, rfl, rfl⟩) (hl := by rw [List.length_map, List.length_range]; omega)) ?_)
    refine DSs_nil ⟨updU V cut ((t : Nat) : Rat), _, _, _, _, _, _, rfl, ?_, fun x => updU_upd⟩
    rw [List.range_succ, List.map_append]
    rfl
  · rintro ρ μ2 ⟨W0, x6, x7, x8, x9, x10, x11, rfl, rfl, hW⟩
    rw [show (rgD 4).length = 4 from rfl]
    refine DSs_freeze 5 [] (h := ?_)
    rcases hres with hnone | ⟨W, hsome, ⟨sd, hsd, hdz⟩, hdeg⟩
    · have e : (List.range 4).map (fun t => valD lv (r t)) = [.non, .non, .non, .non] := by
        rw [show List.range 4 = [0, 1, 2, 3] from rfl]
        simp only [List.map_cons, List.map_nil, hnone 0 (by omega), hnone 1 (by omega), hnone 2 (by omega), hnone 3 (by omega)]
        rfl
      rw [e]
      refine DSs_cons (DS_if (DT_noneIn hu64 (DE_var 5) (fun d hd => by
        simp only [List.mem_cons, List.not_mem_nil, or_false, or_self] at hd
        rw [hd]; rfl)) (fun _ => ?_) fun c => absurd (c : ([D.non, D.non, D.non, D.non].any isNon) = false) (by decide))
      refine DSs_cons (DS_ret (DE_cmp (op_eqD hu64) (vEqD (p := .list [.none, .none, .none, .none]) (q := .list [.none, .none, .none, .none]) rfl rfl (by decide) (by decide)) (DE_var 5) (DN.de (DN_lst (DA_cons DE_non (DA_cons DE_non (DA_cons DE_non (DA_cons DE_non DA_nil))))))) ?_)
      exact Ret.of (by rfl) (List.sublist_cons_self _ _)
    · have e : (List.range 4).map (fun t => valD lv (r t)) = (List.range 4).map fun t => .dic (mapD lv fun u => qD (W t u)) := by
        apply List.map_congr_left
        intro t ht
        rw [hsome t (List.mem_range.mp ht)]
        rfl
      rw [e]
      have eany : (((List.range 4).map fun t => D.dic (mapD lv fun u => qD (W t u))).any isNon) = false := by
        rw [List.any_map, List.any_eq_false]
        intro t _
        simp [isNon]
      refine DSs_cons (DS_if (DT_noneIn hu64 (DE_var 5) (fun d hd => by
        obtain ⟨t, _, rfl⟩ := List.mem_map.mp hd
        rfl)) (fun c => ?_) fun _ => ?_)
      · rw [eany] at c; exact absurd c (by decide)
      refine DSs_nil ?_
      refine DSs_cons (DS_setLc 7 [("_law_values_here", 8)] (List.range 4) (fun t => .dic (mapD lv fun u => qD (W t u))) (fun _ => true) (fun t => qD (sd t)) (DI_lst (DE_var 5)) (fun _ _ => trivial) (fun t ht a l => ⟨_, _, fun s0 H0 Cc cl fp => DG_name 8 nd, by decide, fun s0 H0 Cc cl fp => DTs_nil, fun _ => fun s0 H0 Cc cl fp => DE_call (c_l_side G) R (DA_cons (DE_var 0) (DA_cons (DE_var 2) (DA_cons (DE_var 8) DA_nil))) ⟨rfl, lv, T, cut, _, W t, sd t, rfl, GS, hcl, .inl rfl, hsd t (List.mem_range.mp ht), rfl, rfl⟩⟩) (fun q => ?_) nd)
      rw [List.filter_eq_self.mpr fun _ _ => rfl]
      refine DSs_freeze 7 [] (d := .lst (((List.range 4).map sd).map qD)) (h := ?_)
      have hl4 : ((List.range 4).map sd).length = 4 := by simp
      refine DSs_cons (DS_if (DT_val (DE_any_ (bs := (dfI ((List.range 4).map sd) 3).map fun x : Rat => !decide (x.num = 0)) (G.free "any") (DN.de (lcF [("_law_one", 9)] (dfI ((List.range 4).map sd) 3) qD (fun x => .bl (!decide (x.num = 0))) (DI_lst (DE_call (c_l_difference G) R (DA_cons (DE_var 7) (DA_cons DE_int DA_nil)) ⟨rfl, (List.range 4).map sd, 2, rfl, by rw [hl4]; omega, by rw [hl4]; omega, hdz.1, rfl, rfl⟩)) rfl (fun _ _ => trivial) (fun x hx a l => ⟨_, _, fun s0 H0 Cc cl fp => DG_name 9 nd, by decide, fun s0 H0 Cc cl fp => DE_cmp op_ne vNeI (DE_ixT (DE_var 9) DE_int) DE_int⟩) nd (by rw [List.map_map]; rfl))))) (fun c => ?_) fun _ => ?_)
      · rw [dfZ_any hdz.2] at c; exact absurd c (by decide)
      refine DSs_nil ?_
      have ep : pairs (part.map uD) (part.map fun u => D.int (dg u)) = part.map fun u => .tup [uD u, .int (dg u)] := by
        unfold pairs
        rw [List.zipWith_map_left, List.zipWith_map_right, List.zipWith_self]
      refine DSs_cons (DS_for (ep ▸ DI_zip true false (G.free "zip") (DE_var 1) (DE_var 4) (.inl rfl) rfl (by rw [List.length_map, List.length_map])) (fun i ρ μ2 => ∃ (x8 x9 x10 x11 : Option D), ρ = [some (LD lv T), some (blkD part), some (uD cut), some (.ptr p), some (.lst (part.map fun u => .int (dg u))), some (.lst ((List.range 4).map fun t => .dic (mapD lv fun u => qD (W t u)))), x6, some (.lst (((List.range 4).map sd).map qD)), x8, x9, x10, x11] ∧ μ2 = (p, .dic (mapD lv fun u => qD (W0 u))) :: μ') ⟨x8, x9, x10, x11, rfl, rfl⟩ (fun _ _ _ _ => trivial) ?_ ?_)
      · rintro i d ρ μ2 hi ⟨x8, x9, x10, x11, rfl, rfl⟩
        rw [List.getElem?_map] at hi
        cases hx : part[i]? with
        | none => rw [hx] at hi; cases hi
        | some u =>
          rw [hx] at hi; cases hi
          have hum := List.mem_of_getElem? hx
          have hul := hp u hum
          refine ⟨_, _, DG_tup (DGs_cons (DG_name 10 nd) (DGs_cons (DG_name 11 nd) DGs_nil)), ?_⟩
          refine DSs_cons (DS_if (DT_ltI (DE_var 11) DE_int) (fun c => ?_) fun _ => ?_)
          · have c : dg u < 3 := by have := of_decide_eq_true c; omega
            obtain ⟨z1, z2⟩ := hdeg u hum c
            have hlen : ((List.range 4).map fun t => W t u).length = 4 := by simp
            refine DSs_cons (DS_if (DT_val (DE_any_ (bs := (dfI ((List.range 4).map fun t => W t u) (dg u + 1)).map fun x : Rat => !decide (x.num = 0)) (G.free "any") (DN.de (lcF [("_law_one", 9)] (dfI ((List.range 4).map fun t => W t u) (dg u + 1)) qD (fun x => .bl (!decide (x.num = 0))) (DI_lst (DE_call (c_l_difference G) R (DA_cons (DN.de (lcF [("_law_values_here", 8)] (List.range 4) (fun t => .dic (mapD lv fun u => qD (W t u))) (fun t => qD (W t u)) (DI_lst (DE_var 5)) rfl (fun _ _ => trivial) (fun t ht a l => ⟨_, _, fun s0 H0 Cc cl fp => DG_name 8 nd, by decide, fun s0 H0 Cc cl fp => DE_dget hu (DE_var 8) (DE_var 10) .fz (by rw [getK_map, if_pos hul])⟩) nd rfl)) (DA_cons (DE_var 11) DA_nil)) ⟨rfl, (List.range 4).map fun t => W t u, dg u, by rw [List.map_map]; rfl, by rw [hlen]; omega, by rw [hlen]; omega, z1, rfl, rfl⟩)) rfl (fun _ _ => trivial) (fun x hx a l => ⟨_, _, fun s0 H0 Cc cl fp => DG_name 9 nd, by decide, fun s0 H0 Cc cl fp => DE_cmp op_ne vNeI (DE_ixT (DE_var 9) DE_int) DE_int⟩) nd (by rw [List.map_map]; rfl))))) (fun c => ?_) fun _ => ?_)
            · rw [dfZ_any z2] at c; exact absurd c (by decide)
            · exact DSs_nil (DSs_nil (DSs_nil ⟨_, _, _, _, rfl, rfl⟩))
          · exact DSs_nil (DSs_nil ⟨_, _, _, _, rfl, rfl⟩)
      · rintro ρ μ2 ⟨x8, x9, x10, x11, rfl, rfl⟩
        exact DSs_cons (DS_ret DE_bl Ret.rt1)
end Od
namespace Od
def okP (ex sz : List Int) (p : Nat) : Pt → Prop
  | .draw bs => bs.map (·.1) ∈ menu ∧ ∀ b ∈ bs, 0 ≤ b.2 ∧ b.2 < sz.getD p 0
  | .call r gs => 0 ≤ r ∧ r < ex.length ∧ (gs.length : Int) = ex.getD r.toNat 0 ∧ ∀ t ∈ gs, 0 ≤ t ∧ t < sz.getD p 0
  | .exit e => 0 ≤ e ∧ e < ex.getD p 0
  | .reward a t => 0 ≤ a.num ∧ a.num ≤ 29 ∧ a.den ≤ 12 ∧ 0 ≤ t ∧ t < sz.getD p 0
  | .reject => True
  | .stop => True
theorem digs_rg {st : Stm} {m : Int} (hm : 0 < m) {j : Nat} : ∀ t ∈ digs st m j, 0 ≤ t ∧ t < m := fun t ht => by
  unfold digs at ht
  obtain ⟨i, _, rfl⟩ := List.mem_map.mp ht
  exact nx_rg _ hm
theorem draw_ok {st : Stm} {ex sz : List Int} {p : Nat} (hs : 0 < sz.getD p 0) : okP ex sz p (.draw (drawBs st (sz.getD p 0))) := by
  obtain ⟨h1, h2⟩ := nx_rg st (m := 10) (by decide)
  have hl : (nx st 10).toNat < menu.length := by rw [menu_len]; omega
  refine ⟨?_, fun b hb => ?_⟩
  · unfold drawBs
    rw [List.map_fst_zip (by rw [digs_len]; exact Nat.le_refl _)]
    unfold rowOf
    rw [List.getD_eq_getElem?_getD, List.getElem?_eq_getElem hl]
    exact List.getElem_mem hl
  · unfold drawBs at hb
    exact digs_rg hs b.2 (List.of_mem_zip hb).2
theorem divInt_rg {a b : Int} (ha : 0 ≤ a) (hb : 0 < b) : 0 ≤ (Rat.divInt a b).num ∧ (Rat.divInt a b).num ≤ a ∧ ((Rat.divInt a b).den : Int) ≤ b := by
  have hg : 0 < Int.gcd b a := Int.gcd_pos_of_ne_zero_left _ (by omega)
  rw [Rat.num_divInt, Rat.den_divInt, if_neg (by omega), Int.sign_eq_one_of_pos hb, Int.one_mul]
  refine ⟨Int.ediv_nonneg ha (by omega), Int.ediv_le_self _ ha, ?_⟩
  have := Nat.div_le_self b.natAbs (Int.gcd b a)
  omega
theorem point_ok {st : Stm} {ex sz : List Int} {p : Nat} (hp : p < ex.length) (oe : okEx ex) (hs : 0 < sz.getD p 0) : okP ex sz p (pointR st ex sz p).1 := by
  unfold pointR
  split
  · exact draw_ok hs
  · split
    · obtain ⟨r0, r1⟩ := called_rg (s1 := nxS st 12) hp
      have re := oe _ (getD_mem (l := ex) (i := (calledOf (nxS st 12) ex p).toNat) (by omega))
      refine ⟨r0, r1, ?_, digs_rg hs⟩
      rw [digs_len]
      omega
    · split
      · rename_i h
        exact nx_rg _ h.2
      · split
        · have a1 := nx_rg (nxS st 12) (m := 30) (by decide)
          have a2 := nx_rg (nxS (nxS st 12) 30) (m := 12) (by decide)
          have a3 := nx_rg (nxS (nxS (nxS st 12) 30) 12) hs
          have := divInt_rg (a := nx (nxS st 12) 30) (b := 1 + nx (nxS (nxS st 12) 30) 12) (by omega) (by omega)
          exact ⟨this.1, by omega, by omega, a3.1, a3.2⟩
        · show okP ex sz p (if _ then .reject else .stop)
          split <;> exact True.intro
theorem pts_ok {st : Stm} {ex sz : List Int} {p : Nat} (hp : p < ex.length) (oe : okEx ex) (hs : 0 < sz.getD p 0) : ∀ j, ∀ t ∈ (ptsR st ex sz p j).1, okP ex sz p t
  | 0 => fun t ht => by
    rw [show (ptsR st ex sz p 0).1 = [.draw (drawBs st (sz.getD p 0))] from rfl, List.mem_singleton] at ht
    subst ht
    exact draw_ok hs
  | j + 1 => fun t ht => by
    rcases List.mem_append.mp (show t ∈ (ptsR st ex sz p j).1 ++ [_] from ht) with z | z
    · exact pts_ok hp oe hs j t z
    · rw [List.mem_singleton] at z; subst z; exact point_ok hp oe hs
theorem proc_ok {st : Stm} {ex sz : List Int} {p : Nat} (hp : p < ex.length) (oe : okEx ex) (hs : 2 ≤ sz.getD p 0) : (procR st ex sz p).1.1 = ex.getD p 0 ∧ ((procR st ex sz p).1.2.length : Int) = sz.getD p 0 ∧ ∀ t ∈ (procR st ex sz p).1.2, okP ex sz p t := by
  unfold procR
  split
  · rename_i h
    refine ⟨rfl, ?_, fun t ht => ?_⟩
    · rw [List.length_set, ptsR_len]; omega
    · rcases List.mem_or_eq_of_mem_set ht with z | z
      · exact pts_ok hp oe (by omega) _ t z
      · subst z; exact nx_rg _ h
  · refine ⟨rfl, ?_, pts_ok hp oe (by omega) _⟩
    rw [ptsR_len]; omega
theorem procs_get {st : Stm} {ex sz : List Int} : ∀ {k i : Nat}, i < k → ∃ st', (procsR st ex sz k).1[i]? = some (procR st' ex sz i).1
  | 0, i, h => absurd h (Nat.not_lt_zero _)
  | k + 1, i, h => by
    show ∃ st', ((procsR st ex sz k).1 ++ [(procR (procsR st ex sz k).2 ex sz k).1])[i]? = _
    by_cases e : i = k
    · subst e
      refine ⟨(procsR st ex sz i).2, ?_⟩
      rw [List.getElem?_append_right (by rw [procsR_len]; exact Nat.le_refl _), procsR_len, Nat.sub_self]
      rfl
    · obtain ⟨st', h'⟩ := procs_get (st := st) (ex := ex) (sz := sz) (k := k) (i := i) (by omega)
      refine ⟨st', ?_⟩
      rw [List.getElem?_append_left (by rw [procsR_len]; omega)]
      exact h'
theorem good_procs {st : Stm} {ex sz : List Int} {n : Nat} (hn : n = 1 ∨ n = 2) (he : ex.length = n) (hz : sz.length = n) (oe : okEx ex) (os : ∀ e ∈ sz, 2 ≤ e ∧ e ≤ 5) : GoodP (procsR st ex sz n).1 := by
  have hl := procsR_len st ex sz n
  have at_ : ∀ r : Int, 0 ≤ r → r < n → (prAt (procsR st ex sz n).1 r).1 = ex.getD r.toNat 0 := fun r h0 h1 => by
    obtain ⟨st', h'⟩ := procs_get (st := st) (ex := ex) (sz := sz) (k := n) (i := r.toNat) (by omega)
    unfold prAt
    rw [List.getD_eq_getElem?_getD, h']
    exact (proc_ok (st := st') (ex := ex) (sz := sz) (p := r.toNat) (by omega) oe (os _ (getD_mem (by omega))).1).1
  refine ⟨by rw [hl]; exact hn, fun q hq => ?_⟩
  obtain ⟨i, hi⟩ := List.getElem?_of_mem hq
  have hil : i < n := by
    have := (List.getElem?_eq_some_iff.mp hi).1
    omega
  obtain ⟨st', h'⟩ := procs_get (st := st) (ex := ex) (sz := sz) (k := n) (i := i) hil
  rw [hi] at h'
  obtain rfl := Option.some.inj h'
  have hs := os _ (getD_mem (l := sz) (i := i) (by omega))
  have hx := oe _ (getD_mem (l := ex) (i := i) (by omega))
  obtain ⟨a, b, c⟩ := proc_ok (st := st') (ex := ex) (sz := sz) (p := i) (by omega) oe hs.1
  refine ⟨by omega, by omega, by omega, by omega, fun t ht => ?_⟩
  have := c t ht
  cases t with
  | draw bs => exact ⟨this.1, fun x hx => by have := this.2 x hx; omega⟩
  | call r gs =>
    obtain ⟨h1, h2, h3, h4⟩ := this
    exact ⟨h1, by rw [hl]; omega, by rw [h3, at_ r h1 (by omega)], fun x hx => by have := h4 x hx; omega⟩
  | exit e => exact ⟨this.1, by rw [a]; exact this.2⟩
  | reward x t => exact ⟨this.1, this.2.1, this.2.2.1, this.2.2.2.1, by rw [b]; exact this.2.2.2.2⟩
  | reject => exact True.intro
  | stop => exact True.intro
end Od
namespace Od
open PySem PySem.Spec PyProof.Rows L2
def DAX (X : Cx) (es : List Expr) (ρ : Rho) (μ : Mu) (F : List D → Mu → Prop) : Prop := ∀ (B H : Hp) (σ : L2.St) (Q : List V → Hp → Prop), Sat X.K B H μ → Slots X.K B ρ σ → (∀ B' H' vs ds μ', Inc B B' → Sat X.K B' H' μ' → Reps X.K B' ds vs → F ds μ' → Q vs H') → wA X es σ H Q
section
variable {X : Cx} {e : Expr} {es : List Expr} {ρ : Rho} {μ μ1 μ2 : Mu} {d c : D} {F : List D → Mu → Prop} {x : Str} {p pos : Pos} {sp : Dsp} {k j : Nat}
theorem DAX_nil (h : F [] μ) : DAX X [] ρ μ F := fun B H σ Q S L q => paW pa_nil (q B H [] [] μ (Inc.refl B) S rfl h)
theorem DAX_cons (ha : DE X e ρ μ d μ1) (hr : DAX X es ρ μ1 fun ds μ2 => F (d :: ds) μ2) (hs : starEach (e :: es) X.env = (false, eval e X.env) :: starEach es X.env := by rfl) : DAX X (e :: es) ρ μ F := fun B H σ Q S L q =>
  paW (pa_cons pe_w pa_w hs) (ha B H σ _ S L fun B1 H1 x i1 S1 r1 => hr B1 H1 σ _ S1 (L.inc i1) fun B2 H2 xs ds μ' i2 S2 r2 h => q B2 H2 _ (d :: ds) μ' (i1.trans i2) S2 ⟨x, xs, rfl, r1.inc i2, r2⟩ h)
theorem DAX_consN (ha : DN X e ρ μ c μ1) (hr : ∀ a : Addr, DAX X es ρ ((a, c) :: μ1) fun ds μ2 => F (.ptr a :: ds) μ2) (hs : starEach (e :: es) X.env = (false, eval e X.env) :: starEach es X.env := by rfl) : DAX X (e :: es) ρ μ F := fun B H σ Q S L q =>
  paW (pa_cons pe_w pa_w hs) (ha B H σ _ S L fun B1 H1 a i1 S1 => hr a B1 H1 σ _ S1 (L.inc i1) fun B2 H2 xs ds μ' i2 S2 r2 h => q B2 H2 _ (.ptr a :: ds) μ' (i1.trans i2) S2 ⟨_, xs, rfl, (rfl : V.ref a = V.ref a), r2⟩ h)
theorem DE_callX (c : Ctr (gvOf X) k x (spD X.K sp)) (hr : Room j X.A) (ha : DAX X (e :: es) ρ μ fun ds μ1 => sp ds μ1 d μ2) (hk : k ≤ j := by decide) (hg : Gl X x := by rfl) (hdb : (x == ("__debug__" : Str)) = false := by decide)
    (he : starEach (e :: es) X.env = (false, eval e X.env) :: starEach es X.env := by rfl) (hpl : (backTo pos (starEach es X.env)).any (·.1) = false := by rfl) : DE X (.Call (.Name x p) (e :: es) [] pos) ρ μ d μ2 := fun B H σ Q S L kk => by
  obtain ⟨f, hm, kp, fd, ps, F, hb⟩ := c.ex
  refine peW (pe_call F (hr.mono hk) hg hm kp hb .nil (E := fun _ _ _ => True) C8.pass0 pa_w hdb he hpl) ?_
  show wA X (e :: es) σ H _
  refine ha B H σ _ S L fun B1 H1 vs ds μ1 i S1 r hs => ?_
  rw [List.append_nil]
  exact ⟨B1, ds, μ1, d, μ2, S1, r, hs, kk.inc i⟩
end
end Od
namespace Od
open PySem PySem.Spec PyProof.Rows L2
/-- what is drawn for the unknowns -/
def GivOK (lv : List U) (V : U → Rat) : Prop := ∀ u ∈ lv, ∃ a b : Int, 0 ≤ a ∧ a < 5 ∧ 0 ≤ b ∧ b < 7 ∧ V u = Rat.divInt (1 + a) (3 + b)
/-- the plain law -/
def LawOK (ps : List Proc) (V : U → Rat) : Prop :=
  lpartsR (livU ps) (lreach (livU ps).length (facR (tS (livT ps)))) = partsR ps ∧
  ∀ part ∈ partsR ps, ∀ cut ∈ cutsR (sysF ps) part, ∃ (fd : FD) (dg : U → Nat), (partsR ps).find? (fun b => decide (cut ∈ b)) = some part ∧ curvR (sysF ps) part = true ∧ degR (sysF ps) part cut = some fd ∧
    (∀ o ∈ part, (fd.find? fun x => decide (x.1 = o)).isSome) ∧ (∀ o ∈ part, degOf fd o = (dg o : Int)) ∧ cut ∈ part ∧ (∀ b ∈ lgrpR (livT ps) part cut, b.Nodup ∧ ∀ u ∈ b, u ∈ livU ps) ∧ RightCut (livT ps) part cut V dg
def PlainLaw : Prop := ∀ (ps : List Proc) (V : U → Rat), GoodP ps → GivOK (livU ps) V → LawOK ps V
theorem tS_liv (ps : List Proc) : tS (livT ps) = sysF ps := by
  funext u
  unfold tS livT sysF facF
  rw [List.filter_map]
  rfl
theorem liv_box {ps : List Proc} (G : GoodP ps) : ∀ u ∈ livU ps, u ∈ boxU := fun u hu => by
  obtain ⟨h1, h2, h3, h4, h5, h6⟩ := mem_unkR.mp (List.mem_filter.mp hu).1
  obtain ⟨q1, q2, q3, q4, _⟩ := G.each _ (prAt_mem h1 h2)
  have := G.len
  unfold boxU
  rw [List.mem_flatMap]
  refine ⟨u.1.toNat, List.mem_range.mpr (by omega), ?_⟩
  rw [List.mem_flatMap]
  refine ⟨u.2.1.toNat, List.mem_range.mpr (by omega), ?_⟩
  rw [List.mem_map]
  refine ⟨u.2.2.toNat, List.mem_range.mpr (by omega), ?_⟩
  obtain ⟨a, b, c⟩ := u
  simp only [Prod.mk.injEq]
  simp only at h1 h3 h5
  omega
def spLaw : Dsp := fun ds μ d μ' => ds.length = 1 ∧ ∃ ns, ds = [.slst ns] ∧ (∀ p ∈ μ, noG p.2 = true) ∧ d = .bl true ∧ μ = μ'
theorem noG_new {μ : Mu} {q : Addr} {d : D} (h : ∀ p ∈ μ, noG p.2 = true) (hd : noG d = true) : ∀ p ∈ (q, d) :: μ, noG p.2 = true := fun p hp => by
  rcases List.mem_cons.mp hp with e | e
  · rw [e]; exact hd
  · exact h p e
abbrev n_law : List Str := ["_law_script", "_law_stream_here", "_law_procedures_here", "_law_graph", "_law_live_here", "_law_listed", "_law_given", "_law_unknown", "_law_at", "_law_cut", "_law_told"]
theorem sc_law : FnScope n_law ["_law_script"] d_law.scope := ⟨rfl, rfl, rfl, by decide +kernel, rfl, by decide +kernel, by decide +kernel⟩
theorem fnok_of_body {g : Gv} {k : Nat} {f : Addr} {x qual : Str} {params : Arguments} {body : List Stmt} {scope : Scope} {fd : FuncData} {N ps : List Str} {sp : Dsp} (F : FunD g.K x qual params body scope [] [] f fd) (S : FnScope N ps scope)
    (len : ∀ ds μ d μ', sp ds μ d μ' → ds.length = ps.length)
    (h : ∀ (l : Lv) (ds : List D) (μ : Mu) (d : D) (μ' : Mu), Room k (cX g l N scope).A → sp ds μ d μ' → DSs (cX g l N scope) body (startR N ds) μ (Ret d μ')) : FnOk g.P g.w g.K g.mg g.base C8.CX0 (k + 1) f fd ps (spD g.K sp) := by
  refine F.ok S (fun vs H Q E h => ?_) (fun cdv A outer s H vs Q E hr h' => ⟨wSs (cX g ⟨qual, f, cdv, A, outer, s, H, E⟩ N scope) body, PSs.nox pss_w, ?_⟩)
  · obtain ⟨B, ds, μ, d, μ', _, r, q, _⟩ := h
    rw [r.length]; exact len _ _ _ _ q
  · obtain ⟨B, ds, μ, d, μ', S', r, q, kd⟩ := h'
    refine h ⟨qual, f, cdv, A, outer, s, H, E⟩ ds μ d μ' hr q B H _ _ S' (slots_start r) fun o p => ?_
    cases o with
    | rt d1 μ1 =>
      obtain ⟨e, sb⟩ := p
      subst e
      exact fun B' H' v i S2 r2 => kd B' H' v i (S2.sublist sb) r2
    | nx ρ μ1 =>
      obtain ⟨e, sb⟩ := p
      subst e
      exact fun B' H' v i S2 r2 => kd B' H' _ i (S2.sublist sb) rfl
    | bk _ _ => exact p.elim
    | ct _ _ => exact p.elim
theorem law_ok (HP : PlainLaw) {g : Gv} (G : Gd g) {fd : FuncData} (F : FunD g.K d_law.name d_law.qual d_law.params d_law.body d_law.scope [] [] (He.fAd g.K d_law.at_) fd) : FnOk g.P g.w g.K g.mg g.base C8.CX0 10 (He.fAd g.K d_law.at_) fd ["_law_script"] (spD g.K spLaw) := by
  refine fnok_of_body F sc_law (fun _ _ _ _ h => h.1) fun l ds μ d μ' R h => ?_
  obtain ⟨-, h⟩ := h
  have nd := sc_law.nd
  obtain ⟨ns, rfl, hno, rfl, rfl⟩ := h
  have hu : (cX g l n_law d_law.scope).A.units + 1 < cLine := by have := R.un; omega
  have hu64 : (cX g l n_law d_law.scope).A.units + 64 < cLine := R.units
  have hu65 : (cX g l n_law d_law.scope).A.units + 65 < cLine := by have := R.un; omega
  refine DSs_cons (DS_setN 1 (DN_call (c_l_stream G) R (DA_cons (DE_var 0) DA_nil) ⟨rfl, ns, rfl, rfl, rfl⟩) (fun q => ?_) nd)
  generalize (⟨ns, 0, 0⟩ : Stm) = st0
  refine DSs_cons (DS_set 2 (DE_call (c_l_procedures G) R (DA_cons (DE_var 1) DA_nil) ⟨rfl, q, 0, st0, rfl, rfl, rfl, rfl⟩) ?_ nd)
  have GP : GoodP (procsR (st3R st0) (exR st0) (szR st0) (manyR st0)).1 := good_procs (many_rg st0) (ex_len st0) (by simp [szR, digs_len]) (ex_ok st0) (sz_rg st0)
  have hmq : ((q, stD st0) :: μ).set 0 (q, stD (procsR (st3R st0) (exR st0) (szR st0) (manyR st0)).2) = (q, stD (procsR (st3R st0) (exR st0) (szR st0) (manyR st0)).2) :: μ := rfl
  rw [hmq]
  generalize (procsR (st3R st0) (exR st0) (szR st0) (manyR st0)).2 = st1
  generalize (procsR (st3R st0) (exR st0) (szR st0) (manyR st0)).1 = ps at *
  refine DSs_cons (DS_set 3 (DE_graph G R (DE_var 2) (by decide) GP (noG_new hno (noG_st st1))) ?_ nd)
  refine DSs_cons (DS_set 4 (DE_call (c_l_live G) R (DA_cons (DE_var 2) DA_nil) ⟨rfl, ps, rfl, GP, rfl, rfl⟩) ?_ nd)
  have GS : SG (livU ps) (tS (livT ps)) := by rw [tS_liv]; exact sysG GP
  refine DSs_cons (DS_set 5 (DE_call (c_l_parts G) R (DA_cons (DE_var 2) (DA_cons (DE_var 4) DA_nil)) ⟨rfl, ps, rfl, GP, GS, rfl, rfl⟩) ?_ nd)
  refine DSs_cons (DS_setN 6 DN_dic (fun gv => ?_) nd)
  have hlv40 := GS.len
  have hmd : ∀ (i : Nat) (V : U → Rat), (mapD ((livU ps).take i) fun u => qD (V u)).length < 16777216 := fun i V => by
    unfold mapD
    rw [List.length_map, List.length_take]
    omega
  have hkd : (mapD (livU ps) fun u => D.lst ((livT ps u).map termD)).length = (livU ps).length := by unfold mapD; rw [List.length_map]
  refine DSs_cons (DS_forD (DV_var 4) (fun i ρ μ2 => ∃ (st : Stm) (V : U → Rat) (x7 x8 x9 x10 : Option D), ρ = [some (.slst ns), some (.ptr q), some (procsD ps), some (grD g ps), some (LD (livU ps) (livT ps)), some (.lst ((lpartsR (livU ps) (lreach (livU ps).length (facR (tS (livT ps))))).map blkD)), some (.ptr gv), x7, x8, x9, x10] ∧ μ2 = (gv, .dic (mapD ((livU ps).take i) fun u => qD (V u))) :: (q, stD st) :: μ ∧ GivOK ((livU ps).take i) V) ⟨st1, fun _ => 0, _, _, _, _, rfl, rfl, fun u hu => nomatch (by simpa using hu : False)⟩ ?_ ?_)
  · rintro i k d ρ μ2 hi ⟨st, V, x7, x8, x9, x10, rfl, rfl, hV⟩
    unfold mapD at hi
    rw [List.getElem?_map] at hi
    cases hx : (livU ps)[i]? with
    | none => rw [hx] at hi; cases hi
    | some u =>
      rw [hx] at hi; cases hi
      have hnew := not_in_take GS.nd hx
      refine ⟨_, _, DG_name 7 nd, ?_⟩
      have r5 := nx_rg st (m := 5) (by decide)
      have r7 := nx_rg (nxS st 5) (m := 7) (by decide)
      refine DSs_cons (DS_put 0 hu (DE_call (c_low G) R (DA_cons (DE_add DE_int (DE_call (c_l_next G) R (DA_cons (DE_var 1) (DA_cons DE_int DA_nil)) ⟨rfl, q, 1, st, 5, rfl, by decide, by decide, rfl, rfl, rfl⟩)) (DA_cons (DE_add DE_int (DE_call (c_l_next G) R (DA_cons (DE_var 1) (DA_cons DE_int DA_nil)) ⟨rfl, q, 1, nxS st 5, 7, rfl, by decide, by decide, rfl, rfl, rfl⟩)) DA_nil)) ⟨_, _, rfl, by omega, ?_, rfl, rfl⟩) (DE_var 6) (DE_var 7) (hmd i V) ?_)
      · have : (3 + nx (nxS st 5) 7).natAbs < 2 ^ 4 := by omega
        exact Nat.lt_of_lt_of_le this (Nat.pow_le_pow_right (by decide) (by decide))
      · refine DSs_nil ⟨nxS (nxS st 5) 7, updU V u (Rat.divInt (1 + nx st 5) (3 + nx (nxS st 5) 7)), _, _, _, _, rfl, ?_, fun v hv => ?_⟩
        · rw [putD_new hnew, take_get hx]
          show (gv, D.dic _) :: (q, _) :: μ = (gv, D.dic _) :: (q, _) :: μ
          congr 3
          unfold mapD
          rw [List.map_append]
          congr 1
          · refine List.map_congr_left fun v hv => ?_
            show (uK v, qD (V v)) = (uK v, qD (updU V u (Rat.divInt (1 + nx st 5) (3 + nx (nxS st 5) 7)) v))
            rw [updU_ne (fun e : v = u => hnew (e ▸ hv))]
          · simp only [List.map_cons, List.map_nil, updU_same]
        · rw [take_get hx] at hv
          rcases List.mem_append.mp hv with z | z
          · rw [updU_ne (fun e : v = u => hnew (e ▸ z))]; exact hV v z
          · rw [List.mem_singleton] at z; subst z
            rw [updU_same]
            exact ⟨_, _, r5.1, r5.2, r7.1, r7.2, rfl⟩
  rintro ρ μ2 ⟨st, V, x7, x8, x9, x10, rfl, rfl, hV⟩
  rw [hkd, List.take_length]
  rw [hkd, List.take_length] at hV
  refine DSs_freeze 6 [] (h := ?_)
  obtain ⟨hparts, hcuts⟩ := HP ps V GP hV
  rw [hparts]
  have hpl : (partsR ps).length ≤ 40 := by
    have := (block_ok (us := livU ps) (E := facR (sysF ps)) (sysG GP).nd).2
    have e : (partsR ps).length = (blocksR (livU ps) (facR (sysF ps))).length := rfl
    omega
  refine DSs_cons (DS_for (DI_range (n := (partsR ps).length) (G.free "range") (DE.eq (DE_len (G.free "len") (DE_var 5) .li) (by rw [List.length_map])) (by omega)) (fun k ρ μ2 => ∃ (x7 x8 x9 x10 : Option D), ρ = [some (.slst ns), some (.ptr q), some (procsD ps), some (grD g ps), some (LD (livU ps) (livT ps)), some (.lst ((partsR ps).map blkD)), some (.dic (mapD (livU ps) fun u => qD (V u))), x7, x8, x9, x10] ∧ μ2 = (q, stD st) :: μ) ⟨_, _, _, _, rfl, rfl⟩ (fun _ _ _ _ => trivial) ?_ ?_)
  · rintro k d ρ μ2 hi ⟨x7, x8, x9, x10, rfl, rfl⟩
    obtain ⟨rfl, hk⟩ := rgD_get hi
    obtain ⟨part, hpart⟩ : ∃ part, (partsR ps)[k]? = some part := ⟨_, List.getElem?_eq_getElem hk⟩
    have hpm := List.mem_of_getElem? hpart
    obtain ⟨⟨_, hsub, _⟩, hpn⟩ := parts_ok GP part hpm
    refine ⟨_, _, DG_name 8 nd, ?_⟩
    refine DSs_cons (DS_for (DI_lst (DE_call (c_cuts G) R (DA_cons (DE_var 3) (DA_cons (DE_var 8) DA_nil)) ⟨rfl, ps, k, part, rfl, GP, hpart, rfl, rfl⟩)) (fun j ρ μ2 => ∃ (x7 x9 x10 : Option D), ρ = [some (.slst ns), some (.ptr q), some (procsD ps), some (grD g ps), some (LD (livU ps) (livT ps)), some (.lst ((partsR ps).map blkD)), some (.dic (mapD (livU ps) fun u => qD (V u))), x7, some (.int k), x9, x10] ∧ μ2 = (q, stD st) :: μ) ⟨_, _, _, rfl, rfl⟩ (fun _ _ _ _ => trivial) ?_ ?_)
    · rintro j d ρ μ2 hi ⟨x7, x9, x10, rfl, rfl⟩
      rw [List.getElem?_map] at hi
      cases hx : (cutsR (sysF ps) part)[j]? with
      | none => rw [hx] at hi; cases hi
      | some cut =>
        rw [hx] at hi; cases hi
        obtain ⟨fd, dg, hfind, hcv, hdeg, hkeys, hdg, hcp, hgs, hright⟩ := hcuts part hpm cut (List.mem_of_getElem? hx)
        have hcl := hsub cut hcp
        have ht : (part.map fun o => D.int (degOf fd o)) = part.map fun o => D.int (dg o) := List.map_congr_left fun o ho => by rw [hdg o ho]
        refine ⟨_, _, DG_name 9 nd, ?_⟩
        refine DSs_cons (DS_set 10 (DE.eq (DE_call (c_degrees G) R (DA_cons (DE_var 3) (DA_cons (DE_var 9) DA_nil)) ⟨rfl, ps, cut, part, fd, rfl, GP, hcl, hfind, hcv, hdeg, hkeys, rfl, rfl⟩) (by rw [ht])) ?_ nd)
        have e1 : (!decide (cut ∈ part)) = false := by simp [hcp]
        have e2 : (!decide (((part.map fun o => D.int (dg o)).length : Int) = ((part.map uD).length : Int))) = false := by simp
        refine DSs_cons (DS_if (DW.dt (DW_or (DT.eq (DT_notinU hu65 (DE_var 9) (DE_ixL (DE_var 5) (DE_var 8) (atI_map hpart)) .tu) e1) fun _ => DW_or (DT_not (DT_isi (T' := "list") (t := true) (G.free "isinstance") (G.free "list") (DE_var 10))) fun _ => DW_or1 (DT.eq (DT_neI (DE_len (G.free "len") (DE_var 10) .li) (DE_len (G.free "len") (DE_ixL (DE_var 5) (DE_var 8) (atI_map hpart)) .tu)) e2))) (fun c => absurd c (by exact Bool.false_ne_true)) fun _ => ?_)
        refine DSs_nil ?_
        have hkeys2 : (mapD (livU ps) fun u => qD (V u)).map (·.1) = (livU ps).map uK := by unfold mapD; rw [List.map_map]; rfl
        refine DSs_cons (DS_if (DT_not (DT_val (DE_callX (c_l_cut_is_right G) R (DAX_cons (DE_var 4) (DAX_cons (DE_ixL (DE_var 5) (DE_var 8) (atI_map hpart)) (DAX_cons (DE_var 9) (DAX_consN (DN_dictU hu64 (G.free "dict") (DE_var 6) .fz hkeys2 GS.nd (liv_box GP)) (fun a => DAX_cons (DE_var 10) (DAX_nil ⟨rfl, livU ps, livT ps, part, cut, a, V, dg, _, rfl, GS, hsub, hpn, liv_box GP, hcp, rfl, hgs, hright, rfl, rfl⟩))))))))) (fun c => absurd c (by exact Bool.false_ne_true)) fun _ => ?_)
        exact DSs_nil (DSs_nil ⟨_, _, _, rfl, rfl⟩)
    · rintro ρ μ2 ⟨x7, x9, x10, rfl, rfl⟩
      exact DSs_nil ⟨_, _, _, _, rfl, rfl⟩
  · rintro ρ μ2 ⟨x7, x8, x9, x10, rfl, rfl⟩
    exact DSs_cons (DS_ret DE_bl Ret.rt1)
end Od
namespace Od
open PySem PySem.Spec PySem.W PyProof.Rows L2
theorem walk_law (HP : PlainLaw) {q : Program} {loose : List Str} {XP : (Str → Option Value) → Heap → Prop} {d : DefRec} (hdf : d.params.defaults = []) (hn : d.name = "law") :
    PySem.W.WalkO q loose XP hk.says R.toRowW d [] (fun f vs => PySem.call f vs) := by
  refine L2.walk_ofE (l := PySem.Challenge.rw_oddscall_k34_whole_cuts_make_quadratics) (n := 63) (k := 10) (CX := C8.CX0) (x := "_law_script") rfl (by decide) hdf ⟨rfl, by decide, by decide⟩ (fun w mg fa h Y hns hmg => ?_) fun _ _ _ _ z => z
  obtain ⟨K, hK, hs⟩ := Y
  have G : Gd ⟨PySem.Challenge.rw_oddscall_k34_whole_cuts_make_quadratics.prog, w, K, mg, h⟩ := ⟨hK, hns, hs⟩
  obtain ⟨fd, F⟩ := G.def_ 66 (d := d_law) rfl
  have hfa : fa = He.fAd K d_law.at_ := by
    have := G.glo "law"
    rw [hn] at hmg
    rw [show mg "law" = some (Value.ref (He.ga K "law")) from this] at hmg
    cases hmg
    rfl
  refine ⟨K, fd, spD K spLaw, hK, ?_, fun H a ns hl hO hS => ?_, fun base hb hn2 => ?_⟩
  · obtain ⟨oc, od, dV, kV, doc, pm, an, cdv, ct, osl, rfl, lk, hcd, hD, hK2⟩ := F.ex
    rcases hD with ⟨_, rfl⟩ | ⟨e, _⟩
    · exact fun s u => .of_eq rfl
    · exact absurd rfl e
  · exact ⟨H, [.slst ns], [], .bl true, [], Sat.nil (Inc.refl H), ⟨.ref a, [], rfl, ⟨a, rfl, hS⟩, rfl⟩, ⟨rfl, ns, rfl, (fun p hp => nomatch hp), rfl, rfl⟩, fun B' H' v i S r => r⟩
  · rw [hfa]
    exact law_ok HP (g := ⟨PySem.Challenge.rw_oddscall_k34_whole_cuts_make_quadratics.prog, w, K, mg, base⟩) ⟨hb, hn2, hs⟩ F
end Od
namespace Od
open PySem PySem.Spec PySem.W PyProof.Rows L2
set_option maxHeartbeats 0 in
theorem holds (HP : PlainLaw) : PySem.Challenge.rw_oddscall_k34_whole_cuts_make_quadratics.Holds := by
  o_law
  refine HandSHeadRun.head_imp (r := R) (q := PySem.W.view R.prog [0, 86]) (H := hk) (ob := ob) (M := 4000) (loose := loose) (kwd := []) ob_eq run (by rfl) (by rfl) (by rfl) (by rfl) (by assumption) (by decide +kernel) ⟨rfl, rfl, rfl, rfl, rfl, by decide +kernel⟩ ?hw ?hc
  case hw => w_witness2
  case hc => exact walk_law HP rfl rfl
end Od
namespace Od
theorem Fr.neg {P N : Nat} {x : Rat} (h : Fr P N x) : Fr P N (-x) := by
  obtain ⟨p, q, a, b, c, d⟩ := h
  exact ⟨-p, q, a, by omega, c, by rw [Rat.intCast_neg]; grind⟩
theorem Fr.mul {P N P' N' : Nat} {x y : Rat} (h : Fr P N x) (g : Fr P' N' y) : Fr (P * P') (N * N') (x * y) := by
  obtain ⟨p, q, a, b, c, d⟩ := h
  obtain ⟨p', q', a', b', c', d'⟩ := g
  refine ⟨p * p', q * q', Int.mul_ne_zero a a', ?_, ?_, ?_⟩
  · rw [Int.natAbs_mul]; exact Nat.mul_le_mul b b'
  · rw [Int.natAbs_mul]; exact Nat.mul_le_mul c c'
  · rw [Rat.intCast_mul, Rat.intCast_mul]; grind
theorem Fr.add {P N P' N' : Nat} {x y : Rat} (h : Fr P N x) (g : Fr P' N' y) : Fr (P * N' + P' * N) (N * N') (x + y) := by
  obtain ⟨p, q, a, b, c, d⟩ := h
  obtain ⟨p', q', a', b', c', d'⟩ := g
  refine ⟨p * q' + p' * q, q * q', Int.mul_ne_zero a a', ?_, ?_, ?_⟩
  · have := Int.natAbs_add_le (p * q') (p' * q)
    rw [Int.natAbs_mul, Int.natAbs_mul] at this
    have h1 := Nat.mul_le_mul b c'
    have h2 := Nat.mul_le_mul b' c
    omega
  · rw [Int.natAbs_mul]; exact Nat.mul_le_mul c c'
  · rw [Rat.intCast_add, Rat.intCast_mul, Rat.intCast_mul, Rat.intCast_mul]; grind
theorem Fr.int (k : Int) {P : Nat} (h : k.natAbs ≤ P) : Fr P 1 (k : Rat) := ⟨k, 1, by decide, h, by decide, by grind⟩
section
variable {β : Type}
def sT (f : β → Rat) : List β → Rat
  | [] => 0
  | t :: ts => f t + sT f ts
def sTZ (f : β → Int) : List β → Int
  | [] => 0
  | t :: ts => f t + sTZ f ts
def sTN (f : β → Nat) : List β → Nat
  | [] => 0
  | t :: ts => f t + sTN f ts
theorem sT_congr {f g : β → Rat} : ∀ {ts : List β}, (∀ t ∈ ts, f t = g t) → sT f ts = sT g ts
  | [], _ => rfl
  | t :: ts, h => by rw [sT, sT, h t (by simp), sT_congr fun s hs => h s (by simp [hs])]
theorem sTZ_congr {f g : β → Int} : ∀ {ts : List β}, (∀ t ∈ ts, f t = g t) → sTZ f ts = sTZ g ts
  | [], _ => rfl
  | t :: ts, h => by rw [sTZ, sTZ, h t (by simp), sTZ_congr fun s hs => h s (by simp [hs])]
theorem sT_cast (f : β → Int) : ∀ ts : List β, ((sTZ f ts : Int) : Rat) = sT (fun t => (f t : Rat)) ts
  | [] => rfl
  | t :: ts => by rw [sTZ, sT, Rat.intCast_add, sT_cast f ts]
theorem sT_mul (c : Rat) (f : β → Rat) : ∀ ts : List β, sT (fun t => c * f t) ts = c * sT f ts
  | [] => by simp only [sT]; grind
  | t :: ts => by rw [sT, sT, sT_mul c f ts]; grind
theorem sT_add (f g : β → Rat) : ∀ ts : List β, sT (fun t => f t + g t) ts = sT f ts + sT g ts
  | [] => by simp only [sT]; grind
  | t :: ts => by rw [sT, sT, sT, sT_add f g ts]; grind
theorem sT_sub (f g : β → Rat) : ∀ ts : List β, sT (fun t => f t - g t) ts = sT f ts - sT g ts
  | [] => by simp only [sT]; grind
  | t :: ts => by rw [sT, sT, sT, sT_sub f g ts]; grind
theorem sT_zero {f : β → Rat} {ts : List β} (h : ∀ t ∈ ts, f t = 0) : sT f ts = 0 := by
  induction ts with
  | nil => rfl
  | cons t ts ih => rw [sT, h t (by simp), ih fun s hs => h s (by simp [hs])]; grind
theorem sTZ_abs (f : β → Int) : ∀ ts : List β, (sTZ f ts).natAbs ≤ sTN (fun t => (f t).natAbs) ts
  | [] => Nat.le_refl _
  | t :: ts => by
    have := sTZ_abs f ts
    have := Int.natAbs_add_le (f t) (sTZ f ts)
    rw [sTZ, sTN]; omega
theorem sTN_le {f : β → Nat} {K : Nat} : ∀ {ts : List β}, (∀ t ∈ ts, f t ≤ K) → sTN f ts ≤ ts.length * K
  | [], _ => Nat.zero_le _
  | t :: ts, h => by
    have h1 := h t (by simp)
    have h2 := sTN_le (ts := ts) fun s hs => h s (by simp [hs])
    rw [sTN, List.length_cons, Nat.succ_mul]; omega
theorem sTN_mono {f g : β → Nat} : ∀ {ts : List β}, (∀ t ∈ ts, f t ≤ g t) → sTN f ts ≤ sTN g ts
  | [], _ => Nat.le_refl _
  | t :: ts, h => by
    have h1 := h t (by simp)
    have h2 := sTN_mono (ts := ts) fun s hs => h s (by simp [hs])
    rw [sTN, sTN]; omega
theorem sTN_add (f g : β → Nat) : ∀ ts : List β, sTN (fun t => f t + g t) ts = sTN f ts + sTN g ts
  | [] => rfl
  | t :: ts => by rw [sTN, sTN, sTN, sTN_add f g ts]; omega
theorem sT_swap {γ : Type} (f : β → γ → Rat) (us : List γ) : ∀ ts : List β, sT (fun t => sT (f t) us) ts = sT (fun u => sT (fun t => f t u) ts) us
  | [] => by
    rw [sT]
    exact (sT_zero fun u _ => rfl).symm
  | t :: ts => by
    rw [sT, sT_swap f us ts]
    have : (fun u => sT (fun t => f t u) (t :: ts)) = fun u => f t u + sT (fun t => f t u) ts := rfl
    rw [this, sT_add]
theorem sTZ_snoc (f : β → Int) (u : β) : ∀ ts : List β, sTZ f (ts ++ [u]) = sTZ f ts + f u
  | [] => by show f u + 0 = 0 + f u; omega
  | t :: ts => by rw [List.cons_append, sTZ, sTZ, sTZ_snoc f u ts]; omega
theorem sTN_snoc (f : β → Nat) (u : β) : ∀ ts : List β, sTN f (ts ++ [u]) = sTN f ts + f u
  | [] => by show f u + 0 = 0 + f u; omega
  | t :: ts => by rw [List.cons_append, sTN, sTN, sTN_snoc f u ts]; omega
end
section
variable {α : Type} [DecidableEq α]
theorem sT_single {f : α → Rat} {u : α} : ∀ {L : List α}, L.Nodup → u ∈ L → (∀ v ∈ L, v ≠ u → f v = 0) → sT f L = f u
  | [], _, h, _ => nomatch h
  | x :: L, hn, hu, h => by
    rw [List.nodup_cons] at hn
    by_cases e : x = u
    · subst e
      rw [sT, sT_zero fun v hv => h v (by simp [hv]) fun z => hn.1 (z ▸ hv)]; grind
    · have hu' : u ∈ L := by
        rcases List.mem_cons.mp hu with z | z
        · exact absurd z.symm e
        · exact z
      rw [sT, h x (by simp) e, sT_single (L := L) hn.2 hu' fun v hv => h v (by simp [hv])]; grind
theorem sTN_single_le {K : Nat} {p : α → Prop} [DecidablePred p] : ∀ {L : List α}, L.Nodup → (∀ u ∈ L, ∀ v ∈ L, p u → p v → u = v) → sTN (fun v => if p v then K else 0) L ≤ K
  | [], _, _ => Nat.zero_le _
  | x :: L, hn, h => by
    rw [List.nodup_cons] at hn
    have ih := sTN_single_le (K := K) (p := p) (L := L) hn.2 fun u hu v hv => h u (by simp [hu]) v (by simp [hv])
    rw [sTN]
    by_cases e : p x
    · rw [if_pos e]
      have : sTN (fun v => if p v then K else 0) L ≤ L.length * 0 := sTN_le fun v hv => by
        rw [if_neg fun z => hn.1 ((h x (by simp) v (by simp [hv]) e z) ▸ hv)]; exact Nat.le_refl _
      omega
    · rw [if_neg e]; omega
theorem sZ_list (f : α → Int) (L : List α) (x0 : α) : ∀ k, k ≤ L.length → sZ (fun i => f (L.getD i x0)) k = sTZ f (L.take k)
  | 0, _ => by rw [List.take_zero]; rfl
  | k + 1, h => by
    have hk : k < L.length := h
    rw [sZ, sZ_list f L x0 k (by omega), List.take_add_one, List.getElem?_eq_getElem hk]
    simp only [Option.toList_some]
    rw [sTZ_snoc, List.getD_eq_getElem?_getD, List.getElem?_eq_getElem hk]
    rfl
theorem sNt_list (f : α → Nat) (L : List α) (x0 : α) : ∀ k, k ≤ L.length → sNt (fun i => f (L.getD i x0)) k = sTN f (L.take k)
  | 0, _ => by rw [List.take_zero]; rfl
  | k + 1, h => by
    have hk : k < L.length := h
    rw [sNt, sNt_list f L x0 k (by omega), List.take_add_one, List.getElem?_eq_getElem hk]
    simp only [Option.toList_some]
    rw [sTN_snoc, List.getD_eq_getElem?_getD, List.getElem?_eq_getElem hk]
    rfl
theorem siegelU (L : List α) (hn : L.Nodup) (a : α → α → Int) (q : α → Int) (A Q : Nat) (hA : ∀ u ∈ L, sTN (fun v => (a u v).natAbs) L ≤ A) (hQ : ∀ u ∈ L, (q u).natAbs ≤ Q) :
    ∃ (y : α → Int) (w : Int), ((∃ u ∈ L, y u ≠ 0) ∨ w ≠ 0) ∧ (∀ u ∈ L, (y u).natAbs ≤ Q * (2 * A + 2) ^ L.length) ∧ w.natAbs ≤ (2 * A + 2) ^ L.length ∧ ∀ u ∈ L, sTZ (fun v => a u v * y v) L + q u * w = 0 := by
  cases hL : L with
  | nil =>
    exact ⟨fun _ => 0, 1, .inr (by decide), fun u hu => (nomatch hu), by show 1 ≤ _; simp, fun u hu => (nomatch hu)⟩
  | cons x0 L' =>
    rw [← hL]
    have get : ∀ i, i < L.length → L.getD i x0 ∈ L := fun i hi => by
      rw [List.getD_eq_getElem?_getD, List.getElem?_eq_getElem hi]; exact List.getElem_mem hi
    have idx : ∀ i, i < L.length → L.idxOf (L.getD i x0) = i := fun i hi => by
      rw [List.getD_eq_getElem?_getD, List.getElem?_eq_getElem hi]
      exact List.Nodup.idxOf_getElem hn i hi
    have un : ∀ u ∈ L, L.getD (L.idxOf u) x0 = u := fun u hu => by
      have := List.idxOf_lt_length_of_mem hu
      rw [List.getD_eq_getElem?_getD, List.getElem?_eq_getElem this]
      exact List.getElem_idxOf this
    obtain ⟨y, w, h1, h2, h3, h4⟩ := siegel L.length (fun i j => a (L.getD i x0) (L.getD j x0)) (fun i => q (L.getD i x0)) A Q
      (fun i hi => by
        rw [sNt_list (fun v => (a (L.getD i x0) v).natAbs) L x0 _ (Nat.le_refl _), List.take_length]
        exact hA _ (get i hi)) (fun i hi => hQ _ (get i hi))
    refine ⟨fun u => y (L.idxOf u), w, ?_, fun u hu => h2 _ (List.idxOf_lt_length_of_mem hu), h3, fun u hu => ?_⟩
    · rcases h1 with ⟨j, hj, e⟩ | e
      · exact .inl ⟨L.getD j x0, get j hj, by show y (L.idxOf (L.getD j x0)) ≠ 0; rw [idx j hj]; exact e⟩
      · exact .inr e
    · have := h4 (L.idxOf u) (List.idxOf_lt_length_of_mem hu)
      simp only [un u hu] at this
      rw [← this]
      congr 1
      have e := sZ_list (fun v => a u v * y (L.idxOf v)) L x0 L.length (Nat.le_refl _)
      rw [List.take_length] at e
      rw [← e]
      exact sZ_congr fun i hi => by rw [idx i hi]
/-- a joint system: x is a fraction over D * w with a small w -/
theorem joint {S : List α} (hn : S.Nodup) {N0 : Nat} (hN : N0 ≠ 0) {c : α → α → Int} {r x : α → Rat} {ρ : α → Int} {D : Int} {C Q : Nat} (hD : D ≠ 0)
    (hc : ∀ u ∈ S, sTN (fun v => (c u v).natAbs) S ≤ C) (hx : ∀ u ∈ S, (N0 : Rat) * x u = sT (fun v => (c u v : Rat) * x v) S + r u) (hr : ∀ u ∈ S, r u * (D : Rat) = (ρ u : Rat)) (hρ : ∀ u ∈ S, (ρ u).natAbs ≤ Q)
    (un : ∀ z : α → Rat, (∀ u ∈ S, (N0 : Rat) * z u = sT (fun v => (c u v : Rat) * z v) S) → ∀ u ∈ S, z u = 0) :
    ∃ w : Int, w ≠ 0 ∧ w.natAbs ≤ (2 * (N0 + C) + 2) ^ S.length ∧ ∀ u ∈ S, ∃ Y : Int, x u * ((D * w : Int) : Rat) = (Y : Rat) ∧ Y.natAbs ≤ Q * (2 * (N0 + C) + 2) ^ S.length := by
  obtain ⟨y, w, h1, h2, h3, h4⟩ := siegelU S hn (fun u v => (if u = v then (N0 : Int) else 0) - c u v) (fun u => -(ρ u)) (N0 + C) Q (fun u hu => by
      have a : sTN (fun v => ((if u = v then (N0 : Int) else 0) - c u v).natAbs) S ≤ sTN (fun v => (if u = v then N0 else 0) + (c u v).natAbs) S := sTN_mono fun v _ => by
        split <;> omega
      rw [sTN_add] at a
      have b := sTN_single_le (K := N0) (p := fun v => u = v) (L := S) hn fun a _ b _ e1 e2 => e1.symm.trans e2
      have := hc u hu
      omega) (fun u hu => by rw [Int.natAbs_neg]; exact hρ u hu)
  have hN' : (N0 : Rat) ≠ 0 := fun z => hN (Rat.natCast_eq_zero_iff.mp z)
  have hD' : (D : Rat) ≠ 0 := fun z => hD (Rat.intCast_eq_zero_iff.mp z)
  -- the equations of y
  have ey : ∀ u ∈ S, (N0 : Rat) * (y u : Rat) = sT (fun v => (c u v : Rat) * (y v : Rat)) S + (ρ u : Rat) * (w : Rat) := fun u hu => by
    have := congrArg (fun z : Int => (z : Rat)) (h4 u hu)
    simp only [Rat.intCast_add, sT_cast, Rat.intCast_mul, Rat.intCast_neg] at this
    have e : sT (fun v => (((if u = v then (N0 : Int) else 0) - c u v : Int) : Rat) * (y v : Rat)) S = (N0 : Rat) * (y u : Rat) - sT (fun v => (c u v : Rat) * (y v : Rat)) S := by
      have e1 : (fun v => (((if u = v then (N0 : Int) else 0) - c u v : Int) : Rat) * (y v : Rat)) = fun v => (if u = v then (N0 : Rat) * (y v : Rat) else 0) - (c u v : Rat) * (y v : Rat) := by
        funext v
        rw [Rat.intCast_sub]
        split
        · rw [Rat.intCast_natCast]; grind
        · have z0 : ((0 : Int) : Rat) = 0 := rfl
          rw [z0]; grind
      rw [e1, sT_sub, sT_single (u := u) hn hu fun v _ hv => if_neg fun z => hv z.symm, if_pos rfl]
    rw [e] at this
    have z0 : ((0 : Int) : Rat) = 0 := rfl
    rw [z0] at this
    grind
  have hz : ∀ u ∈ S, (y u : Rat) - ((D * w : Int) : Rat) * x u = 0 := by
    refine un (fun u => (y u : Rat) - ((D * w : Int) : Rat) * x u) fun u hu => ?_
    have e1 : sT (fun v => (c u v : Rat) * ((y v : Rat) - ((D * w : Int) : Rat) * x v)) S = sT (fun v => (c u v : Rat) * (y v : Rat)) S - ((D * w : Int) : Rat) * sT (fun v => (c u v : Rat) * x v) S := by
      rw [← sT_mul, ← sT_sub]
      exact sT_congr fun v _ => by grind
    rw [e1]
    have := ey u hu
    have := hx u hu
    have := hr u hu
    rw [Rat.intCast_mul]
    grind
  have hw0 : w ≠ 0 := fun z => by
    rcases h1 with ⟨u, hu, e⟩ | e
    · have := hz u hu
      rw [z, Int.mul_zero] at this
      have z0 : ((0 : Int) : Rat) = 0 := rfl
      rw [z0] at this
      have : (y u : Rat) = 0 := by grind
      exact e (Rat.intCast_eq_zero_iff.mp this)
    · exact e z
  refine ⟨w, hw0, h3, fun u hu => ⟨y u, ?_, h2 u hu⟩⟩
  have := hz u hu
  grind
end
end Od
namespace Od
def prodL (V : U → Rat) : List U → Rat
  | [] => 1
  | f :: fs => V f * prodL V fs
theorem prodL_congr {V W : U → Rat} : ∀ {fs : List U}, (∀ f ∈ fs, V f = W f) → prodL V fs = prodL W fs
  | [], _ => rfl
  | f :: fs, h => by rw [prodL, prodL, h f (by simp), prodL_congr fun g hg => h g (by simp [hg])]
theorem prodL_split (V : U → Rat) (p : U → Bool) : ∀ fs : List U, prodL V fs = prodL V (fs.filter p) * prodL V (fs.filter fun f => !p f)
  | [] => by simp only [List.filter_nil, prodL]; grind
  | f :: fs => by
    have ih := prodL_split V p fs
    cases h : p f with
    | true => rw [List.filter_cons_of_pos h, List.filter_cons_of_neg (by simp [h]), prodL, prodL, ih]; grind
    | false => rw [List.filter_cons_of_neg (by simp [h]), List.filter_cons_of_pos (by simp [h]), prodL, prodL, ih]; grind
def N0 : Nat := 6350400
def K0 : Nat := 17640000
def BB : Nat := 2 ^ 1300
theorem BB_big : 64 * (BB * BB * BB) < 2 ^ 4400 := by unfold BB; decide +kernel
theorem BB_one : 1000000000000000000 ≤ BB := by unfold BB; decide +kernel
theorem Fr.to_sm {P N : Nat} {x : Rat} (h : Fr P N x) (h1 : P < 2 ^ 4400) (h2 : N < 2 ^ 4400) : Sm x := by
  obtain ⟨a, b⟩ := h.sm
  exact ⟨Nat.lt_of_le_of_lt a h1, Nat.lt_of_le_of_lt b h2⟩
theorem BB_le1 : 60 * BB < 2 ^ 4400 := by unfold BB; decide +kernel
theorem BB_lt : BB < 2 ^ 4400 := by unfold BB; decide +kernel
theorem tvR_ok {V : U → Rat} {c : Rat} {fs : List U} (h2 : fs.length ≤ 2) (hc : Fr 60 60 c) (hV : ∀ f ∈ fs, Fr BB BB (V f)) : tvR V c fs = some (c * prodL V fs) := by
  have s60 : Sm c := hc.to_sm (Nat.lt_of_lt_of_le (m := 2 ^ 10) (by decide) (Nat.pow_le_pow_right (by decide) (by decide))) (Nat.lt_of_lt_of_le (m := 2 ^ 10) (by decide) (Nat.pow_le_pow_right (by decide) (by decide)))
  match fs, h2 with
  | [], _ =>
    show some c = some (c * 1)
    congr 1; grind
  | [f], _ =>
    have sf : Sm (V f) := (hV f (by simp)).to_sm BB_lt BB_lt
    show (mulB c (V f)).bind some = _
    unfold mulB
    rw [if_pos ⟨s60, sf⟩]
    show some (c * V f) = some (c * (V f * 1))
    congr 1; grind
  | [f, g], _ =>
    have sf : Sm (V f) := (hV f (by simp)).to_sm BB_lt BB_lt
    have sg : Sm (V g) := (hV g (by simp)).to_sm BB_lt BB_lt
    have s2 : Sm (c * V f) := (hc.mul (hV f (by simp))).to_sm BB_le1 BB_le1
    show (mulB c (V f)).bind (fun c' => (mulB c' (V g)).bind some) = _
    unfold mulB
    rw [if_pos ⟨s60, sf⟩]
    show (if Sm (c * V f) ∧ Sm (V g) then some (c * V f * V g) else none).bind some = _
    rw [if_pos ⟨s2, sg⟩]
    show some (c * V f * V g) = some (c * (V f * (V g * 1)))
    congr 1; grind
def pf (part : List U) (t : Term) : List U := t.2.filter fun f => decide (f ∈ part)
def kap (part : List U) (G : U → Rat) (t : Term) : Rat := t.1 * prodL G (t.2.filter fun f => !decide (f ∈ part))
def kk (part : List U) (G : U → Rat) (t : Term) : Int := (kap part G t * (N0 : Rat)).num
theorem mem_pf {part : List U} {t : Term} {f : U} : f ∈ pf part t ↔ f ∈ t.2 ∧ f ∈ part := by
  unfold pf
  rw [List.mem_filter, decide_eq_true_eq]
theorem tv_eq {part : List U} {G V : U → Rat} {t : Term} (h : ∀ f ∈ t.2, f ∉ part → V f = G f) : t.1 * prodL V t.2 = kap part G t * prodL V (pf part t) := by
  rw [prodL_split V (fun f => decide (f ∈ part)) t.2]
  unfold kap pf
  rw [prodL_congr (V := V) (W := G) (fs := t.2.filter fun f => !decide (f ∈ part)) fun f hf => by
    obtain ⟨h1, h2⟩ := List.mem_filter.mp hf
    exact h f h1 (by simpa using h2)]
  grind
/-- what is asked of a term in a group's equation -/
structure TmOK (part : List U) (G : U → Rat) (g : List U) (V : U → Rat) (D : Int) (Y2 : Nat) (t : Term) : Prop where
  two : t.2.length ≤ 2
  co : Fr 60 60 t.1
  sz : ∀ f ∈ t.2, Fr BB BB (V f)
  out : ∀ f ∈ t.2, f ∉ part → V f = G f
  int : kap part G t * (N0 : Rat) = (kk part G t : Rat)
  ki : (kk part G t).natAbs ≤ K0
  cs : (∃ f ∈ g, pf part t = [f]) ∨ ((∀ f ∈ t.2, f ∉ g) ∧ ∃ Y : Int, prodL V (pf part t) * (D : Rat) = (Y : Rat) ∧ Y.natAbs ≤ Y2)
def contr (part : List U) (G : U → Rat) (g : List U) (V : U → Rat) (y : Nat → Rat) (t : Term) : Rat :=
  if ∃ f ∈ g, f ∈ t.2 then -(kap part G t * y (g.idxOf ((pf part t).headD (0, 0, 0)))) else t.1 * prodL V t.2 * y g.length
def lcol (part : List U) (G : U → Rat) (g : List U) (r : Nat → Rat) (t : Term) : Nat → Rat :=
  if ∃ f ∈ g, f ∈ t.2 then updN r (g.idxOf ((pf part t).headD (0, 0, 0))) (r (g.idxOf ((pf part t).headD (0, 0, 0))) + -(kap part G t)) else r
/-- a row so far, k terms in -/
structure RP (n : Nat) (D : Int) (Y2 : Nat) (r : Nat → Rat) (k : Nat) : Prop where
  l : ∃ a : Nat → Int, (∀ j, j < n → r j * ((N0 : Nat) : Rat) = (a j : Rat)) ∧ sNt (fun j => (a j).natAbs) n ≤ N0 + k * K0
  c : ∃ b : Int, b.natAbs ≤ k * (K0 * Y2) ∧ r n * (((N0 : Int) * D : Int) : Rat) = (b : Rat)
theorem sNt_upd {a : Nat → Int} {i : Nat} {x : Int} : ∀ {n : Nat}, sNt (fun j => ((fun j => if j = i then a j + x else a j) j).natAbs) n ≤ sNt (fun j => (a j).natAbs) n + x.natAbs := fun {n} => by
  have h1 : ∀ m, m ≤ i → sNt (fun j => ((fun j => if j = i then a j + x else a j) j).natAbs) m = sNt (fun j => (a j).natAbs) m := fun m => by
    induction m with
    | zero => intro _; rfl
    | succ m ih =>
      intro hm
      simp only [sNt] at ih ⊢
      rw [ih (by omega), if_neg (by omega)]
  have h2 : ∀ m, sNt (fun j => ((fun j => if j = i then a j + x else a j) j).natAbs) (i + 1 + m) ≤ sNt (fun j => (a j).natAbs) (i + 1 + m) + x.natAbs := fun m => by
    induction m with
    | zero =>
      have := h1 i (Nat.le_refl _)
      simp only [sNt, Nat.add_zero] at this ⊢
      rw [this]
      simp only [if_true]
      have := Int.natAbs_add_le (a i) x
      omega
    | succ m ih =>
      have e : i + 1 + (m + 1) = (i + 1 + m) + 1 := rfl
      rw [e]
      simp only [sNt] at ih ⊢
      rw [if_neg (by omega : ¬ i + 1 + m = i)]
      omega
  by_cases c : n ≤ i
  · rw [h1 n c]; omega
  · obtain ⟨m, hm⟩ := Nat.exists_eq_add_of_le (show i + 1 ≤ n by omega)
    rw [hm]; exact h2 m
theorem RP.sm {n k : Nat} {D : Int} {Y2 : Nat} {r : Nat → Rat} (h : RP n D Y2 r k) (hD : D ≠ 0) (hk : k ≤ 4) (h1 : N0 * D.natAbs < 2 ^ 4400) (h2 : 4 * (K0 * Y2) < 2 ^ 4400) : ∀ j, j < n + 1 → Sm (r j) := fun j hj => by
  by_cases e : j = n
  · subst e
    obtain ⟨b, hb, e⟩ := h.c
    refine Fr.to_sm (P := 4 * (K0 * Y2)) (N := N0 * D.natAbs) ⟨b, (N0 : Int) * D, Int.mul_ne_zero (by decide) hD, Nat.le_trans hb (Nat.mul_le_mul_right _ hk), ?_, e⟩ h2 h1
    rw [Int.natAbs_mul]; exact Nat.le_refl _
  · obtain ⟨a, ha, hs⟩ := h.l
    have h3 : (a j).natAbs ≤ N0 + 4 * K0 := by
      have := sNt_at (f := fun j => (a j).natAbs) (j := j) (n := n) (by omega)
      have h4 : k * K0 ≤ 4 * K0 := Nat.mul_le_mul_right _ hk
      have this : (a j).natAbs ≤ sNt (fun j => (a j).natAbs) n := this
      omega
    refine Fr.to_sm (P := N0 + 4 * K0) (N := N0) ⟨a j, (N0 : Int), by decide, h3, Nat.le_refl _, ha j (by omega)⟩ ?_ ?_
    · exact Nat.lt_of_lt_of_le (m := 2 ^ 40) (by decide) (Nat.pow_le_pow_right (by decide) (by decide))
    · exact Nat.lt_of_lt_of_le (m := 2 ^ 40) (by decide) (Nat.pow_le_pow_right (by decide) (by decide))
theorem dot_upd {r y : Nat → Rat} {i : Nat} {x : Rat} : ∀ {n : Nat}, i < n → dot (updN r i (r i + x)) y n = dot r y n + x * y i := fun {n} hi => by
  have e : updN r i (r i + x) = fun j => r j + (if j = i then x else 0) := by
    funext j
    unfold updN
    split
    · rename_i h; rw [h]
    · grind
  rw [e, dot_add]
  congr 1
  unfold dot
  rw [sR_one (k := i) (fun j _ hne => by show (if j = i then x else 0) * y j = 0; rw [if_neg hne]; grind) hi]
  show (if i = i then x else 0) * y i = _
  rw [if_pos rfl]
section
variable {part : List U} {G : U → Rat} {g : List U} {V : U → Rat} {D : Int} {Y2 : Nat}
/-- a term with a factor in the group -/
theorem TmOK.inner {t : Term} (h : TmOK part G g V D Y2 t) (hg : ∀ f ∈ g, f ∈ part) {f : U} (hf : f ∈ g) (e : pf part t = [f]) :
    (t.2.filter fun x => decide (x ∈ g)) = [f] ∧ (t.2.filter fun x => !decide (x ∈ g)) = (t.2.filter fun x => !decide (x ∈ part)) ∧ f ∈ t.2 := by
  have hx : ∀ x ∈ t.2, (decide (x ∈ g)) = (decide (x ∈ part)) := fun x hx => by
    by_cases hp : x ∈ part
    · have : x ∈ pf part t := mem_pf.mpr ⟨hx, hp⟩
      rw [e, List.mem_singleton] at this
      subst this
      simp [hf, hp]
    · have : x ∉ g := fun z => hp (hg x z)
      simp [hp, this]
  refine ⟨?_, ?_, ?_⟩
  · rw [← e]; exact List.filter_congr hx
  · exact List.filter_congr fun x hx' => by rw [hx x hx']
  · have : f ∈ pf part t := by rw [e]; simp
    exact (mem_pf.mp this).1
/-- one step of a row -/
theorem row_step {t : Term} (h : TmOK part G g V D Y2 t) (hg : ∀ f ∈ g, f ∈ part) (hD : D ≠ 0) {r : Nat → Rat} {k : Nat} (hk : k + 1 ≤ 4) (hr : RP g.length D Y2 r k) (h1 : N0 * D.natAbs < 2 ^ 4400) (h2 : 4 * (K0 * Y2) < 2 ^ 4400) :
    ∃ r', rowStep V g r t = some r' ∧ RP g.length D Y2 r' (k + 1) ∧ (∀ y, dot r' y (g.length + 1) = dot r y (g.length + 1) + contr part G g V y t) ∧ (∀ r0 : Nat → Rat, (∀ j, j < g.length → r j = r0 j) → ∀ j, j < g.length → r' j = lcol part G g r0 t j) := by
  have hsm := hr.sm hD (by omega) h1 h2
  rcases h.cs with ⟨f, hf, e⟩ | ⟨hno, Y, hY, hYb⟩
  · obtain ⟨e1, e2, hft⟩ := h.inner hg hf e
    have hidx : g.idxOf f < g.length := List.idxOf_lt_length_of_mem hf
    have hex : ∃ f ∈ g, f ∈ t.2 := ⟨f, hf, hft⟩
    have hhd : (pf part t).headD (0, 0, 0) = f := by rw [e]; rfl
    have htv : tvR V t.1 (t.2.filter fun x => !decide (x ∈ g)) = some (kap part G t) := by
      rw [e2, tvR_ok (Nat.le_trans (List.length_filter_le _ _) h.two) h.co fun f hf => h.sz f (List.mem_filter.mp hf).1]
      unfold kap
      rw [prodL_congr (W := G) fun f hf => by
        obtain ⟨q1, q2⟩ := List.mem_filter.mp hf
        exact h.out f q1 (by simpa using q2)]
    have hsk : Sm (-(kap part G t)) := by
      refine Fr.to_sm (P := K0) (N := N0) (Fr.neg ⟨kk part G t, (N0 : Int), by decide, h.ki, Nat.le_refl _, h.int⟩) ?_ ?_
      · exact Nat.lt_of_lt_of_le (m := 2 ^ 40) (by decide) (Nat.pow_le_pow_right (by decide) (by decide))
      · exact Nat.lt_of_lt_of_le (m := 2 ^ 40) (by decide) (Nat.pow_le_pow_right (by decide) (by decide))
    refine ⟨updN r (g.idxOf f) (r (g.idxOf f) + -(kap part G t)), ?_, ⟨?_, ?_⟩, fun y => ?_, fun r0 h0 j hj => ?_⟩
    · unfold rowStep
      rw [e1]
      show (tvR V t.1 (t.2.filter fun f => !decide (f ∈ g))).bind (fun x => (addB (r (g.idxOf f)) (-x)).map fun b => updN r (g.idxOf f) b) = _
      rw [htv]
      show (addB (r (g.idxOf f)) (-(kap part G t))).map (fun b => updN r (g.idxOf f) b) = _
      unfold addB
      rw [if_pos ⟨hsm _ (by omega), hsk⟩]
      rfl
    · obtain ⟨a, ha, hs⟩ := hr.l
      refine ⟨fun j => if j = g.idxOf f then a j + -(kk part G t) else a j, fun j hj => ?_, ?_⟩
      · show updN r (g.idxOf f) _ j * _ = (((if j = g.idxOf f then a j + -(kk part G t) else a j) : Int) : Rat)
        unfold updN
        split
        · rename_i z
          subst z
          have := ha _ hj
          have := h.int
          rw [Rat.intCast_add, Rat.intCast_neg]
          grind
        · exact ha j hj
      · have := sNt_upd (a := a) (i := g.idxOf f) (x := -(kk part G t)) (n := g.length)
        have := h.ki
        rw [Nat.succ_mul]
        omega
    · obtain ⟨b, hb, hb2⟩ := hr.c
      refine ⟨b, by rw [Nat.succ_mul]; omega, ?_⟩
      unfold updN
      rw [if_neg (by omega)]
      exact hb2
    · rw [dot_upd (by omega)]
      unfold contr
      rw [if_pos hex, hhd]
      grind
    · unfold lcol
      rw [if_pos hex, hhd]
      unfold updN
      split
      · rw [h0 _ hidx]
      · exact h0 j hj
  · have hex : ¬ ∃ f ∈ g, f ∈ t.2 := fun ⟨f, q1, q2⟩ => hno f q2 q1
    have e1 : (t.2.filter fun x => decide (x ∈ g)) = [] := List.filter_eq_nil_iff.mpr fun x hx => by simp [hno x hx]
    have htv := tvR_ok h.two h.co h.sz
    have htq := tv_eq (part := part) (G := G) (V := V) (t := t) h.out
    have hD' : (D : Rat) ≠ 0 := fun z => hD (Rat.intCast_eq_zero_iff.mp z)
    have hval : t.1 * prodL V t.2 * (((N0 : Int) * D : Int) : Rat) = ((kk part G t * Y : Int) : Rat) := by
      rw [htq, Rat.intCast_mul, Rat.intCast_mul]
      have a := h.int
      rw [← a, ← hY, show (((N0 : Nat) : Int) : Rat) = ((N0 : Nat) : Rat) from rfl]
      grind
    have hYk : (kk part G t * Y).natAbs ≤ K0 * Y2 := by rw [Int.natAbs_mul]; exact Nat.mul_le_mul h.ki hYb
    have hsv : Sm (t.1 * prodL V t.2) := by
      refine Fr.to_sm (P := 4 * (K0 * Y2)) (N := N0 * D.natAbs) ⟨_, _, Int.mul_ne_zero (by decide) hD, ?_, ?_, hval⟩ h2 h1
      · omega
      · rw [Int.natAbs_mul]; exact Nat.le_refl _
    refine ⟨updN r g.length (r g.length + t.1 * prodL V t.2), ?_, ⟨?_, ?_⟩, fun y => ?_, fun r0 h0 j hj => ?_⟩
    · unfold rowStep
      rw [e1]
      show (tvR V t.1 t.2).bind (fun x => (addB (r g.length) x).map fun b => updN r g.length b) = _
      rw [htv]
      show (addB (r g.length) (t.1 * prodL V t.2)).map (fun b => updN r g.length b) = _
      unfold addB
      rw [if_pos ⟨hsm _ (by omega), hsv⟩]
      rfl
    · obtain ⟨a, ha, hs⟩ := hr.l
      refine ⟨a, fun j hj => ?_, by rw [Nat.succ_mul]; omega⟩
      unfold updN
      rw [if_neg (by omega)]
      exact ha j hj
    · obtain ⟨b, hb, hb2⟩ := hr.c
      refine ⟨b + kk part G t * Y, ?_, ?_⟩
      · have := Int.natAbs_add_le b (kk part G t * Y)
        rw [Nat.succ_mul]
        omega
      · unfold updN
        rw [if_pos rfl, Rat.intCast_add, ← hb2, ← hval]
        grind
    · rw [dot_upd (by omega)]
      unfold contr
      rw [if_neg hex]
    · unfold lcol updN
      rw [if_neg hex, if_neg (by omega)]
      exact h0 j hj
theorem row_go (hg : ∀ f ∈ g, f ∈ part) (hD : D ≠ 0) (h1 : N0 * D.natAbs < 2 ^ 4400) (h2 : 4 * (K0 * Y2) < 2 ^ 4400) : ∀ {ts : List Term} {r : Nat → Rat} {k : Nat}, (∀ t ∈ ts, TmOK part G g V D Y2 t) → k + ts.length ≤ 4 → RP g.length D Y2 r k →
    ∃ r', rowGo V g r ts = some r' ∧ RP g.length D Y2 r' (k + ts.length) ∧ (∀ y, dot r' y (g.length + 1) = dot r y (g.length + 1) + sT (contr part G g V y) ts) ∧ (∀ r0 : Nat → Rat, (∀ j, j < g.length → r j = r0 j) → ∀ j, j < g.length → r' j = ts.foldl (lcol part G g) r0 j)
  | [], r, k, _, _, hr => ⟨r, rfl, hr, fun y => by show _ = _ + 0; grind, fun r0 h0 j hj => h0 j hj⟩
  | t :: ts, r, k, ht, hk, hr => by
    rw [List.length_cons] at hk
    obtain ⟨r1, a1, a2, a3, a4⟩ := row_step (ht t (by simp)) hg hD (by omega) hr h1 h2
    obtain ⟨r2, b1, b2, b3, b4⟩ := row_go hg hD h1 h2 (ts := ts) (r := r1) (k := k + 1) (fun s hs => ht s (by simp [hs])) (by omega) a2
    refine ⟨r2, ?_, ?_, fun y => ?_, fun r0 h0 j hj => ?_⟩
    · show (rowStep V g r t).bind _ = _
      rw [a1]; exact b1
    · rw [List.length_cons, show k + (ts.length + 1) = k + 1 + ts.length by omega]; exact b2
    · rw [b3, a3, sT]; grind
    · rw [List.foldl_cons]
      exact b4 _ (a4 r0 h0) j hj
theorem RP.start (g : List U) (u : U) (hu : u ∈ g) (hn : g.Nodup) (D : Int) (Y2 : Nat) : RP g.length D Y2 (row0 g u) 0 := by
  refine ⟨⟨fun j => if g[j]? = some u then (N0 : Int) else 0, fun j _ => ?_, ?_⟩, 0, Nat.zero_le _, ?_⟩
  · show (if g[j]? = some u then (1 : Rat) else 0) * _ = (((if g[j]? = some u then (N0 : Int) else 0) : Int) : Rat)
    split
    · rw [Rat.intCast_natCast]; grind
    · have z0 : ((0 : Int) : Rat) = 0 := rfl
      rw [z0]; grind
  · have h1 : ∀ m, m ≤ g.length → sNt (fun j => (if g[j]? = some u then (N0 : Int) else 0).natAbs) m ≤ if g.idxOf u < m then N0 else 0 := fun m => by
      induction m with
      | zero => intro _; exact Nat.zero_le _
      | succ m ih =>
        intro hm
        have ih := ih (by omega)
        simp only [sNt]
        have key : g[m]? = some u ↔ g.idxOf u = m := by
          constructor
          · intro e
            obtain ⟨q1, q2⟩ := List.getElem?_eq_some_iff.mp e
            have := List.Nodup.idxOf_getElem hn m q1
            rw [q2] at this
            exact this
          · intro e
            subst e
            rw [List.getElem?_eq_getElem hm, List.getElem_idxOf hm]
        by_cases c : g.idxOf u = m
        · rw [if_pos (key.mpr c), if_pos (by omega)]
          rw [if_neg (by omega)] at ih
          rw [Int.natAbs_natCast]
          omega
        · rw [if_neg fun z => c (key.mp z)]
          by_cases c2 : g.idxOf u < m
          · rw [if_pos c2] at ih
            rw [if_pos (by omega)]
            show _ + 0 ≤ _
            omega
          · rw [if_neg c2] at ih
            rw [if_neg (by omega)]
            show _ + 0 ≤ _
            omega
    have := h1 g.length (Nat.le_refl _)
    refine Nat.le_trans this ?_
    split <;> omega
  · unfold row0
    rw [List.getElem?_eq_none (Nat.le_refl _), if_neg (by simp)]
    have z0 : ((0 : Int) : Rat) = 0 := rfl
    rw [z0]; grind
theorem dot_row0 {u : U} (hu : u ∈ g) (hn : g.Nodup) (y : Nat → Rat) : dot (row0 g u) y (g.length + 1) = y (g.idxOf u) := by
  have hi := List.idxOf_lt_length_of_mem hu
  unfold dot
  rw [sR_one (k := g.idxOf u) (fun j hj hne => ?_) (by omega)]
  · unfold row0
    rw [List.getElem?_eq_getElem hi, List.getElem_idxOf hi, if_pos rfl]
    grind
  · unfold row0
    rw [if_neg fun e => ?_]
    · grind
    · obtain ⟨q1, q2⟩ := List.getElem?_eq_some_iff.mp e
      have := List.Nodup.idxOf_getElem hn j q1
      rw [q2] at this
      exact hne this.symm
end
end Od
namespace Od
structure SysOK (T : U → List Term) (part : List U) (cut : U) (G : U → Rat) (dg : U → Nat) : Prop where
  nd : part.Nodup
  len : part.length ≤ 20
  hc : cut ∈ part
  few : ∀ u ∈ part, (T u).length ≤ 4
  two : ∀ u ∈ part, ∀ t ∈ T u, t.2.length ≤ 2
  co : ∀ u ∈ part, ∀ t ∈ T u, Fr 60 60 t.1
  giv : ∀ u ∈ part, ∀ t ∈ T u, ∀ f ∈ t.2, Fr 9 9 (G f)
  int : ∀ u ∈ part, ∀ t ∈ T u, kap part G t * ((N0 : Nat) : Rat) = (kk part G t : Rat)
  ki : ∀ u ∈ part, ∀ t ∈ T u, (kk part G t).natAbs ≤ K0
  d1 : dg cut = 1
  d12 : ∀ u ∈ part, dg u = 1 ∨ dg u = 2
  dcut : ∀ t ∈ T cut, ((pf part t).map dg).sum ≤ 2
structure GrpOK (T : U → List Term) (part : List U) (cut : U) (dg : U → Nat) (done g : List U) (d : Nat) : Prop where
  nd : g.Nodup
  sub : ∀ u ∈ g, u ∈ part ∧ u ≠ cut ∧ u ∉ done ∧ dg u = d
  tm : ∀ u ∈ g, ∀ t ∈ T u, (∃ f ∈ g, pf part t = [f]) ∨ ((∀ f ∈ t.2, f ∉ g) ∧ (∀ f ∈ pf part t, f ∈ done ∨ f = cut) ∧ ((pf part t).map dg).sum ≤ d)
def lin (part : List U) (cut : U) (G : U → Rat) (dg : U → Nat) (d : Nat) (z : U → Rat) (t : Term) : Rat := match pf part t with
  | [f] => if f ≠ cut ∧ dg f = d then kap part G t * z f else 0
  | _ => 0
def Uniq (T : U → List Term) (part : List U) (cut : U) (G : U → Rat) (dg : U → Nat) (done : List U) (d : Nat) : Prop :=
  ∀ z : U → Rat, (∀ u ∈ done, dg u = d → z u = sT (lin part cut G dg d z) (T u)) → ∀ u ∈ done, dg u = d → z u = 0
structure DoneOK (T : U → List Term) (part : List U) (cut : U) (G : U → Rat) (dg : U → Nat) (done : List U) : Prop where
  nd : done.Nodup
  sub : ∀ u ∈ done, u ∈ part ∧ u ≠ cut
  clo : ∀ u ∈ done, ∀ t ∈ T u, ∀ f ∈ pf part t, f ∈ done ∨ f = cut
  deg : ∀ u ∈ done, ∀ t ∈ T u, ((pf part t).map dg).sum ≤ dg u
  un : ∀ d, Uniq T part cut G dg done d
structure VInv (T : U → List Term) (cut : U) (G : U → Rat) (tt : Nat) (done : List U) (V : U → Rat) : Prop where
  out : ∀ f, f ∉ done → f ≠ cut → V f = G f
  cut : V cut = (tt : Rat)
  sz : ∀ f ∈ done, Fr BB BB (V f)
  eq : ∀ u ∈ done, V u = sT (fun t => t.1 * prodL V t.2) (T u)
def isL (part S : List U) (t : Term) : Bool := match pf part t with
  | [f] => decide (f ∈ S)
  | _ => false
theorem isL_iff {part S : List U} {t : Term} : isL part S t = true ↔ ∃ f ∈ S, pf part t = [f] := by
  unfold isL
  split
  · rename_i f e
    constructor
    · intro h; exact ⟨f, of_decide_eq_true h, e⟩
    · rintro ⟨f', h1, h2⟩
      rw [e] at h2
      cases h2
      exact decide_eq_true h1
  · rename_i h
    constructor
    · intro z; cases z
    · rintro ⟨f', _, h2⟩
      exact absurd h2 (h f')
/-- whole sums -/
theorem sT_int {β : Type} {f : β → Rat} {B : Nat} : ∀ {ts : List β}, (∀ t ∈ ts, ∃ Y : Int, f t = (Y : Rat) ∧ Y.natAbs ≤ B) → ∃ Y : Int, sT f ts = (Y : Rat) ∧ Y.natAbs ≤ ts.length * B
  | [], _ => ⟨0, rfl, Nat.zero_le _⟩
  | t :: ts, h => by
    obtain ⟨Y, e1, e2⟩ := h t (by simp)
    obtain ⟨Z, e3, e4⟩ := sT_int (ts := ts) fun s hs => h s (by simp [hs])
    refine ⟨Y + Z, by rw [sT, e1, e3, Rat.intCast_add], ?_⟩
    have := Int.natAbs_add_le Y Z
    rw [List.length_cons, Nat.succ_mul]; omega
def cof (T : U → List Term) (part : List U) (G : U → Rat) (u v : U) : Int := sTZ (fun t => if pf part t = [v] then kk part G t else 0) (T u)
/-- the coefficients' sum -/
theorem cof_sum (T : U → List Term) (part : List U) (G : U → Rat) (u : U) {S : List U} (hn : S.Nodup) (z : U → Rat) :
    sT (fun v => (cof T part G u v : Rat) * z v) S = sT (fun t => if isL part S t = true then (kk part G t : Rat) * prodL z (pf part t) else 0) (T u) := by
  have e1 : (fun v => (cof T part G u v : Rat) * z v) = fun v => sT (fun t => (if pf part t = [v] then (kk part G t : Rat) else 0) * z v) (T u) := by
    funext v
    have : (fun t => (if pf part t = [v] then (kk part G t : Rat) else 0) * z v) = fun t => z v * (if pf part t = [v] then (kk part G t : Rat) else 0) := by funext t; grind
    rw [this, sT_mul]
    unfold cof
    rw [sT_cast]
    have e : (fun t => (((if pf part t = [v] then kk part G t else 0) : Int) : Rat)) = fun t => if pf part t = [v] then (kk part G t : Rat) else 0 := by
      funext t
      split
      · rfl
      · rfl
    rw [e]; grind
  rw [e1, ← sT_swap (fun t v => (if pf part t = [v] then (kk part G t : Rat) else 0) * z v)]
  refine sT_congr fun t _ => ?_
  by_cases h : isL part S t = true
  · rw [if_pos h]
    obtain ⟨f, hf, e⟩ := isL_iff.mp h
    rw [sT_single (u := f) hn hf fun v _ hne => by
      rw [e, if_neg fun q => hne (by cases q; rfl)]; grind]
    rw [e, if_pos rfl]
    show _ = _ * (z f * 1)
    grind
  · rw [if_neg h]
    refine sT_zero fun v hv => ?_
    rw [if_neg fun q => h (isL_iff.mpr ⟨v, hv, q⟩)]; grind
theorem cof_few (T : U → List Term) (part : List U) (G : U → Rat) (u : U) {S : List U} (hn : S.Nodup) (hk : ∀ t ∈ T u, (kk part G t).natAbs ≤ K0) :
    sTN (fun v => (cof T part G u v).natAbs) S ≤ (T u).length * K0 := by
  have go : ∀ ts : List Term, (∀ t ∈ ts, (kk part G t).natAbs ≤ K0) → sTN (fun v => (sTZ (fun t => if pf part t = [v] then kk part G t else 0) ts).natAbs) S ≤ ts.length * K0 := fun ts => by
    induction ts with
    | nil =>
      intro _
      have : sTN (fun v => (sTZ (fun t => if pf part t = [v] then kk part G t else 0) ([] : List Term)).natAbs) S ≤ S.length * 0 := sTN_le fun v _ => Nat.le_refl _
      simpa using this
    | cons t ts ih =>
      intro h
      have h1 := ih fun s hs => h s (by simp [hs])
      have h2 : sTN (fun v => (sTZ (fun t => if pf part t = [v] then kk part G t else 0) (t :: ts)).natAbs) S ≤ sTN (fun v => (if pf part t = [v] then K0 else 0) + (sTZ (fun t => if pf part t = [v] then kk part G t else 0) ts).natAbs) S := sTN_mono fun v _ => by
        have := h t (by simp)
        have := Int.natAbs_add_le (if pf part t = [v] then kk part G t else 0) (sTZ (fun t => if pf part t = [v] then kk part G t else 0) ts)
        rw [sTZ]
        split at this <;> rename_i q
        · rw [if_pos q, if_pos q]; omega
        · rw [if_neg q, if_neg q]; omega
      rw [sTN_add] at h2
      have h3 := sTN_single_le (K := K0) (p := fun v => pf part t = [v]) (L := S) hn fun a _ b _ e1 e2 => by
        rw [e1] at e2; cases e2; rfl
      rw [List.length_cons, Nat.succ_mul]
      omega
  exact go (T u) hk
def W0 : Nat := 2 * (N0 + 4 * K0) + 2
def lev (dg : U → Nat) (done : List U) (d : Nat) : List U := done.filter fun u => decide (dg u = d)
theorem mem_lev {dg : U → Nat} {done : List U} {d : Nat} {u : U} : u ∈ lev dg done d ↔ u ∈ done ∧ dg u = d := by
  unfold lev
  rw [List.mem_filter, decide_eq_true_eq]
theorem joint' {S : List U} (hn : S.Nodup) {c : U → U → Int} {r x : U → Rat} {D : Int} {Q : Nat} (hD : D ≠ 0)
    (hc : ∀ u ∈ S, sTN (fun v => (c u v).natAbs) S ≤ 4 * K0) (hx : ∀ u ∈ S, ((N0 : Nat) : Rat) * x u = sT (fun v => (c u v : Rat) * x v) S + r u) (hr : ∀ u ∈ S, ∃ ρ : Int, r u * (D : Rat) = (ρ : Rat) ∧ ρ.natAbs ≤ Q)
    (un : ∀ z : U → Rat, (∀ u ∈ S, ((N0 : Nat) : Rat) * z u = sT (fun v => (c u v : Rat) * z v) S) → ∀ u ∈ S, z u = 0) :
    ∃ w : Int, w ≠ 0 ∧ w.natAbs ≤ W0 ^ S.length ∧ ∀ u ∈ S, ∃ Y : Int, x u * ((D * w : Int) : Rat) = (Y : Rat) ∧ Y.natAbs ≤ Q * W0 ^ S.length := by
  have hr' : ∀ u, ∃ ρ : Int, u ∈ S → r u * (D : Rat) = (ρ : Rat) ∧ ρ.natAbs ≤ Q := fun u => by
    by_cases h : u ∈ S
    · obtain ⟨ρ, q⟩ := hr u h
      exact ⟨ρ, fun _ => q⟩
    · exact ⟨0, fun z => absurd z h⟩
  obtain ⟨ρ, hρ⟩ := Classical.axiomOfChoice hr'
  exact joint hn (N0 := N0) (by decide) (ρ := ρ) hD hc hx (fun u hu => (hρ u hu).1) (fun u hu => (hρ u hu).2) un
section
variable {T : U → List Term} {part : List U} {cut : U} {G : U → Rat} {dg : U → Nat} {done : List U} {V : U → Rat} {tt : Nat}
theorem DoneOK.val (Dn : DoneOK T part cut G dg done) (S : SysOK T part cut G dg) (I : VInv T cut G tt done V) {u : U} (hu : u ∈ part) {t : Term} (ht : t ∈ T u) : t.1 * prodL V t.2 = kap part G t * prodL V (pf part t) :=
  tv_eq fun f _ hp => I.out f (fun z => hp (Dn.sub f z).1) fun z => hp (z ▸ S.hc)
theorem DoneOK.val0 (Dn : DoneOK T part cut G dg done) (S : SysOK T part cut G dg) (I : VInv T cut G tt done V) {u : U} (hu : u ∈ done) : ((N0 : Nat) : Rat) * V u = sT (fun t => (kk part G t : Rat) * prodL V (pf part t)) (T u) := by
  rw [I.eq u hu, ← sT_mul]
  refine sT_congr fun t ht => ?_
  have hp := (Dn.sub u hu).1
  rw [Dn.val S I hp ht, ← S.int u hp t ht]
  grind
/-- the system of one degree, its solutions alone -/
theorem DoneOK.lev_un (Dn : DoneOK T part cut G dg done) (S : SysOK T part cut G dg) (d : Nat) (z : U → Rat) (hz : ∀ u ∈ lev dg done d, ((N0 : Nat) : Rat) * z u = sT (fun v => (cof T part G u v : Rat) * z v) (lev dg done d)) : ∀ u ∈ lev dg done d, z u = 0 := by
  have hn : (lev dg done d).Nodup := Dn.nd.filter _
  have hN : ((N0 : Nat) : Rat) ≠ 0 := fun z => absurd (Rat.natCast_eq_zero_iff.mp z) (by decide)
  have key := Dn.un d z fun u hu hd => by
    have h1 := hz u (mem_lev.mpr ⟨hu, hd⟩)
    rw [cof_sum T part G u hn z] at h1
    have hp := (Dn.sub u hu).1
    have e : sT (fun t => if isL part (lev dg done d) t = true then (kk part G t : Rat) * prodL z (pf part t) else 0) (T u) = ((N0 : Nat) : Rat) * sT (lin part cut G dg d z) (T u) := by
      rw [← sT_mul]
      refine sT_congr fun t ht => ?_
      have hi := S.int u hp t ht
      by_cases h : isL part (lev dg done d) t = true
      · rw [if_pos h]
        obtain ⟨f, hf, e⟩ := isL_iff.mp h
        obtain ⟨f1, f2⟩ := mem_lev.mp hf
        unfold lin
        rw [e]
        show _ * (z f * 1) = _ * (if f ≠ cut ∧ dg f = d then kap part G t * z f else 0)
        rw [if_pos ⟨(Dn.sub f f1).2, f2⟩, ← hi]
        grind
      · rw [if_neg h]
        unfold lin
        split
        · rename_i f e
          rw [if_neg fun q => ?_]
          · grind
          · rcases Dn.clo u hu t ht f (by rw [e]; simp) with z1 | z1
            · exact h (isL_iff.mpr ⟨f, mem_lev.mpr ⟨z1, q.2⟩, e⟩)
            · exact q.1 z1
        · grind
    rw [e] at h1
    grind
  intro u hu
  obtain ⟨h1, h2⟩ := mem_lev.mp hu
  exact key u h1 h2
/-- the equations of one degree -/
theorem DoneOK.lev_eq (Dn : DoneOK T part cut G dg done) (S : SysOK T part cut G dg) (I : VInv T cut G tt done V) (d : Nat) {u : U} (hu : u ∈ lev dg done d) :
    ((N0 : Nat) : Rat) * V u = sT (fun v => (cof T part G u v : Rat) * V v) (lev dg done d) + sT (fun t => if isL part (lev dg done d) t = true then 0 else (kk part G t : Rat) * prodL V (pf part t)) (T u) := by
  have hn : (lev dg done d).Nodup := Dn.nd.filter _
  rw [Dn.val0 S I (mem_lev.mp hu).1, cof_sum T part G u hn V, ← sT_add]
  refine sT_congr fun t _ => ?_
  split <;> grind
theorem DoneOK.cofs (Dn : DoneOK T part cut G dg done) (S : SysOK T part cut G dg) (d : Nat) : ∀ u ∈ lev dg done d, sTN (fun v => (cof T part G u v).natAbs) (lev dg done d) ≤ 4 * K0 := fun u hu => by
  have hp := (Dn.sub u (mem_lev.mp hu).1).1
  exact Nat.le_trans (cof_few T part G u (Dn.nd.filter _) fun t ht => S.ki u hp t ht) (Nat.mul_le_mul_right _ (S.few u hp))
def M1 (m : Nat) : Nat := 12 * K0 * W0 ^ m
def Y2 (m n : Nat) : Nat := 4 * (K0 * (M1 m * M1 m)) * W0 ^ n
theorem W_pos (m : Nat) : 1 ≤ W0 ^ m := Nat.pow_pos (by decide)
theorem two_deg {dg : U → Nat} {part fs : List U} (h12 : ∀ f ∈ fs, dg f = 1 ∨ dg f = 2) (hs : (fs.map dg).sum ≤ 2) : fs = [] ∨ (∃ f, fs = [f]) ∨ ∃ f g, fs = [f, g] ∧ dg f = 1 ∧ dg g = 1 := by
  match fs with
  | [] => exact .inl rfl
  | [f] => exact .inr (.inl ⟨f, rfl⟩)
  | [f, g] =>
    refine .inr (.inr ⟨f, g, rfl, ?_⟩)
    simp only [List.map_cons, List.map_nil, List.sum_cons, List.sum_nil] at hs
    have := h12 f (by simp)
    have := h12 g (by simp)
    omega
  | f :: g :: k :: l =>
    simp only [List.map_cons, List.sum_cons] at hs
    have := h12 f (by simp)
    have := h12 g (by simp)
    have := h12 k (by simp)
    omega
/-- all values as fractions -/
structure Vals2 (dg : U → Nat) (cut : U) (done : List U) (V : U → Rat) (Z w : Int) : Prop where
  z0 : Z ≠ 0
  w0 : w ≠ 0
  zb : Z.natAbs ≤ M1 (lev dg done 1).length
  wb : w.natAbs ≤ W0 ^ (lev dg done 2).length
  one : ∀ f, (f ∈ done ∧ dg f = 1) ∨ f = cut → ∃ Y : Int, V f * (Z : Rat) = (Y : Rat) ∧ Y.natAbs ≤ M1 (lev dg done 1).length
  two : ∀ f ∈ done, dg f = 2 → ∃ Y : Int, V f * ((Z * Z * w : Int) : Rat) = (Y : Rat) ∧ Y.natAbs ≤ Y2 (lev dg done 1).length (lev dg done 2).length
theorem DoneOK.vals (Dn : DoneOK T part cut G dg done) (S : SysOK T part cut G dg) (I : VInv T cut G tt done V) (htt : tt ≤ 3) : ∃ Z w, Vals2 dg cut done V Z w := by
  have h12 : ∀ {u : U} {t : Term}, ∀ f ∈ pf part t, dg f = 1 ∨ dg f = 2 := fun {u t} f hf => S.d12 f (mem_pf.mp hf).2
  -- degree 1
  obtain ⟨Z, z1, z2, z3⟩ := joint' (S := lev dg done 1) (Dn.nd.filter _) (c := cof T part G) (D := 1) (Q := 4 * (K0 * 3)) (x := V) (by decide) (Dn.cofs S 1) (fun u hu => Dn.lev_eq S I 1 hu) (fun u hu => by
    obtain ⟨hud, hd⟩ := mem_lev.mp hu
    have hp := (Dn.sub u hud).1
    obtain ⟨Y, e1, e2⟩ := sT_int (f := fun t => if isL part (lev dg done 1) t = true then 0 else (kk part G t : Rat) * prodL V (pf part t)) (B := K0 * 3) (ts := T u) fun t ht => by
      by_cases h : isL part (lev dg done 1) t = true
      · simp only [if_pos h]
        exact ⟨0, rfl, Nat.zero_le _⟩
      · simp only [if_neg h]
        have hs := Dn.deg u hud t ht
        rw [hd] at hs
        have hk := S.ki u hp t ht
        rcases two_deg (part := part) (h12 (u := u) (t := t)) (Nat.le_trans hs (by decide)) with e | ⟨f, e⟩ | ⟨f, g, e, f1, g1⟩
        · rw [e]
          refine ⟨kk part G t, ?_, by omega⟩
          show _ * (1 : Rat) = _
          grind
        · rw [e] at hs ⊢
          have hdf : dg f = 1 := by
            have := h12 (u := u) (t := t) f (by rw [e]; simp)
            simp only [List.map_cons, List.map_nil, List.sum_cons, List.sum_nil] at hs
            omega
          rcases Dn.clo u hud t ht f (by rw [e]; simp) with q | q
          · exact absurd (isL_iff.mpr ⟨f, mem_lev.mpr ⟨q, hdf⟩, e⟩) h
          · subst q
            refine ⟨kk part G t * (tt : Int), ?_, ?_⟩
            · show _ * (V f * 1) = _
              rw [I.cut, Rat.intCast_mul, Rat.intCast_natCast]
              grind
            · rw [Int.natAbs_mul, Int.natAbs_natCast]
              exact Nat.mul_le_mul hk htt
        · rw [e] at hs
          simp only [List.map_cons, List.map_nil, List.sum_cons, List.sum_nil] at hs
          omega
    refine ⟨Y, ?_, Nat.le_trans e2 (Nat.mul_le_mul_right _ (S.few u hp))⟩
    show _ * ((1 : Int) : Rat) = _
    rw [e1]
    have : ((1 : Int) : Rat) = 1 := rfl
    rw [this]; grind) (fun z hz => Dn.lev_un S 1 z hz)
  have hM1 : 4 * (K0 * 3) * W0 ^ (lev dg done 1).length = M1 (lev dg done 1).length := by
    unfold M1
    congr 1
  have hWM : 3 * W0 ^ (lev dg done 1).length ≤ M1 (lev dg done 1).length := by
    unfold M1
    exact Nat.mul_le_mul_right _ (by decide)
  have one : ∀ f, (f ∈ done ∧ dg f = 1) ∨ f = cut → ∃ Y : Int, V f * (Z : Rat) = (Y : Rat) ∧ Y.natAbs ≤ M1 (lev dg done 1).length := fun f hf => by
    rcases hf with ⟨q1, q2⟩ | q
    · obtain ⟨Y, e1, e2⟩ := z3 f (mem_lev.mpr ⟨q1, q2⟩)
      rw [Int.one_mul] at e1
      exact ⟨Y, e1, by rw [← hM1]; exact e2⟩
    · subst q
      refine ⟨(tt : Int) * Z, ?_, ?_⟩
      · rw [I.cut, Rat.intCast_mul, Rat.intCast_natCast]
      · rw [Int.natAbs_mul, Int.natAbs_natCast]
        have := Nat.mul_le_mul htt z2
        omega
  have zb : Z.natAbs ≤ M1 (lev dg done 1).length := by omega
  have hMM := Nat.mul_le_mul zb zb
  -- degree 2
  obtain ⟨w, w1, w2, w3⟩ := joint' (S := lev dg done 2) (Dn.nd.filter _) (c := cof T part G) (D := Z * Z) (Q := 4 * (K0 * (M1 (lev dg done 1).length * M1 (lev dg done 1).length))) (x := V) (Int.mul_ne_zero z1 z1) (Dn.cofs S 2) (fun u hu => Dn.lev_eq S I 2 hu) (fun u hu => by
    obtain ⟨hud, hd⟩ := mem_lev.mp hu
    have hp := (Dn.sub u hud).1
    obtain ⟨Y, e1, e2⟩ := sT_int (f := fun t => ((Z * Z : Int) : Rat) * (if isL part (lev dg done 2) t = true then 0 else (kk part G t : Rat) * prodL V (pf part t))) (B := K0 * (M1 (lev dg done 1).length * M1 (lev dg done 1).length)) (ts := T u) fun t ht => by
      by_cases h : isL part (lev dg done 2) t = true
      · simp only [if_pos h]
        exact ⟨0, by have z0 : ((0 : Int) : Rat) = 0 := rfl; rw [z0]; grind, Nat.zero_le _⟩
      · simp only [if_neg h]
        have hs := Dn.deg u hud t ht
        rw [hd] at hs
        have hk := S.ki u hp t ht
        have fin : ∀ Y : Int, prodL V (pf part t) * ((Z * Z : Int) : Rat) = (Y : Rat) → Y.natAbs ≤ M1 (lev dg done 1).length * M1 (lev dg done 1).length → ∃ Y : Int, ((Z * Z : Int) : Rat) * ((kk part G t : Rat) * prodL V (pf part t)) = (Y : Rat) ∧ Y.natAbs ≤ K0 * (M1 (lev dg done 1).length * M1 (lev dg done 1).length) := fun Y a b => by
          refine ⟨kk part G t * Y, ?_, by rw [Int.natAbs_mul]; exact Nat.mul_le_mul hk b⟩
          rw [Rat.intCast_mul (kk part G t), ← a]; grind
        rcases two_deg (part := part) (h12 (u := u) (t := t)) hs with e | ⟨f, e⟩ | ⟨f, g, e, f1, g1⟩
        · refine fin (Z * Z) ?_ (by rw [Int.natAbs_mul]; exact hMM)
          rw [e]
          show (1 : Rat) * _ = _
          grind
        · have hcl := Dn.clo u hud t ht f (by rw [e]; simp)
          have hf1 : (f ∈ done ∧ dg f = 1) ∨ f = cut := by
            rcases hcl with q | q
            · rcases h12 (u := u) (t := t) f (by rw [e]; simp) with d | d
              · exact .inl ⟨q, d⟩
              · exact absurd (isL_iff.mpr ⟨f, mem_lev.mpr ⟨q, d⟩, e⟩) h
            · exact .inr q
          obtain ⟨Y, y1, y2⟩ := one f hf1
          refine fin (Y * Z) ?_ (by rw [Int.natAbs_mul]; exact Nat.mul_le_mul y2 zb)
          rw [e]
          show (V f * 1) * _ = _
          rw [Rat.intCast_mul, Rat.intCast_mul, ← y1]; grind
        · have c1 : (f ∈ done ∧ dg f = 1) ∨ f = cut := (Dn.clo u hud t ht f (by rw [e]; simp)).imp (fun q => ⟨q, f1⟩) id
          have c2 : (g ∈ done ∧ dg g = 1) ∨ g = cut := (Dn.clo u hud t ht g (by rw [e]; simp)).imp (fun q => ⟨q, g1⟩) id
          obtain ⟨Y, y1, y2⟩ := one f c1
          obtain ⟨Y', y1', y2'⟩ := one g c2
          refine fin (Y * Y') ?_ (by rw [Int.natAbs_mul]; exact Nat.mul_le_mul y2 y2')
          rw [e]
          show (V f * (V g * 1)) * _ = _
          rw [Rat.intCast_mul, Rat.intCast_mul, ← y1, ← y1']; grind
    rw [sT_mul] at e1
    refine ⟨Y, ?_, Nat.le_trans e2 (Nat.mul_le_mul_right _ (S.few u hp))⟩
    rw [← e1]; grind) (fun z hz => Dn.lev_un S 2 z hz)
  exact ⟨Z, w, z1, w1, zb, w2, one, fun f hf hd => w3 f (mem_lev.mpr ⟨hf, hd⟩)⟩
/-- the factors inside the part of a term of degree at most 2, as a fraction -/
theorem Vals2.prod {Z w : Int} (H : Vals2 dg cut done V Z w) {fs : List U} (h12 : ∀ f ∈ fs, dg f = 1 ∨ dg f = 2) (hs : (fs.map dg).sum ≤ 2) (hin : ∀ f ∈ fs, f ∈ done ∨ f = cut) (hcut : dg cut = 1) :
    ∃ Y : Int, prodL V fs * ((Z * Z * w : Int) : Rat) = (Y : Rat) ∧ Y.natAbs ≤ Y2 (lev dg done 1).length (lev dg done 2).length := by
  have hMW : M1 (lev dg done 1).length * M1 (lev dg done 1).length * W0 ^ (lev dg done 2).length ≤ Y2 (lev dg done 1).length (lev dg done 2).length := by
    unfold Y2
    refine Nat.mul_le_mul_right _ ?_
    rw [← Nat.mul_assoc]
    exact Nat.le_mul_of_pos_left _ (by decide)
  have b3 : ∀ {x y z : Int}, x.natAbs ≤ M1 (lev dg done 1).length → y.natAbs ≤ M1 (lev dg done 1).length → z.natAbs ≤ W0 ^ (lev dg done 2).length → (x * y * z).natAbs ≤ Y2 (lev dg done 1).length (lev dg done 2).length := fun {x y z} a b c => by
    rw [Int.natAbs_mul, Int.natAbs_mul]
    exact Nat.le_trans (Nat.mul_le_mul (Nat.mul_le_mul a b) c) hMW
  rcases two_deg (part := []) h12 hs with e | ⟨f, e⟩ | ⟨f, g, e, f1, g1⟩
  · subst e
    refine ⟨Z * Z * w, ?_, b3 H.zb H.zb H.wb⟩
    show (1 : Rat) * _ = _
    grind
  · subst e
    have hone : (f ∈ done ∧ dg f = 1) ∨ f = cut → ∃ Y : Int, prodL V [f] * ((Z * Z * w : Int) : Rat) = (Y : Rat) ∧ Y.natAbs ≤ Y2 (lev dg done 1).length (lev dg done 2).length := fun q => by
      obtain ⟨Y, y1, y2⟩ := H.one f q
      refine ⟨Y * Z * w, ?_, b3 y2 H.zb H.wb⟩
      show (V f * 1) * _ = _
      rw [Rat.intCast_mul, Rat.intCast_mul, Rat.intCast_mul, Rat.intCast_mul, ← y1]; grind
    rcases hin f (by simp) with q | q
    · rcases h12 f (by simp) with d | d
      · exact hone (.inl ⟨q, d⟩)
      · obtain ⟨Y, y1, y2⟩ := H.two f q d
        refine ⟨Y, ?_, y2⟩
        show (V f * 1) * _ = _
        rw [← y1]; grind
    · exact hone (.inr q)
  · subst e
    obtain ⟨Y, y1, y2⟩ := H.one f ((hin f (by simp)).imp (fun q => ⟨q, f1⟩) id)
    obtain ⟨Y', y1', y2'⟩ := H.one g ((hin g (by simp)).imp (fun q => ⟨q, g1⟩) id)
    refine ⟨Y * Y' * w, ?_, b3 y2 y2' H.wb⟩
    show (V f * (V g * 1)) * _ = _
    rw [Rat.intCast_mul, Rat.intCast_mul, Rat.intCast_mul, Rat.intCast_mul, ← y1, ← y1']; grind
end
end Od
namespace Od
theorem big1 : (N0 + 4 * K0 + 1) * (16 * 144) * (K0 * K0 * K0 * K0) * W0 ^ 38 ≤ BB := by unfold BB; decide +kernel
theorem big2 : N0 * 144 * (K0 * K0) * W0 ^ 38 ≤ BB := by unfold BB; decide +kernel
theorem W_38 {m n k : Nat} (h : m + n + k ≤ 19) : W0 ^ m * W0 ^ m * W0 ^ n * W0 ^ k ≤ W0 ^ 38 := by
  rw [← Nat.pow_add, ← Nat.pow_add, ← Nat.pow_add]
  exact Nat.pow_le_pow_right (by decide) (by omega)
theorem bnd1 {m n k : Nat} (h : m + n + k ≤ 19) : (N0 + 4 * K0 + 1) * ((4 * (K0 * Y2 m n)) * W0 ^ k) ≤ BB := by
  refine Nat.le_trans ?_ big1
  have := Nat.mul_le_mul_left ((N0 + 4 * K0 + 1) * (16 * 144) * (K0 * K0 * K0 * K0)) (W_38 h)
  refine Nat.le_trans (Nat.le_of_eq ?_) this
  unfold Y2 M1
  generalize W0 ^ m = x
  generalize W0 ^ n = y
  generalize W0 ^ k = z
  generalize K0 = c
  generalize N0 + 4 * c + 1 = e
  grind
theorem bnd2 {m n k : Nat} (h : m + n + k ≤ 19) : N0 * ((M1 m * M1 m * W0 ^ n) * W0 ^ k) ≤ BB := by
  refine Nat.le_trans ?_ big2
  have := Nat.mul_le_mul_left (N0 * 144 * (K0 * K0)) (W_38 h)
  refine Nat.le_trans (Nat.le_of_eq ?_) this
  unfold M1
  generalize W0 ^ m = x
  generalize W0 ^ n = y
  generalize W0 ^ k = z
  generalize K0 = c
  generalize N0 = e
  grind
theorem BB_2200 : BB < 2 ^ 2200 := by unfold BB; decide +kernel
theorem Y2_big (m n : Nat) : 2 ≤ Y2 m n := by
  have h1 : 1 ≤ M1 m := Nat.le_trans (W_pos m) (Nat.le_mul_of_pos_left _ (by decide))
  have h2 : 1 ≤ M1 m * M1 m := Nat.mul_pos h1 h1
  have h3 : 4 * K0 * 1 ≤ 4 * K0 * (M1 m * M1 m) := Nat.mul_le_mul_left _ h2
  have h4 : 2 ≤ 4 * K0 * 1 := by decide
  have e : 4 * (K0 * (M1 m * M1 m)) = 4 * K0 * (M1 m * M1 m) := by rw [Nat.mul_assoc]
  unfold Y2
  rw [e]
  have := Nat.le_mul_of_pos_right (4 * K0 * (M1 m * M1 m)) (W_pos n)
  omega
section
variable {T : U → List Term} {part : List U} {cut : U} {G : U → Rat} {dg : U → Nat} {done g : List U} {V : U → Rat} {tt d : Nat}
theorem small_one {x : Rat} {P N : Nat} (h : Fr P N x) (h1 : P ≤ 1000000000000000000) (h2 : N ≤ 1000000000000000000) : Fr BB BB x := h.mono (Nat.le_trans h1 BB_one) (Nat.le_trans h2 BB_one)
theorem GrpOK.count (Gr : GrpOK T part cut dg done g d) (S : SysOK T part cut G dg) (Dn : DoneOK T part cut G dg done) : (lev dg done 1).length + (lev dg done 2).length + g.length ≤ 19 := by
  have hnd : (cut :: (lev dg done 1 ++ lev dg done 2 ++ g)).Nodup := by
    rw [List.nodup_cons, List.nodup_append, List.nodup_append]
    refine ⟨fun h => ?_, ⟨Dn.nd.filter _, Dn.nd.filter _, fun a ha b hb e => ?_⟩, Gr.nd, fun a ha b hb e => ?_⟩
    · rcases List.mem_append.mp h with z | z
      · rcases List.mem_append.mp z with z | z
        · exact (Dn.sub cut (mem_lev.mp z).1).2 rfl
        · exact (Dn.sub cut (mem_lev.mp z).1).2 rfl
      · exact (Gr.sub cut z).2.1 rfl
    · subst e
      have := (mem_lev.mp ha).2
      have := (mem_lev.mp hb).2
      omega
    · subst e
      have : a ∈ done := by
        rcases List.mem_append.mp ha with z | z
        · exact (mem_lev.mp z).1
        · exact (mem_lev.mp z).1
      exact (Gr.sub a hb).2.2.1 this
  have := nodup_len hnd (m := part) fun x hx => by
    rcases List.mem_cons.mp hx with z | z
    · rw [z]; exact S.hc
    · rcases List.mem_append.mp z with z | z
      · rcases List.mem_append.mp z with z | z
        · exact (Dn.sub x (mem_lev.mp z).1).1
        · exact (Dn.sub x (mem_lev.mp z).1).1
      · exact (Gr.sub x z).1
  rw [List.length_cons, List.length_append, List.length_append] at this
  have := S.len
  omega
/-- a group's rows -/
structure GRows (T : U → List Term) (part : List U) (G : U → Rat) (g : List U) (V : U → Rat) (Rm : Mx) : Prop where
  ok : rowsOK T V g Rm
  gj : gjOK g.length Rm
  bb : ∀ S, gjN Rm g.length g.length = some S → ∀ i, i < g.length → ∀ j, j < g.length + 1 → Fr BB BB (S i j)
  dot : ∀ (i : Nat) (u : U), g[i]? = some u → ∀ y, dot (Rm i) y (g.length + 1) = y i + sT (contr part G g V y) (T u)
  left : ∀ (i : Nat) (u : U), g[i]? = some u → ∀ j, j < g.length → Rm i j = (T u).foldl (lcol part G g) (row0 g u) j
theorem grp_rows (S : SysOK T part cut G dg) (Dn : DoneOK T part cut G dg done) (Gr : GrpOK T part cut dg done g d) (hd : d ≤ 2) (I : VInv T cut G tt done V) (htt : tt ≤ 3) : ∃ Rm, GRows T part G g V Rm := by
  obtain ⟨Z, w, H⟩ := Dn.vals S I htt
  have hcnt := Gr.count S Dn
  have hD : Z * Z * w ≠ 0 := Int.mul_ne_zero (Int.mul_ne_zero H.z0 H.z0) H.w0
  have hDb : (Z * Z * w).natAbs ≤ M1 (lev dg done 1).length * M1 (lev dg done 1).length * W0 ^ (lev dg done 2).length := by
    rw [Int.natAbs_mul, Int.natAbs_mul]
    exact Nat.mul_le_mul (Nat.mul_le_mul H.zb H.zb) H.wb
  have hb1 := bnd1 hcnt
  have hb2 := bnd2 hcnt
  have hk1 := W_pos g.length
  have h1 : N0 * (Z * Z * w).natAbs < 2 ^ 4400 := by
    refine Nat.lt_of_le_of_lt ?_ BB_lt
    refine Nat.le_trans ?_ hb2
    exact Nat.mul_le_mul_left _ (Nat.le_trans hDb (Nat.le_mul_of_pos_right _ hk1))
  have h2 : 4 * (K0 * Y2 (lev dg done 1).length (lev dg done 2).length) < 2 ^ 4400 := by
    refine Nat.lt_of_le_of_lt ?_ BB_lt
    refine Nat.le_trans ?_ hb1
    exact Nat.le_trans (Nat.le_mul_of_pos_right _ hk1) (Nat.le_mul_of_pos_left _ (by omega))
  have hgp : ∀ f ∈ g, f ∈ part := fun f hf => (Gr.sub f hf).1
  have htm : ∀ u ∈ g, ∀ t ∈ T u, TmOK part G g V (Z * Z * w) (Y2 (lev dg done 1).length (lev dg done 2).length) t := fun u hu t ht => by
    have hp := hgp u hu
    refine ⟨S.two u hp t ht, S.co u hp t ht, fun f hf => ?_, fun f hf hfp => I.out f (fun z => hfp (Dn.sub f z).1) fun z => hfp (z ▸ S.hc), S.int u hp t ht, S.ki u hp t ht, ?_⟩
    · by_cases c1 : f ∈ done
      · exact I.sz f c1
      · by_cases c2 : f = cut
        · rw [c2, I.cut]
          refine small_one (P := 3) (N := 1) ?_ (by decide) (by decide)
          have := Fr.int (tt : Int) (P := 3) (by rw [Int.natAbs_natCast]; exact htt)
          rwa [Rat.intCast_natCast] at this
        · rw [I.out f c1 c2]
          exact small_one (S.giv u hp t ht f hf) (by decide) (by decide)
    · rcases Gr.tm u hu t ht with q | ⟨q1, q2, q3⟩
      · exact .inl q
      · exact .inr ⟨q1, H.prod (fun f hf => S.d12 f (mem_pf.mp hf).2) (by omega) q2 S.d1⟩
  have hrow : ∀ i : Nat, ∃ r : Nat → Rat, ∀ u, g[i]? = some u → rowGo V g (row0 g u) (T u) = some r ∧ RP g.length (Z * Z * w) (Y2 (lev dg done 1).length (lev dg done 2).length) r (T u).length ∧
      (∀ y, dot r y (g.length + 1) = y i + sT (contr part G g V y) (T u)) ∧ (∀ j, j < g.length → r j = (T u).foldl (lcol part G g) (row0 g u) j) := fun i => by
    cases hx : g[i]? with
    | none => exact ⟨fun _ => 0, fun u h => nomatch h⟩
    | some u =>
      have hu := List.mem_of_getElem? hx
      obtain ⟨r', a1, a2, a3, a4⟩ := row_go hgp hD h1 h2 (ts := T u) (r := row0 g u) (k := 0) (htm u hu) (by rw [Nat.zero_add]; exact S.few u (hgp u hu)) (RP.start g u hu Gr.nd _ _)
      refine ⟨r', fun v hv => ?_⟩
      cases hv
      refine ⟨a1, by rw [Nat.zero_add] at a2; exact a2, fun y => ?_, fun j hj => a4 _ (fun _ _ => rfl) j hj⟩
      rw [a3, dot_row0 hu Gr.nd]
      congr 2
      obtain ⟨q1, q2⟩ := List.getElem?_eq_some_iff.mp hx
      have := List.Nodup.idxOf_getElem Gr.nd i q1
      rw [q2] at this
      exact this
  obtain ⟨Rm, hRm⟩ := Classical.axiomOfChoice hrow
  have rows : Rows Rm g.length (N0 + 4 * K0) (4 * (K0 * Y2 (lev dg done 1).length (lev dg done 2).length)) N0 (Z * Z * w) := by
    refine ⟨hD, fun i hi => ?_⟩
    obtain ⟨_, ⟨⟨a, ha, hs⟩, b, hb, hb2⟩, _⟩ := hRm i _ (List.getElem?_eq_getElem hi)
    have hf := S.few _ (hgp _ (List.getElem_mem hi))
    have hk := Nat.mul_le_mul_right K0 hf
    have hk2 := Nat.mul_le_mul_right (K0 * Y2 (lev dg done 1).length (lev dg done 2).length) hf
    exact ⟨(N0 : Int), a, b, by decide, Nat.le_refl _, ha, by omega, by omega, hb2⟩
  have hAQ : N0 + 4 * K0 ≤ 4 * (K0 * Y2 (lev dg done 1).length (lev dg done 2).length) := by
    have := Nat.mul_le_mul_left K0 (Y2_big (lev dg done 1).length (lev dg done 2).length)
    have h3 : N0 + 4 * K0 ≤ 4 * (K0 * 2) := by decide
    omega
  have bb : ∀ c, c ≤ g.length → ∀ S', gjN Rm g.length c = some S' → ∀ i, i < g.length → ∀ j, j < g.length + 1 → Fr BB BB (S' i j) := fun c hc S' hS i hi j hj => by
    have := gj_bound rows hAQ (by have : 1 ≤ N0 + 4 * K0 := by decide
                                  omega) (by decide) hc hS i hi j hj
    exact this.mono hb1 (Nat.le_trans (Nat.mul_le_mul_left _ (Nat.mul_le_mul_right _ hDb)) hb2)
  refine ⟨Rm, fun i u hu => (hRm i u hu).1, fun c hc S' hS i hi j hj => ?_, fun S' hS => bb _ (Nat.le_refl _) S' hS, fun i u hu => (hRm i u hu).2.2.1, fun i u hu => (hRm i u hu).2.2.2⟩
  obtain ⟨a, b⟩ := (bb c hc S' hS i hi j hj).sm
  exact ⟨Nat.lt_of_le_of_lt a BB_2200, Nat.lt_of_le_of_lt b BB_2200⟩
theorem putG_at {S : Mx} {i : Nat} {u : U} (hn : g.Nodup) (h : g[i]? = some u) : putG V g S u = S i g.length := by
  unfold putG
  obtain ⟨q1, q2⟩ := List.getElem?_eq_some_iff.mp h
  have := List.Nodup.idxOf_getElem hn i q1
  rw [q2] at this
  rw [if_pos (List.mem_of_getElem? h), this]
theorem putG_out {S : Mx} {u : U} (h : u ∉ g) : putG V g S u = V u := if_neg h
/-- a term's part in the row's product with a solution -/
theorem contr_inner (hg : ∀ f ∈ g, f ∈ part) {t : Term} {f : U} (hf : f ∈ g) (e : pf part t = [f]) (y : Nat → Rat) : contr part G g V y t = -(kap part G t * y (g.idxOf f)) := by
  unfold contr
  have : f ∈ pf part t := by rw [e]; simp
  rw [if_pos ⟨f, hf, (mem_pf.mp this).1⟩, e]
  rfl
theorem contr_free {t : Term} (h : ∀ f ∈ t.2, f ∉ g) (y : Nat → Rat) : contr part G g V y t = t.1 * prodL V t.2 * y g.length := by
  unfold contr
  rw [if_neg fun ⟨f, q1, q2⟩ => h f q2 q1]
theorem step_val (S : SysOK T part cut G dg) (Dn : DoneOK T part cut G dg done) (Gr : GrpOK T part cut dg done g d) (I : VInv T cut G tt done V) {Rm Sx : Mx} (H : GRows T part G g V Rm) (hs : gjN Rm g.length g.length = some Sx) : VInv T cut G tt (done ++ g) (putG V g Sx) := by
  have hgp : ∀ f ∈ g, f ∈ part := fun f hf => (Gr.sub f hf).1
  refine ⟨fun f h1 h2 => ?_, ?_, fun f hf => ?_, fun u hu => ?_⟩
  · rw [putG_out fun z => h1 (List.mem_append_right _ z)]
    exact I.out f (fun z => h1 (List.mem_append_left _ z)) h2
  · rw [putG_out fun z => (Gr.sub cut z).2.1 rfl]; exact I.cut
  · by_cases c : f ∈ g
    · obtain ⟨i, hi⟩ := List.getElem?_of_mem c
      rw [putG_at Gr.nd hi]
      exact H.bb Sx hs i (List.getElem?_eq_some_iff.mp hi).1 _ (by omega)
    · rw [putG_out c]
      rcases List.mem_append.mp hf with z | z
      · exact I.sz f z
      · exact absurd z c
  · by_cases c : u ∈ g
    · obtain ⟨i, hi⟩ := List.getElem?_of_mem c
      have hp := hgp u c
      let y : Nat → Rat := fun j => if j < g.length then Sx j g.length else -1
      have hy : ∀ i, i < g.length → y i + Sx i g.length * y g.length = 0 := fun i hi => by
        show (if i < g.length then Sx i g.length else -1) + Sx i g.length * (if g.length < g.length then Sx g.length g.length else -1) = 0
        rw [if_pos hi, if_neg (Nat.lt_irrefl _)]; grind
      have h0 := (gj_sol hs y).mpr hy i (List.getElem?_eq_some_iff.mp hi).1
      rw [H.dot i u hi y] at h0
      have hyi : y i = putG V g Sx u := by
        rw [putG_at Gr.nd hi]
        show (if i < g.length then Sx i g.length else -1) = _
        rw [if_pos (List.getElem?_eq_some_iff.mp hi).1]
      have hyn : y g.length = -1 := if_neg (Nat.lt_irrefl _)
      have e : sT (contr part G g V y) (T u) = -(sT (fun t => t.1 * prodL (putG V g Sx) t.2) (T u)) := by
        have : -(sT (fun t => t.1 * prodL (putG V g Sx) t.2) (T u)) = (-1) * sT (fun t => t.1 * prodL (putG V g Sx) t.2) (T u) := by grind
        rw [this, ← sT_mul]
        refine sT_congr fun t ht => ?_
        rcases Gr.tm u c t ht with ⟨f, hf, e⟩ | ⟨q1, q2, q3⟩
        · rw [contr_inner hgp hf e]
          obtain ⟨j, hj⟩ := List.getElem?_of_mem hf
          obtain ⟨q1, q2⟩ := List.getElem?_eq_some_iff.mp hj
          have hidx := List.Nodup.idxOf_getElem Gr.nd j q1
          rw [q2] at hidx
          have hout : ∀ x ∈ t.2, x ∉ part → putG V g Sx x = G x := fun x hx hxp => by
            rw [putG_out fun z => hxp (hgp x z)]
            exact I.out x (fun z => hxp (Dn.sub x z).1) fun z => hxp (z ▸ S.hc)
          rw [tv_eq hout, e]
          show _ = -1 * (kap part G t * (putG V g Sx f * 1))
          rw [putG_at Gr.nd hj, hidx]
          show -(kap part G t * (if j < g.length then Sx j g.length else -1)) = _
          rw [if_pos q1]; grind
        · rw [contr_free q1, hyn, prodL_congr (V := putG V g Sx) (W := V) fun f hf => putG_out (q1 f hf)]
          grind
      rw [e, hyi] at h0
      grind
    · have hud : u ∈ done := by
        rcases List.mem_append.mp hu with z | z
        · exact z
        · exact absurd z c
      rw [putG_out c, I.eq u hud]
      refine sT_congr fun t ht => ?_
      congr 1
      refine prodL_congr fun f hf => (putG_out fun z => ?_).symm
      rcases Dn.clo u hud t ht f (mem_pf.mpr ⟨hf, hgp f z⟩) with q | q
      · exact (Gr.sub f z).2.2.1 q
      · exact (Gr.sub f z).2.1 q
theorem step_done (S : SysOK T part cut G dg) (Dn : DoneOK T part cut G dg done) (Gr : GrpOK T part cut dg done g d) {Rm Sx : Mx} (H : GRows T part G g V Rm) (hs : gjN Rm g.length g.length = some Sx) : DoneOK T part cut G dg (done ++ g) := by
  have hgp : ∀ f ∈ g, f ∈ part := fun f hf => (Gr.sub f hf).1
  refine ⟨?_, fun u hu => ?_, fun u hu t ht f hf => ?_, fun u hu t ht => ?_, fun d' z hz => ?_⟩
  · rw [List.nodup_append]
    exact ⟨Dn.nd, Gr.nd, fun a ha b hb e => (Gr.sub b hb).2.2.1 (e ▸ ha)⟩
  · rcases List.mem_append.mp hu with q | q
    · exact Dn.sub u q
    · exact ⟨(Gr.sub u q).1, (Gr.sub u q).2.1⟩
  · rcases List.mem_append.mp hu with q | q
    · exact (Dn.clo u q t ht f hf).imp (fun z => List.mem_append_left _ z) id
    · rcases Gr.tm u q t ht with ⟨x, hx, e⟩ | ⟨q1, q2, q3⟩
      · rw [e, List.mem_singleton] at hf
        subst hf
        exact .inl (List.mem_append_right _ hx)
      · exact (q2 f hf).imp (fun z => List.mem_append_left _ z) id
  · rcases List.mem_append.mp hu with q | q
    · exact Dn.deg u q t ht
    · have hdu := (Gr.sub u q).2.2.2
      rcases Gr.tm u q t ht with ⟨x, hx, e⟩ | ⟨q1, q2, q3⟩
      · rw [e]
        simp only [List.map_cons, List.map_nil, List.sum_cons, List.sum_nil, (Gr.sub x hx).2.2.2]
        omega
      · omega
  · have hdone := Dn.un d' z fun u hu hd => hz u (List.mem_append_left _ hu) hd
    intro u hu hdu
    rcases List.mem_append.mp hu with q | q
    · exact hdone u q hdu
    · have hgd := (Gr.sub u q).2.2.2
      have hdd : d' = d := by omega
      subst hdd
      -- z on the group is in the kernel
      let y : Nat → Rat := fun j => match g[j]? with
        | some v => z v
        | none => 0
      have hyn : y g.length = 0 := by
        show (match g[g.length]? with | some v => z v | none => 0) = 0
        rw [List.getElem?_eq_none (Nat.le_refl _)]
      have hyj : ∀ (j : Nat) (v : U), g[j]? = some v → y j = z v := fun j v h => by
        show (match g[j]? with | some v => z v | none => 0) = z v
        rw [h]
      have ker : ∀ i, i < g.length → dot (Rm i) y (g.length + 1) = 0 := fun i hi => by
        have hx := List.getElem?_eq_getElem hi
        have hm := List.getElem_mem hi
        generalize g[i] = v at hx hm
        rw [H.dot i v hx y, hyj i v hx, hz v (List.mem_append_right _ hm) (by have := (Gr.sub v hm).2.2.2; omega)]
        have e : sT (contr part G g V y) (T v) = -(sT (lin part cut G dg d' z) (T v)) := by
          have : -(sT (lin part cut G dg d' z) (T v)) = (-1) * sT (lin part cut G dg d' z) (T v) := by grind
          rw [this, ← sT_mul]
          refine sT_congr fun t ht => ?_
          rcases Gr.tm v hm t ht with ⟨f, hf, e⟩ | ⟨q1, q2, q3⟩
          · rw [contr_inner hgp hf e]
            obtain ⟨j, hj⟩ := List.getElem?_of_mem hf
            obtain ⟨r1, r2⟩ := List.getElem?_eq_some_iff.mp hj
            have hidx := List.Nodup.idxOf_getElem Gr.nd j r1
            rw [r2] at hidx
            unfold lin
            rw [e]
            show _ = -1 * (if f ≠ cut ∧ dg f = d' then kap part G t * z f else 0)
            rw [if_pos ⟨(Gr.sub f hf).2.1, (Gr.sub f hf).2.2.2⟩, hidx, hyj j f hj]
            grind
          · rw [contr_free q1, hyn]
            unfold lin
            split
            · rename_i f e
              split
              · rename_i c
                rcases q2 f (by rw [e]; simp) with q | q
                · rw [hdone f q c.2]; grind
                · exact absurd q c.1
              · grind
            · grind
        rw [e]; grind
      obtain ⟨i, hi⟩ := List.getElem?_of_mem q
      have := (gj_sol hs y).mp ker i (List.getElem?_eq_some_iff.mp hi).1
      rw [hyn, hyj i u hi] at this
      grind
end
inductive Chain (T : U → List Term) (part : List U) (cut : U) (dg : U → Nat) : List U → List (List U) → Prop where
  | nil (done : List U) : Chain T part cut dg done []
  | cons (done g : List U) (gs : List (List U)) (d : Nat) : d ≤ 2 → GrpOK T part cut dg done g d → Chain T part cut dg (done ++ g) gs → Chain T part cut dg done (g :: gs)
/-- the four runs side by side -/
theorem runs {T : U → List Term} {part : List U} {cut : U} {G : U → Rat} {dg : U → Nat} (S : SysOK T part cut G dg) : ∀ (gs : List (List U)) (done : List U) (V : Nat → U → Rat), Chain T part cut dg done gs → DoneOK T part cut G dg done → (∀ t, t < 4 → VInv T cut G t done (V t)) →
    ∃ r : Nat → Option (U → Rat), (∀ t, t < 4 → VRun T (V t) gs (r t)) ∧ ((∀ t, t < 4 → r t = none) ∨ ∃ W : Nat → U → Rat, (∀ t, t < 4 → r t = some (W t)) ∧ (∀ t, t < 4 → VInv T cut G t (done ++ gs.flatten) (W t)) ∧ DoneOK T part cut G dg (done ++ gs.flatten))
  | [], done, V, _, Dn, hV => ⟨fun t => some (V t), fun t _ => .nil (V t), .inr ⟨V, fun _ _ => rfl, fun t ht => by rw [List.flatten_nil, List.append_nil]; exact hV t ht, by rw [List.flatten_nil, List.append_nil]; exact Dn⟩⟩
  | g :: gs, done, V, hc, Dn, hV => by
    cases hc with
    | cons _ _ _ d hd Gr hc =>
      have hrows : ∀ t : Nat, ∃ Rm, t < 4 → GRows T part G g (V t) Rm := fun t => by
        by_cases h : t < 4
        · obtain ⟨Rm, q⟩ := grp_rows S Dn Gr hd (hV t h) (by omega)
          exact ⟨Rm, fun _ => q⟩
        · exact ⟨fun _ _ => 0, fun z => absurd z h⟩
      obtain ⟨Rm, hR⟩ := Classical.axiomOfChoice hrows
      have same : ∀ t, t < 4 → ∀ i, i < g.length → ∀ j, j < g.length → Rm 0 i j = Rm t i j := fun t ht i hi j hj => by
        have hx := List.getElem?_eq_getElem hi
        rw [(hR 0 (by decide)).left i _ hx j hj, (hR t ht).left i _ hx j hj]
      cases h0 : gjN (Rm 0) g.length g.length with
      | none =>
        refine ⟨fun _ => none, fun t ht => .stop (V t) g gs (Rm t) (hR t ht).ok (hR t ht).gj ?_, .inl fun _ _ => rfl⟩
        rcases gj_same (same t ht) g.length (Nat.le_refl _) with ⟨_, q⟩ | ⟨s, s', q, _⟩
        · exact q
        · rw [h0] at q; cases q
      | some s0 =>
        have hs : ∀ t : Nat, ∃ s, t < 4 → gjN (Rm t) g.length g.length = some s := fun t => by
          by_cases ht : t < 4
          · rcases gj_same (same t ht) g.length (Nat.le_refl _) with ⟨q, _⟩ | ⟨s, s', _, q, _⟩
            · rw [h0] at q; cases q
            · exact ⟨s', fun _ => q⟩
          · exact ⟨fun _ _ => 0, fun z => absurd z ht⟩
        obtain ⟨Sx, hS⟩ := Classical.axiomOfChoice hs
        obtain ⟨r, h1, h2⟩ := runs S gs (done ++ g) (fun t => putG (V t) g (Sx t)) hc (step_done S Dn Gr (hR 0 (by decide)) (hS 0 (by decide))) fun t ht => step_val S Dn Gr (hV t ht) (hR t ht) (hS t ht)
        refine ⟨r, fun t ht => .step (V t) g gs (Rm t) (Sx t) (r t) (hR t ht).ok (hR t ht).gj (hS t ht) (h1 t ht), ?_⟩
        rw [List.flatten_cons, ← List.append_assoc]
        exact h2
theorem DoneOK.nil {T : U → List Term} {part : List U} {cut : U} {G : U → Rat} {dg : U → Nat} : DoneOK T part cut G dg [] :=
  ⟨List.nodup_nil, fun u hu => (nomatch hu), fun u hu => (nomatch hu), fun u hu => (nomatch hu), fun d z _ u hu => (nomatch hu)⟩
theorem VInv.nil {T : U → List Term} {cut : U} {G : U → Rat} {t : Nat} : VInv T cut G t [] (updU G cut (t : Rat)) :=
  ⟨fun f _ h => updU_ne h, updU_same, fun f hf => (nomatch hf), fun u hu => (nomatch hu)⟩
end Od
namespace Od
theorem BB_sq : 2 * (BB * BB) < 2 ^ 4400 := by unfold BB; decide +kernel
theorem BB_sq1 : BB * BB < 2 ^ 4400 := by unfold BB; decide +kernel
theorem BB_cu : 4 * (BB * BB * BB) < 2 ^ 4400 := by unfold BB; decide +kernel
theorem BB_cu1 : BB * BB * BB < 2 ^ 4400 := by unfold BB; decide +kernel
theorem fr1 {x : Rat} (h : Fr BB BB x) : Sm x ∧ Sm (-x) := ⟨h.to_sm BB_lt BB_lt, h.neg.to_sm BB_lt BB_lt⟩
theorem fr2 {x y : Rat} (h : Fr BB BB x) (g : Fr BB BB y) : Sm (x + -y) ∧ Sm (-(x + -y)) := by
  have := h.add g.neg
  have e : BB * BB + BB * BB = 2 * (BB * BB) := by omega
  rw [e] at this
  exact ⟨this.to_sm BB_sq BB_sq1, this.neg.to_sm BB_sq BB_sq1⟩
theorem fr3 {x y z : Rat} (h : Fr BB BB x) (g : Fr BB BB y) (k : Fr BB BB z) : Sm (x + -y + -(y + -z)) ∧ Sm (-(x + -y + -(y + -z))) := by
  have a := h.add k
  have b : Fr (2 * BB) BB (-(2 * y)) := by
    obtain ⟨p, q, q0, e1, e2, e3⟩ := g
    refine ⟨-(2 * p), q, q0, by omega, e2, ?_⟩
    rw [Rat.intCast_neg, Rat.intCast_mul]
    have : ((2 : Int) : Rat) = 2 := rfl
    rw [this]; grind
  have c := a.add b
  have e : (BB * BB + BB * BB) * BB + 2 * BB * (BB * BB) = 4 * (BB * BB * BB) := by
    generalize BB = t
    grind
  rw [e] at c
  have e2 : x + -y + -(y + -z) = x + z + -(2 * y) := by grind
  rw [e2]
  exact ⟨c.to_sm BB_cu BB_cu1, c.neg.to_sm BB_cu BB_cu1⟩
theorem df1 (a b c d : Rat) : dfI [a, b, c, d] 1 = [b + -a, c + -b, d + -c] := rfl
theorem df2 (a b c d : Rat) : dfI [a, b, c, d] 2 = [c + -b + -(b + -a), d + -c + -(c + -b)] := rfl
theorem df3 (a b c d : Rat) : dfI [a, b, c, d] 3 = [d + -c + -(c + -b) + -(c + -b + -(b + -a))] := rfl
theorem ok4 {a b c d : Rat} (ha : Fr BB BB a) (hb : Fr BB BB b) (hc : Fr BB BB c) (hd : Fr BB BB d) : dfOK (dfI [a, b, c, d] 0) ∧ dfOK (dfI [a, b, c, d] 1) ∧ dfOK (dfI [a, b, c, d] 2) := by
  refine ⟨fun k hk => ?_, fun k hk => ?_, fun k hk => ?_⟩
  · show Sm (([a, b, c, d] : List Rat).getD (k + 1) 0) ∧ Sm (-(([a, b, c, d] : List Rat).getD k 0))
    have hk : k + 1 < 4 := hk
    match k, hk with
    | 0, _ => exact ⟨(fr1 hb).1, (fr1 ha).2⟩
    | 1, _ => exact ⟨(fr1 hc).1, (fr1 hb).2⟩
    | 2, _ => exact ⟨(fr1 hd).1, (fr1 hc).2⟩
    | k + 3, h => omega
  · rw [df1] at hk ⊢
    have hk : k + 1 < 3 := hk
    match k, hk with
    | 0, _ => exact ⟨(fr2 hc hb).1, (fr2 hb ha).2⟩
    | 1, _ => exact ⟨(fr2 hd hc).1, (fr2 hc hb).2⟩
    | k + 2, h => omega
  · rw [df2] at hk ⊢
    have hk : k + 1 < 2 := hk
    match k, hk with
    | 0, _ => exact ⟨(fr3 hd hc hb).1, (fr3 hc hb ha).2⟩
    | k + 1, h => omega
theorem dfZ_1 {a b c d : Rat} (ha : Fr BB BB a) (hb : Fr BB BB b) (hc : Fr BB BB c) (hd : Fr BB BB d) (h1 : c - 2 * b + a = 0) (h2 : d - 2 * c + b = 0) : dfZ [a, b, c, d] 1 := by
  obtain ⟨o0, o1, o2⟩ := ok4 ha hb hc hd
  refine ⟨fun j hj => ?_, fun x hx => ?_⟩
  · match j, hj with
    | 0, _ => exact o0
    | 1, _ => exact o1
  · rw [df2] at hx
    simp only [List.mem_cons, List.not_mem_nil, or_false] at hx
    rcases hx with rfl | rfl <;> grind
theorem dfZ_2 {a b c d : Rat} (ha : Fr BB BB a) (hb : Fr BB BB b) (hc : Fr BB BB c) (hd : Fr BB BB d) (h : d - 3 * c + 3 * b - a = 0) : dfZ [a, b, c, d] 2 := by
  obtain ⟨o0, o1, o2⟩ := ok4 ha hb hc hd
  refine ⟨fun j hj => ?_, fun x hx => ?_⟩
  · match j, hj with
    | 0, _ => exact o0
    | 1, _ => exact o1
    | 2, _ => exact o2
  · rw [df3] at hx
    simp only [List.mem_cons, List.not_mem_nil, or_false] at hx
    subst hx
    grind
section
variable {T : U → List Term} {part : List U} {cut : U} {G : U → Rat} {dg : U → Nat} {all : List U} {W : Nat → U → Rat}
theorem all_val (S : SysOK T part cut G dg) (Dn : DoneOK T part cut G dg all) {t : Nat} {V : U → Rat} (I : VInv T cut G t all V) {u : U} (hu : u ∈ all) : V u = sT (fun s => kap part G s * prodL V (pf part s)) (T u) := by
  rw [I.eq u hu]
  exact sT_congr fun s hs => Dn.val S I (Dn.sub u hu).1 hs
/-- degree 1: the second differences are nought -/
theorem lemA (S : SysOK T part cut G dg) (Dn : DoneOK T part cut G dg all) (I : ∀ t, t < 4 → VInv T cut G t all (W t)) {s : Nat} (hs : s < 2) : ∀ f, (f ∈ all ∧ dg f = 1) ∨ f = cut → W (s + 2) f - 2 * W (s + 1) f + W s f = 0 := by
  have hcut : W (s + 2) cut - 2 * W (s + 1) cut + W s cut = 0 := by
    rw [(I (s + 2) (by omega)).cut, (I (s + 1) (by omega)).cut, (I s (by omega)).cut, Rat.natCast_add, Rat.natCast_add]
    have e2 : ((2 : Nat) : Rat) = 2 := rfl
    have e1 : ((1 : Nat) : Rat) = 1 := rfl
    rw [e2, e1]; grind
  intro f hf
  rcases hf with ⟨h1, h2⟩ | h
  · refine Dn.un 1 (fun u => W (s + 2) u - 2 * W (s + 1) u + W s u) (fun u hu hd => ?_) f h1 h2
    show W (s + 2) u - 2 * W (s + 1) u + W s u = _
    rw [all_val S Dn (I (s + 2) (by omega)) hu, all_val S Dn (I (s + 1) (by omega)) hu, all_val S Dn (I s (by omega)) hu, ← sT_mul, ← sT_sub, ← sT_add]
    refine sT_congr fun t ht => ?_
    have hsum := Dn.deg u hu t ht
    rw [hd] at hsum
    unfold lin
    have h12 : ∀ f ∈ pf part t, dg f = 1 ∨ dg f = 2 := fun f hf => S.d12 f (mem_pf.mp hf).2
    rcases two_deg (part := part) h12 (Nat.le_trans hsum (by decide)) with e | ⟨f, e⟩ | ⟨f, g, e, f1, g1⟩
    · rw [e]
      show kap part G t * 1 - 2 * (kap part G t * 1) + kap part G t * 1 = 0
      grind
    · rw [e] at hsum ⊢
      simp only [List.map_cons, List.map_nil, List.sum_cons, List.sum_nil] at hsum
      have := h12 f (by rw [e]; simp)
      show kap part G t * (W (s + 2) f * 1) - 2 * (kap part G t * (W (s + 1) f * 1)) + kap part G t * (W s f * 1) = if f ≠ cut ∧ dg f = 1 then kap part G t * (W (s + 2) f - 2 * W (s + 1) f + W s f) else 0
      by_cases c : f = cut
      · rw [if_neg fun z => z.1 c, c]
        grind
      · rw [if_pos ⟨c, by omega⟩]; grind
    · rw [e] at hsum
      simp only [List.map_cons, List.map_nil, List.sum_cons, List.sum_nil] at hsum
      omega
  · rw [h]; exact hcut
/-- the third differences of products -/
theorem lemP (S : SysOK T part cut G dg) (Dn : DoneOK T part cut G dg all) (I : ∀ t, t < 4 → VInv T cut G t all (W t)) {fs : List U} (h12 : ∀ f ∈ fs, dg f = 1 ∨ dg f = 2) (hsum : (fs.map dg).sum ≤ 2) (hin : ∀ f ∈ fs, f ∈ all ∨ f = cut)
    (hlin : ∀ f, fs = [f] → f ∈ all → dg f = 2 → W 3 f - 3 * W 2 f + 3 * W 1 f - W 0 f = 0) : prodL (W 3) fs - 3 * prodL (W 2) fs + 3 * prodL (W 1) fs - prodL (W 0) fs = 0 := by
  rcases two_deg (part := part) h12 hsum with e | ⟨f, e⟩ | ⟨f, g, e, f1, g1⟩
  · subst e
    show (1 : Rat) - 3 * 1 + 3 * 1 - 1 = 0
    grind
  · subst e
    show W 3 f * 1 - 3 * (W 2 f * 1) + 3 * (W 1 f * 1) - W 0 f * 1 = 0
    have one : ((f ∈ all ∧ dg f = 1) ∨ f = cut) → W 3 f - 3 * W 2 f + 3 * W 1 f - W 0 f = 0 := fun q => by
      have a := lemA S Dn I (s := 0) (by decide) f q
      have b := lemA S Dn I (s := 1) (by decide) f q
      simp only [Nat.zero_add] at a
      have b : W 3 f - 2 * W 2 f + W 1 f = 0 := b
      grind
    have : W 3 f - 3 * W 2 f + 3 * W 1 f - W 0 f = 0 := by
      rcases hin f (by simp) with q | q
      · rcases h12 f (by simp) with d | d
        · exact one (.inl ⟨q, d⟩)
        · exact hlin f rfl q d
      · exact one (.inr q)
    grind
  · subst e
    have cf : (f ∈ all ∧ dg f = 1) ∨ f = cut := (hin f (by simp)).imp (fun q => ⟨q, f1⟩) id
    have cg : (g ∈ all ∧ dg g = 1) ∨ g = cut := (hin g (by simp)).imp (fun q => ⟨q, g1⟩) id
    have a0 := lemA S Dn I (s := 0) (by decide) f cf
    have a1 : W 3 f - 2 * W 2 f + W 1 f = 0 := lemA S Dn I (s := 1) (by decide) f cf
    have b0 := lemA S Dn I (s := 0) (by decide) g cg
    have b1 : W 3 g - 2 * W 2 g + W 1 g = 0 := lemA S Dn I (s := 1) (by decide) g cg
    simp only [Nat.zero_add] at a0 b0
    show W 3 f * (W 3 g * 1) - 3 * (W 2 f * (W 2 g * 1)) + 3 * (W 1 f * (W 1 g * 1)) - W 0 f * (W 0 g * 1) = 0
    have e2 : W 2 f = 2 * W 1 f - W 0 f := by grind
    have e3 : W 3 f = 3 * W 1 f - 2 * W 0 f := by grind
    have e4 : W 2 g = 2 * W 1 g - W 0 g := by grind
    have e5 : W 3 g = 3 * W 1 g - 2 * W 0 g := by grind
    rw [e2, e3, e4, e5]
    grind
theorem lemB (S : SysOK T part cut G dg) (Dn : DoneOK T part cut G dg all) (I : ∀ t, t < 4 → VInv T cut G t all (W t)) : ∀ f ∈ all, dg f = 2 → W 3 f - 3 * W 2 f + 3 * W 1 f - W 0 f = 0 := by
  refine Dn.un 2 (fun u => W 3 u - 3 * W 2 u + 3 * W 1 u - W 0 u) (fun u hu hd => ?_)
  show W 3 u - 3 * W 2 u + 3 * W 1 u - W 0 u = _
  rw [all_val S Dn (I 3 (by omega)) hu, all_val S Dn (I 2 (by omega)) hu, all_val S Dn (I 1 (by omega)) hu, all_val S Dn (I 0 (by omega)) hu, ← sT_mul, ← sT_mul, ← sT_sub, ← sT_add, ← sT_sub]
  refine sT_congr fun t ht => ?_
  have hsum := Dn.deg u hu t ht
  rw [hd] at hsum
  have h12 : ∀ f ∈ pf part t, dg f = 1 ∨ dg f = 2 := fun f hf => S.d12 f (mem_pf.mp hf).2
  by_cases c : ∃ f, pf part t = [f] ∧ f ∈ all ∧ dg f = 2
  · obtain ⟨f, e, h1, h2⟩ := c
    unfold lin
    rw [e]
    show kap part G t * (W 3 f * 1) - 3 * (kap part G t * (W 2 f * 1)) + 3 * (kap part G t * (W 1 f * 1)) - kap part G t * (W 0 f * 1) = if f ≠ cut ∧ dg f = 2 then kap part G t * (W 3 f - 3 * W 2 f + 3 * W 1 f - W 0 f) else 0
    rw [if_pos ⟨(Dn.sub f h1).2, h2⟩]; grind
  · have hp := lemP S Dn I h12 hsum (Dn.clo u hu t ht) fun f e h1 h2 => absurd ⟨f, e, h1, h2⟩ c
    have hl : lin part cut G dg 2 (fun u => W 3 u - 3 * W 2 u + 3 * W 1 u - W 0 u) t = 0 := by
      unfold lin
      split
      · rename_i f e
        rw [if_neg fun z => ?_]
        rcases Dn.clo u hu t ht f (by rw [e]; simp) with q | q
        · exact c ⟨f, e, q, z.2⟩
        · exact z.1 q
      · rfl
    rw [hl]
    have e : kap part G t * prodL (W 3) (pf part t) - 3 * (kap part G t * prodL (W 2) (pf part t)) + 3 * (kap part G t * prodL (W 1) (pf part t)) - kap part G t * prodL (W 0) (pf part t) = kap part G t * (prodL (W 3) (pf part t) - 3 * prodL (W 2) (pf part t) + 3 * prodL (W 1) (pf part t) - prodL (W 0) (pf part t)) := by grind
    rw [e, hp]; grind
/-- the sum of a side is computed -/
theorem side_go {V : U → Rat} {D : Int} {Y : Nat} (hD : D ≠ 0) (h1 : N0 * D.natAbs < 2 ^ 4400) (h2 : 4 * (K0 * Y) < 2 ^ 4400) : ∀ {ts : List Term} {a : Rat} {k : Nat}, (∀ t ∈ ts, TmOK part G [] V D Y t) → k + ts.length ≤ 4 → (∃ b : Int, b.natAbs ≤ k * (K0 * Y) ∧ a * (((N0 : Int) * D : Int) : Rat) = (b : Rat)) →
    ∃ r, sdR V a ts = some r ∧ r = a + sT (fun t => t.1 * prodL V t.2) ts ∧ ∃ b : Int, b.natAbs ≤ 4 * (K0 * Y) ∧ r * (((N0 : Int) * D : Int) : Rat) = (b : Rat)
  | [], a, k, _, hk, ⟨b, hb, hb2⟩ => ⟨a, rfl, by show a = a + 0; grind, b, Nat.le_trans hb (Nat.mul_le_mul_right _ (by simpa using hk)), hb2⟩
  | t :: ts, a, k, ht, hk, ⟨b, hb, hb2⟩ => by
    rw [List.length_cons] at hk
    have h := ht t (by simp)
    have htv := tvR_ok h.two h.co h.sz
    have htq := tv_eq (part := part) (G := G) (V := V) (t := t) h.out
    have hND : ((N0 : Int) * D) ≠ 0 := Int.mul_ne_zero (by decide) hD
    have hNb : ((N0 : Int) * D).natAbs = N0 * D.natAbs := by rw [Int.natAbs_mul]; rfl
    obtain ⟨Y', hY, hYb⟩ : ∃ Y' : Int, prodL V (pf part t) * (D : Rat) = (Y' : Rat) ∧ Y'.natAbs ≤ Y := by
      rcases h.cs with ⟨f, hf, _⟩ | ⟨_, q⟩
      · exact nomatch hf
      · exact q
    have hval : t.1 * prodL V t.2 * (((N0 : Int) * D : Int) : Rat) = ((kk part G t * Y' : Int) : Rat) := by
      rw [htq, Rat.intCast_mul, Rat.intCast_mul]
      have a := h.int
      rw [← a, ← hY, show (((N0 : Nat) : Int) : Rat) = ((N0 : Nat) : Rat) from rfl]
      grind
    have hYk : (kk part G t * Y').natAbs ≤ K0 * Y := by rw [Int.natAbs_mul]; exact Nat.mul_le_mul h.ki hYb
    have hk4 : k * (K0 * Y) ≤ 4 * (K0 * Y) := Nat.mul_le_mul_right _ (by omega)
    have sa : Sm a := Fr.to_sm (P := 4 * (K0 * Y)) (N := N0 * D.natAbs) ⟨b, _, hND, Nat.le_trans hb hk4, Nat.le_of_eq hNb, hb2⟩ h2 h1
    have sv : Sm (t.1 * prodL V t.2) := Fr.to_sm (P := 4 * (K0 * Y)) (N := N0 * D.natAbs) ⟨_, _, hND, by omega, Nat.le_of_eq hNb, hval⟩ h2 h1
    obtain ⟨r, e1, e2, e3⟩ := side_go hD h1 h2 (ts := ts) (a := a + t.1 * prodL V t.2) (k := k + 1) (fun s hs => ht s (by simp [hs])) (by omega) ⟨b + kk part G t * Y', by
      have := Int.natAbs_add_le b (kk part G t * Y')
      rw [Nat.succ_mul]; omega, by rw [Rat.intCast_add, ← hb2, ← hval]; grind⟩
    refine ⟨r, ?_, ?_, e3⟩
    · show (tvR V t.1 t.2).bind (fun x => (addB a x).bind fun b => sdR V b ts) = _
      rw [htv]
      show (addB a (t.1 * prodL V t.2)).bind (fun b => sdR V b ts) = _
      unfold addB
      rw [if_pos ⟨sa, sv⟩]
      exact e1
    · rw [e2, sT]; grind
theorem lev_count (S : SysOK T part cut G dg) (Dn : DoneOK T part cut G dg all) : (lev dg all 1).length + (lev dg all 2).length + 0 ≤ 19 := by
  have hnd : (cut :: (lev dg all 1 ++ lev dg all 2)).Nodup := by
    rw [List.nodup_cons, List.nodup_append]
    refine ⟨fun h => ?_, Dn.nd.filter _, Dn.nd.filter _, fun a ha b hb e => ?_⟩
    · rcases List.mem_append.mp h with z | z
      · exact (Dn.sub cut (mem_lev.mp z).1).2 rfl
      · exact (Dn.sub cut (mem_lev.mp z).1).2 rfl
    · subst e
      have := (mem_lev.mp ha).2
      have := (mem_lev.mp hb).2
      omega
  have := nodup_len hnd (m := part) fun x hx => by
    rcases List.mem_cons.mp hx with z | z
    · rw [z]; exact S.hc
    · rcases List.mem_append.mp z with z | z
      · exact (Dn.sub x (mem_lev.mp z).1).1
      · exact (Dn.sub x (mem_lev.mp z).1).1
  rw [List.length_cons, List.length_append] at this
  have := S.len
  omega
theorem side_ok (S : SysOK T part cut G dg) (Dn : DoneOK T part cut G dg all) {V : U → Rat} {tt : Nat} (htt : tt ≤ 3) (I : VInv T cut G tt all V) (hall : ∀ u ∈ part, u ≠ cut → u ∈ all) :
    ∃ r, sdR V 0 (T cut) = some r ∧ r = sT (fun t => kap part G t * prodL V (pf part t)) (T cut) ∧ Fr BB BB r := by
  obtain ⟨Z, w, H⟩ := Dn.vals S I htt
  have hcnt := lev_count S Dn
  have hD : Z * Z * w ≠ 0 := Int.mul_ne_zero (Int.mul_ne_zero H.z0 H.z0) H.w0
  have hDb : (Z * Z * w).natAbs ≤ M1 (lev dg all 1).length * M1 (lev dg all 1).length * W0 ^ (lev dg all 2).length := by
    rw [Int.natAbs_mul, Int.natAbs_mul]
    exact Nat.mul_le_mul (Nat.mul_le_mul H.zb H.zb) H.wb
  have hb1 := bnd1 hcnt
  have hb2 := bnd2 hcnt
  rw [Nat.pow_zero, Nat.mul_one] at hb1 hb2
  have g1 : N0 * (Z * Z * w).natAbs ≤ BB := Nat.le_trans (Nat.mul_le_mul_left _ hDb) hb2
  have g2 : 4 * (K0 * Y2 (lev dg all 1).length (lev dg all 2).length) ≤ BB := Nat.le_trans (Nat.le_mul_of_pos_left _ (by omega)) hb1
  have z0 : ((0 : Int) : Rat) = 0 := rfl
  obtain ⟨r, e1, e2, b, e3, e4⟩ := side_go (part := part) (G := G) (V := V) hD (Nat.lt_of_le_of_lt g1 BB_lt) (Nat.lt_of_le_of_lt g2 BB_lt) (ts := T cut) (a := 0) (k := 0) (fun t ht => by
    have hp := S.hc
    refine ⟨S.two cut hp t ht, S.co cut hp t ht, fun f hf => ?_, fun f hf hfp => I.out f (fun z => hfp (Dn.sub f z).1) fun z => hfp (z ▸ S.hc), S.int cut hp t ht, S.ki cut hp t ht, .inr ⟨fun f _ z => (nomatch z), ?_⟩⟩
    · by_cases c1 : f ∈ all
      · exact I.sz f c1
      · by_cases c2 : f = cut
        · rw [c2, I.cut]
          refine small_one (P := 3) (N := 1) ?_ (by decide) (by decide)
          have := Fr.int (tt : Int) (P := 3) (by rw [Int.natAbs_natCast]; exact htt)
          rwa [Rat.intCast_natCast] at this
        · rw [I.out f c1 c2]
          exact small_one (S.giv cut hp t ht f hf) (by decide) (by decide)
    · refine H.prod (fun f hf => S.d12 f (mem_pf.mp hf).2) (S.dcut t ht) (fun f hf => ?_) S.d1
      by_cases c : f = cut
      · exact .inr c
      · exact .inl (hall f (mem_pf.mp hf).2 c)) (by rw [Nat.zero_add]; exact S.few cut S.hc) ⟨0, Nat.zero_le _, by rw [z0]; grind⟩
  refine ⟨r, e1, ?_, ⟨b, _, Int.mul_ne_zero (by decide) hD, Nat.le_trans e3 g2, ?_, e4⟩⟩
  · rw [e2]
    have : (0 : Rat) + sT (fun t => t.1 * prodL V t.2) (T cut) = sT (fun t => t.1 * prodL V t.2) (T cut) := by grind
    rw [this]
    exact sT_congr fun t ht => Dn.val S I S.hc ht
  · rw [Int.natAbs_mul]; exact g1
theorem right_cut (S : SysOK T part cut G dg) (hc : Chain T part cut dg [] (lgrpR T part cut)) (hall : ∀ u ∈ part, u ≠ cut → u ∈ (lgrpR T part cut).flatten) : RightCut T part cut G dg := by
  obtain ⟨r, h1, h2⟩ := runs S (lgrpR T part cut) [] (fun t => updU G cut (t : Rat)) hc DoneOK.nil fun t _ => VInv.nil
  refine ⟨r, h1, ?_⟩
  rcases h2 with h2 | ⟨W, h2, I, Dn⟩
  · exact .inl h2
  · right
    rw [List.nil_append] at I Dn
    generalize (lgrpR T part cut).flatten = all at *
    refine ⟨W, h2, ?_, fun u hu _ => ?_⟩
    · have hs : ∀ t : Nat, ∃ x, t < 4 → sdR (W t) 0 (T cut) = some x ∧ x = sT (fun s => kap part G s * prodL (W t) (pf part s)) (T cut) ∧ Fr BB BB x := fun t => by
        by_cases h : t < 4
        · obtain ⟨x, q⟩ := side_ok S Dn (tt := t) (by omega) (I t h) hall
          exact ⟨x, fun _ => q⟩
        · exact ⟨0, fun z => absurd z h⟩
      obtain ⟨sd, hsd⟩ := Classical.axiomOfChoice hs
      refine ⟨sd, fun t ht => (hsd t ht).1, ?_⟩
      show dfZ [sd 0, sd 1, sd 2, sd 3] 2
      refine dfZ_2 (hsd 0 (by decide)).2.2 (hsd 1 (by decide)).2.2 (hsd 2 (by decide)).2.2 (hsd 3 (by decide)).2.2 ?_
      rw [(hsd 0 (by decide)).2.1, (hsd 1 (by decide)).2.1, (hsd 2 (by decide)).2.1, (hsd 3 (by decide)).2.1, ← sT_mul, ← sT_mul, ← sT_sub, ← sT_add, ← sT_sub]
      refine sT_zero fun t ht => ?_
      have h12 : ∀ f ∈ pf part t, dg f = 1 ∨ dg f = 2 := fun f hf => S.d12 f (mem_pf.mp hf).2
      have hp := lemP S Dn I h12 (S.dcut t ht) (fun f hf => by
        by_cases c : f = cut
        · exact .inr c
        · exact .inl (hall f (mem_pf.mp hf).2 c)) fun f _ q1 q2 => lemB S Dn I f q1 q2
      have e : kap part G t * prodL (W 3) (pf part t) - 3 * (kap part G t * prodL (W 2) (pf part t)) + 3 * (kap part G t * prodL (W 1) (pf part t)) - kap part G t * prodL (W 0) (pf part t) = kap part G t * (prodL (W 3) (pf part t) - 3 * prodL (W 2) (pf part t) + 3 * prodL (W 1) (pf part t) - prodL (W 0) (pf part t)) := by grind
      rw [e, hp]; grind
    · show dfZ [W 0 u, W 1 u, W 2 u, W 3 u] (dg u)
      have sz : ∀ t, t < 4 → Fr BB BB (W t u) := fun t ht => by
        by_cases c : u = cut
        · rw [c, (I t ht).cut]
          refine small_one (P := 3) (N := 1) ?_ (by decide) (by decide)
          have := Fr.int (t : Int) (P := 3) (by rw [Int.natAbs_natCast]; omega)
          rwa [Rat.intCast_natCast] at this
        · exact (I t ht).sz u (hall u hu c)
      have s0 := sz 0 (by decide)
      have s1 := sz 1 (by decide)
      have s2 := sz 2 (by decide)
      have s3 := sz 3 (by decide)
      rcases S.d12 u hu with d | d
      · rw [d]
        have cu : (u ∈ all ∧ dg u = 1) ∨ u = cut := by
          by_cases c : u = cut
          · exact .inr c
          · exact .inl ⟨hall u hu c, d⟩
        have a := lemA S Dn I (s := 0) (by decide) u cu
        have b := lemA S Dn I (s := 1) (by decide) u cu
        simp only [Nat.zero_add] at a
        exact dfZ_1 s0 s1 s2 s3 a b
      · rw [d]
        have c : u ≠ cut := fun z => by rw [z, S.d1] at d; cases d
        exact dfZ_2 s0 s1 s2 s3 (lemB S Dn I u (hall u hu c) d)
end
end Od
namespace Od
inductive Rch (E : U → List U) : U → U → Prop where
  | one {u x : U} : x ∈ E u → Rch E u x
  | step {u x y : U} : x ∈ E u → Rch E x y → Rch E u y
theorem Rch.trans {E : U → List U} {u x y : U} (h : Rch E u x) (g : Rch E x y) : Rch E u y := by
  induction h with
  | one a => exact .step a g
  | step a _ ih => exact .step a (ih g)
theorem Rch.snoc {E : U → List U} {u x y : U} (h : Rch E u x) (g : y ∈ E x) : Rch E u y := h.trans (.one g)
theorem Rch.sub {E : U → List U} {us : List U} (hE : ∀ u ∈ us, ∀ x ∈ E u, x ∈ us) {u x : U} (h : Rch E u x) (hu : u ∈ us) : x ∈ us := by
  induction h with
  | one a => exact hE _ hu _ a
  | step a _ ih => exact ih (hE _ hu _ a)
/-- a list with what u uses that is closed holds all that is reached -/
theorem Rch.closed {E : U → List U} {l : List U} (hc : ∀ x ∈ l, ∀ y ∈ E x, y ∈ l) {u x : U} (h : Rch E u x) : (∀ y ∈ E u, y ∈ l) → x ∈ l := by
  induction h with
  | one a => exact fun h0 => h0 _ a
  | step a _ ih => exact fun h0 => ih (hc _ (h0 _ a))
structure DSnd (E : U → List U) (u : U) (s : DS2) : Prop where
  f : ∀ x ∈ s.1, Rch E u x
  w : ∀ x ∈ s.2, Rch E u x
  c : ∀ y ∈ E u, y ∈ s.1 ∨ y ∈ s.2
  k : ∀ x ∈ s.1, ∀ y ∈ E x, y ∈ s.1 ∨ y ∈ s.2
theorem drop_or {l : List U} {h x : U} (e : l.getLast? = some h) (hx : x ∈ l) : x ∈ l.dropLast ∨ x = h := by
  obtain ⟨ys, rfl⟩ := List.getLast?_eq_some_iff.mp e
  rw [List.dropLast_concat]
  rcases List.mem_append.mp hx with z | z
  · exact .inl z
  · rw [List.mem_singleton] at z; exact .inr z
theorem dst_snd {E : U → List U} {u : U} {s : DS2} (S : DSnd E u s) : DSnd E u (dst E s) := by
  cases e : s.2.getLast? with
  | none => unfold dst; rw [e]; exact S
  | some h =>
    have hm := last_mem e
    rw [dst_some e]
    by_cases hf : h ∈ s.1
    · rw [if_pos hf]
      have mv : ∀ y, y ∈ s.1 ∨ y ∈ s.2 → y ∈ s.1 ∨ y ∈ s.2.dropLast := fun y hy => by
        rcases hy with z | z
        · exact .inl z
        · rcases drop_or e z with q | q
          · exact .inr q
          · subst q; exact .inl hf
      exact ⟨S.f, fun x hx => S.w x (List.dropLast_subset _ hx), fun y hy => mv y (S.c y hy), fun x hx y hy => mv y (S.k x hx y hy)⟩
    · rw [if_neg hf]
      have mv : ∀ y, y ∈ s.1 ∨ y ∈ s.2 → y ∈ s.1 ++ [h] ∨ y ∈ s.2.dropLast ++ E h := fun y hy => by
        rcases hy with z | z
        · exact .inl (List.mem_append_left _ z)
        · rcases drop_or e z with q | q
          · exact .inr (List.mem_append_left _ q)
          · subst q; exact .inl (List.mem_append_right _ (by simp))
      refine ⟨fun x hx => ?_, fun x hx => ?_, fun y hy => mv y (S.c y hy), fun x hx y hy => ?_⟩
      · rcases List.mem_append.mp hx with z | z
        · exact S.f x z
        · rw [List.mem_singleton] at z; subst z; exact S.w _ hm
      · rcases List.mem_append.mp hx with z | z
        · exact S.w x (List.dropLast_subset _ z)
        · exact (S.w h hm).snoc z
      · rcases List.mem_append.mp hx with z | z
        · exact mv y (S.k x z y hy)
        · rw [List.mem_singleton] at z; subst z; exact .inr (List.mem_append_right _ hy)
theorem dfsN_snd {E : U → List U} {u : U} : ∀ k, DSnd E u (dfsN E ([], E u) k)
  | 0 => ⟨fun x hx => (nomatch hx), fun x hx => .one hx, fun y hy => .inr hy, fun x hx => (nomatch hx)⟩
  | k + 1 => dst_snd (dfsN_snd k)
theorem dfsN_comm {E : U → List U} {s : DS2} : ∀ k, dfsN E s (k + 1) = dfsN E (dst E s) k
  | 0 => rfl
  | k + 1 => by show dst E (dfsN E s (k + 1)) = dst E (dfsN E (dst E s) k); rw [dfsN_comm k]
theorem dfsN_end {us : List U} {E : U → List U} (G : Gr us E) : ∀ (k : Nat) (s : DS2), DInv us s → meas us s ≤ k → (dfsN E s k).2 = []
  | 0, s, _, h => by
    unfold meas at h
    show s.2 = []
    exact List.eq_nil_of_length_eq_zero (by omega)
  | k + 1, s, I, h => by
    cases e : s.2.getLast? with
    | none =>
      have : s.2 = [] := by
        cases hs : s.2 with
        | nil => rfl
        | cons a b => rw [hs] at e; simp at e
      have := dfsN_stay (E := E) (s := s) (k := 0) this (k + 1)
      rw [Nat.zero_add] at this
      rw [this]; assumption
    | some x =>
      obtain ⟨I2, h2⟩ := dst_inv G I e
      rw [dfsN_comm]
      exact dfsN_end G k _ I2 (by omega)
theorem mem_reachR {us : List U} {E : U → List U} (G : Gr us E) {u : U} (hu : u ∈ us) (x : U) : x ∈ reachR us E u ↔ Rch E u x := by
  have hend : (dfsN E ([], E u) (dfuel us)).2 = [] := by
    refine dfsN_end G _ _ ⟨List.nodup_nil, fun x hx => (nomatch hx), fun x hx => G.sub u hu x hx⟩ ?_
    have := G.few u hu
    unfold meas dfuel
    show (us.length - 0) * 1000 + (E u).length ≤ _
    omega
  have S := dfsN_snd (E := E) (u := u) (dfuel us)
  refine ⟨fun h => S.f x h, fun h => ?_⟩
  have no : ∀ y, y ∈ (dfsN E ([], E u) (dfuel us)).1 ∨ y ∈ (dfsN E ([], E u) (dfuel us)).2 → y ∈ (dfsN E ([], E u) (dfuel us)).1 := fun y hy => by
    rw [hend] at hy
    rcases hy with z | z
    · exact z
    · exact nomatch z
  exact h.closed (l := (dfsN E ([], E u) (dfuel us)).1) (fun x hx y hy => no y (S.k x hx y hy)) fun y hy => no y (S.c y hy)
structure RSnd (E : U → List U) (u : U) (s : DS2) : Prop where
  f : ∀ x ∈ s.1, Rch E u x
  w : ∀ x ∈ s.2, x = u ∨ Rch E u x
  k : ∀ x, x = u ∨ x ∈ s.1 → x ∈ s.2 ∨ ∀ y ∈ E x, y ∈ s.1
theorem radd_mem {s : DS2} {x y : U} : (y ∈ (radd s x).1 ↔ y ∈ s.1 ∨ y = x) ∧ (y ∈ s.2 → y ∈ (radd s x).2) ∧ (y ∈ (radd s x).2 → y ∈ s.2 ∨ y = x) ∧ (y ∈ (radd s x).1 → y ∈ s.1 ∨ y ∈ (radd s x).2) := by
  unfold radd
  split
  · rename_i h
    exact ⟨⟨.inl, fun z => z.elim id fun e => e ▸ h⟩, id, .inl, .inl⟩
  · exact ⟨by simp, fun z => List.mem_append_left _ z, fun z => by simpa using z, fun z => by
      rcases List.mem_append.mp z with q | q
      · exact .inl q
      · exact .inr (List.mem_append_right _ q)⟩
theorem raddL_mem : ∀ {l : List U} {s : DS2} {y : U}, (y ∈ (l.foldl radd s).1 ↔ y ∈ s.1 ∨ y ∈ l) ∧ (y ∈ s.2 → y ∈ (l.foldl radd s).2) ∧ (y ∈ (l.foldl radd s).2 → y ∈ s.2 ∨ y ∈ l) ∧ (y ∈ (l.foldl radd s).1 → y ∈ s.1 ∨ y ∈ (l.foldl radd s).2)
  | [], s, y => ⟨by simp, id, .inl, .inl⟩
  | x :: l, s, y => by
    obtain ⟨a1, a2, a3, a4⟩ := raddL_mem (l := l) (s := radd s x) (y := y)
    obtain ⟨b1, b2, b3, b4⟩ := radd_mem (s := s) (x := x) (y := y)
    rw [List.foldl_cons]
    refine ⟨by rw [a1, b1, List.mem_cons, or_assoc], fun z => a2 (b2 z), fun z => ?_, fun z => ?_⟩
    · rcases a3 z with q | q
      · rcases b3 q with r | r
        · exact .inl r
        · exact .inr (by rw [r]; simp)
      · exact .inr (by simp [q])
    · rcases a4 z with q | q
      · rcases b4 q with r | r
        · exact .inl r
        · exact .inr (a2 r)
      · exact .inr q
theorem rst_snd {E : U → List U} {u : U} {s : DS2} (S : RSnd E u s) : RSnd E u (rst E s) := by
  unfold rst
  split
  · exact S
  · rename_i h e
    have hm := last_mem e
    have mm : ∀ y, _ := fun y => raddL_mem (l := E h) (s := (s.1, s.2.dropLast)) (y := y)
    have hr : ∀ y ∈ E h, Rch E u y := fun y hy => by
      rcases S.w h hm with q | q
      · subst q; exact .one hy
      · exact q.snoc hy
    refine ⟨fun x hx => ?_, fun x hx => ?_, fun x hx => ?_⟩
    · rcases (mm x).1.mp hx with z | z
      · exact S.f x z
      · exact hr x z
    · rcases (mm x).2.2.1 hx with z | z
      · exact S.w x (List.dropLast_subset _ z)
      · exact .inr (hr x z)
    · have old : x = u ∨ x ∈ s.1 → x ∈ ((E h).foldl radd (s.1, s.2.dropLast)).2 ∨ ∀ y ∈ E x, y ∈ ((E h).foldl radd (s.1, s.2.dropLast)).1 := fun q => by
        rcases S.k x q with z | z
        · rcases drop_or e z with r | r
          · exact .inl ((mm x).2.1 r)
          · subst r
            exact .inr fun y hy => (mm y).1.mpr (.inr hy)
        · exact .inr fun y hy => (mm y).1.mpr (.inl (z y hy))
      rcases hx with q | q
      · exact old (.inl q)
      · rcases (mm x).2.2.2 q with z | z
        · exact old (.inr z)
        · exact .inl z
theorem rsN_snd {E : U → List U} {u : U} : ∀ k, RSnd E u (rsN E ([], [u]) k)
  | 0 => ⟨fun x hx => (nomatch hx), fun x hx => .inl (by simpa [rsN] using hx), fun x hx => by
      rcases hx with q | q
      · exact .inl (by simp [rsN, q])
      · exact nomatch q⟩
  | k + 1 => rst_snd (rsN_snd k)
def rmeas (us : List U) (s : DS2) : Nat := (us.length - s.1.length) + s.2.length
theorem radd_meas {us : List U} {s : DS2} {x : U} (I : RInv us s) (hx : x ∈ us) : rmeas us (radd s x) = rmeas us s := by
  have I2 := radd_inv I hx
  have l2 := nodup_len I2.nd I2.f
  unfold radd at l2 ⊢
  split
  · rfl
  · rename_i h
    rw [if_neg h] at l2
    unfold rmeas
    simp only [List.length_append, List.length_cons, List.length_nil] at l2 ⊢
    omega
theorem raddL_meas {us : List U} : ∀ {l : List U} {s : DS2}, RInv us s → (∀ x ∈ l, x ∈ us) → rmeas us (l.foldl radd s) = rmeas us s
  | [], _, _, _ => rfl
  | x :: l, s, I, h => by
    rw [List.foldl_cons, raddL_meas (l := l) (radd_inv I (h x (by simp))) fun y hy => h y (by simp [hy]), radd_meas I (h x (by simp))]
theorem rsN_comm {E : U → List U} {s : DS2} : ∀ k, rsN E s (k + 1) = rsN E (rst E s) k
  | 0 => rfl
  | k + 1 => by show rst E (rsN E s (k + 1)) = rst E (rsN E (rst E s) k); rw [rsN_comm k]
theorem rsN_end {us : List U} {E : U → List U} (hE : ∀ u ∈ us, ∀ x ∈ E u, x ∈ us) : ∀ (k : Nat) (s : DS2), RInv us s → rmeas us s ≤ k → (rsN E s k).2 = []
  | 0, s, _, h => by
    unfold rmeas at h
    show s.2 = []
    exact List.eq_nil_of_length_eq_zero (by omega)
  | k + 1, s, I, h => by
    cases e : s.2.getLast? with
    | none =>
      have hz : s.2 = [] := by
        cases hs : s.2 with
        | nil => rfl
        | cons a b => rw [hs] at e; simp at e
      have := rsN_stay (E := E) (s := s) (k := 0) hz (k + 1)
      rw [Nat.zero_add] at this
      rw [this]; exact hz
    | some x =>
      have hm := last_mem e
      have h2 : rmeas us (rst E s) + 1 = rmeas us s := by
        have : rst E s = (E x).foldl radd (s.1, s.2.dropLast) := by unfold rst; rw [e]
        rw [this, raddL_meas I.pop (hE x (I.w x hm))]
        have := List.length_pos_of_mem hm
        unfold rmeas
        simp only [List.length_dropLast]
        omega
      rw [rsN_comm]
      exact rsN_end hE k _ (rst_inv hE I) (by omega)
theorem mem_lreach {us : List U} {E : U → List U} (hE : ∀ u ∈ us, ∀ x ∈ E u, x ∈ us) {u : U} (hu : u ∈ us) (x : U) : x ∈ lreach us.length E u ↔ Rch E u x := by
  have hpos : 1 ≤ us.length := List.length_pos_of_mem hu
  have hend : (rsN E ([], [u]) (us.length * us.length + 1)).2 = [] := by
    refine rsN_end hE _ _ ⟨List.nodup_nil, fun x hx => (nomatch hx), fun x hx => by rw [List.mem_singleton] at hx; subst hx; exact hu, Nat.le_refl 1⟩ ?_
    have := Nat.mul_le_mul_right us.length hpos
    unfold rmeas
    show us.length - 0 + 1 ≤ _
    omega
  have S := rsN_snd (E := E) (u := u) (us.length * us.length + 1)
  refine ⟨fun h => S.f x h, fun h => ?_⟩
  have no : ∀ x, x = u ∨ x ∈ (rsN E ([], [u]) (us.length * us.length + 1)).1 → ∀ y ∈ E x, y ∈ (rsN E ([], [u]) (us.length * us.length + 1)).1 := fun x hx => by
    rcases S.k x hx with z | z
    · rw [hend] at z; exact nomatch z
    · exact z
  exact h.closed (l := (rsN E ([], [u]) (us.length * us.length + 1)).1) (fun x hx => no x (.inr hx)) (no u (.inl rfl))
def Pn (E : U → List U) : Nat → U → U → Prop
  | 0, u, x => x ∈ E u
  | n + 1, u, x => x ∈ E u ∨ ∃ z ∈ E u, Pn E n z x
theorem Pn.mono1 {E : U → List U} : ∀ {n : Nat} {u x : U}, Pn E n u x → Pn E (n + 1) u x
  | 0, _, _, h => .inl h
  | n + 1, _, _, h => by
    rcases h with z | ⟨z, h1, h2⟩
    · exact .inl z
    · exact .inr ⟨z, h1, Pn.mono1 h2⟩
theorem Pn.mono {E : U → List U} {n m : Nat} {u x : U} (h : Pn E n u x) (hm : n ≤ m) : Pn E m u x := by
  obtain ⟨k, rfl⟩ := Nat.exists_eq_add_of_le hm
  clear hm
  induction k with
  | zero => exact h
  | succ k ih => exact ih.mono1
theorem Pn.rch {E : U → List U} : ∀ {n : Nat} {u x : U}, Pn E n u x → Rch E u x
  | 0, _, _, h => .one h
  | n + 1, _, _, h => by
    rcases h with z | ⟨z, h1, h2⟩
    · exact .one z
    · exact .step h1 h2.rch
theorem Pn.of_rch {E : U → List U} {u x : U} (h : Rch E u x) : ∃ n, Pn E n u x := by
  induction h with
  | one a => exact ⟨0, a⟩
  | step a _ ih =>
    obtain ⟨n, hn⟩ := ih
    exact ⟨n + 1, .inr ⟨_, a, hn⟩⟩
theorem Pn.last {E : U → List U} : ∀ {n : Nat} {u x : U}, Pn E (n + 1) u x → Pn E n u x ∨ ∃ z, Pn E n u z ∧ x ∈ E z
  | 0, _, _, h => by
    rcases h with z | ⟨z, h1, h2⟩
    · exact .inl z
    · exact .inr ⟨z, h1, h2⟩
  | n + 1, _, _, h => by
    rcases h with z | ⟨z, h1, h2⟩
    · exact .inl (.inl z)
    · rcases h2.last with q | ⟨y, q1, q2⟩
      · exact .inl (.inr ⟨z, h1, q⟩)
      · exact .inr ⟨y, .inr ⟨z, h1, q1⟩, q2⟩
theorem Pn.snoc {E : U → List U} : ∀ {n : Nat} {u z x : U}, Pn E n u z → x ∈ E z → Pn E (n + 1) u x
  | 0, _, z, _, h, g => .inr ⟨z, h, g⟩
  | n + 1, _, _, _, h, g => by
    rcases h with q | ⟨y, h1, h2⟩
    · exact .inr ⟨_, q, .inl g⟩
    · exact .inr ⟨y, h1, h2.snoc g⟩
open Classical in
/-- at most as many steps as there are nodes -/
theorem Pn.bound {ks : List U} {E : U → List U} (hE : ∀ u ∈ ks, ∀ x ∈ E u, x ∈ ks) {u x : U} (hu : u ∈ ks) (h : Rch E u x) : Pn E ks.length u x := by
  have hin : ∀ {n : Nat} {y : U}, Pn E n u y → y ∈ ks := fun h => h.rch.sub hE hu
  let c : Nat → Nat := fun n => (ks.filter fun y => decide (Pn E n u y)).length
  have stay : ∀ {k : Nat}, (∀ y, Pn E (k + 1) u y → Pn E k u y) → ∀ j y, Pn E (k + j) u y → Pn E k u y := fun {k} hk j => by
    induction j with
    | zero => exact fun y h => h
    | succ j ih =>
      intro y hy
      rcases Pn.last (n := k + j) hy with q | ⟨z, q1, q2⟩
      · exact ih y q
      · exact hk y ((ih z q1).snoc q2)
  have grow : ∀ k, (∀ y, Pn E (k + 1) u y → Pn E k u y) ∨ c k + 1 ≤ c (k + 1) := fun k => by
    by_cases hh : ∀ y, Pn E (k + 1) u y → Pn E k u y
    · exact .inl hh
    · right
      obtain ⟨y, hy⟩ := Classical.not_forall.mp hh
      obtain ⟨y1, y2⟩ := Classical.not_imp.mp hy
      have hyk := hin y1
      -- filters: one more
      have sub : ∀ l : List U, (l.filter fun y => decide (Pn E k u y)).length ≤ (l.filter fun y => decide (Pn E (k + 1) u y)).length := fun l => by
        induction l with
        | nil => exact Nat.le_refl _
        | cons a l ih =>
          by_cases q : Pn E k u a
          · rw [List.filter_cons_of_pos (p := fun y => decide (Pn E k u y)) (decide_eq_true q), List.filter_cons_of_pos (p := fun y => decide (Pn E (k + 1) u y)) (decide_eq_true q.mono1), List.length_cons, List.length_cons]; omega
          · rw [List.filter_cons_of_neg (p := fun y => decide (Pn E k u y)) (by simp [q])]
            by_cases r : Pn E (k + 1) u a
            · rw [List.filter_cons_of_pos (p := fun y => decide (Pn E (k + 1) u y)) (decide_eq_true r), List.length_cons]; omega
            · rw [List.filter_cons_of_neg (p := fun y => decide (Pn E (k + 1) u y)) (by simp [r])]; exact ih
      obtain ⟨l1, l2, e⟩ := List.append_of_mem hyk
      show (ks.filter fun y => decide (Pn E k u y)).length + 1 ≤ (ks.filter fun y => decide (Pn E (k + 1) u y)).length
      rw [e, List.filter_append, List.filter_append, List.length_append, List.length_append, List.filter_cons_of_neg (p := fun y => decide (Pn E k u y)) (by simp [y2]), List.filter_cons_of_pos (p := fun y => decide (Pn E (k + 1) u y)) (decide_eq_true y1), List.length_cons]
      have := sub l1
      have := sub l2
      omega
  have ex : ∃ k, k ≤ ks.length ∧ ∀ y, Pn E (k + 1) u y → Pn E k u y := by
    refine Classical.byContradiction fun hn => ?_
    have big : ∀ m, m ≤ ks.length + 1 → m ≤ c m := fun m => by
      induction m with
      | zero => exact fun _ => Nat.zero_le _
      | succ m ih =>
        intro hm
        have := ih (by omega)
        rcases grow m with q | q
        · exact absurd ⟨m, by omega, q⟩ hn
        · omega
    have := big (ks.length + 1) (Nat.le_refl _)
    have h2 : c (ks.length + 1) ≤ ks.length := List.length_filter_le _ _
    omega
  obtain ⟨k, hk, hs⟩ := ex
  obtain ⟨n, hn⟩ := Pn.of_rch h
  have : Pn E k u x := stay hs n x (hn.mono (by omega))
  exact this.mono hk
theorem llIn_mono {R : U → List U} {u one x y : U} (h : y ∈ R x) : y ∈ llIn R u one x := by
  unfold llIn
  by_cases e : x = u
  · subst e; rw [updU_same]; exact addAll_mem.mpr (.inl h)
  · rw [updU_ne e]; exact h
theorem llF_mono {u : U} : ∀ {l : List U} {R : U → List U} {x y : U}, y ∈ R x → y ∈ l.foldl (fun R' one => llIn R' u one) R x
  | [], _, _, _, h => h
  | o :: l, _, _, _, h => llF_mono (l := l) (llIn_mono h)
theorem llF_get {u : U} : ∀ {l : List U} {R : U → List U} {z x : U}, z ∈ l → x ∈ R z → x ∈ l.foldl (fun R' one => llIn R' u one) R u
  | [], _, _, _, h, _ => nomatch h
  | o :: l, R, z, x, h, hx => by
    rw [List.foldl_cons]
    rcases List.mem_cons.mp h with e | e
    · subst e
      refine llF_mono ?_
      unfold llIn
      rw [updU_same]
      exact addAll_mem.mpr (.inr hx)
    · exact llF_get (l := l) e (llIn_mono hx)
theorem llT_mono : ∀ {l : List U} {R : U → List U} {x y : U}, y ∈ R x → y ∈ l.foldl llU R x
  | [], _, _, _, h => h
  | o :: l, R, _, _, h => llT_mono (l := l) (R := llU R o) (llF_mono h)
theorem llT_get : ∀ {l : List U} {R : U → List U} {u z x : U}, u ∈ l → z ∈ R u → x ∈ R z → x ∈ l.foldl llU R u
  | [], _, _, _, _, h, _, _ => nomatch h
  | o :: l, R, u, z, x, h, hz, hx => by
    rw [List.foldl_cons]
    rcases List.mem_cons.mp h with e | e
    · subst e
      exact llT_mono (llF_get hz hx)
    · exact llT_get (l := l) (R := llU R o) e (llF_mono hz) (llF_mono hx)
theorem llN_low {ks : List U} {E : U → List U} (hE : ∀ u ∈ ks, ∀ x ∈ E u, x ∈ ks) : ∀ (k : Nat) {u x : U}, u ∈ ks → Pn E k u x → x ∈ llN ks E k u
  | 0, _, _, _, h => h
  | k + 1, u, x, hu, h => by
    show x ∈ ks.foldl llU (llN ks E k) u
    rcases h with z | ⟨z, h1, h2⟩
    · exact llT_mono (llN_low hE k hu (Pn.mono (n := 0) z (Nat.zero_le _)))
    · exact llT_get hu (llN_low hE k hu (Pn.mono (n := 0) h1 (Nat.zero_le _))) (llN_low hE k (hE u hu z h1) h2)
theorem llN_up {ks : List U} {E : U → List U} : ∀ (k : Nat) {u x : U}, x ∈ llN ks E k u → Rch E u x := by
  have one : ∀ {R : U → List U} {u o : U}, (∀ u x, x ∈ R u → Rch E u x) → o ∈ R u → ∀ v x, x ∈ llIn R u o v → Rch E v x := fun {R u o} h ho v x hx => by
    unfold llIn at hx
    by_cases e : v = u
    · subst e
      rw [updU_same] at hx
      rcases addAll_mem.mp hx with z | z
      · exact h v x z
      · exact (h v o ho).trans (h o x z)
    · rw [updU_ne e] at hx; exact h v x hx
  have two : ∀ (l : List U) {R : U → List U} {u : U}, (∀ u x, x ∈ R u → Rch E u x) → (∀ o ∈ l, o ∈ R u) → ∀ v x, x ∈ l.foldl (fun R' one => llIn R' u one) R v → Rch E v x := fun l => by
    induction l with
    | nil => exact fun h _ => h
    | cons o l ih =>
      intro R u h ho
      exact ih (R := llIn R u o) (one h (ho o (by simp))) fun p hp => llIn_mono (ho p (by simp [hp]))
  have three : ∀ (l : List U) {R : U → List U}, (∀ u x, x ∈ R u → Rch E u x) → ∀ v x, x ∈ l.foldl llU R v → Rch E v x := fun l => by
    induction l with
    | nil => exact fun h => h
    | cons o l ih =>
      intro R h
      exact ih (R := llU R o) (two (R o) h fun p hp => hp)
  intro k
  induction k with
  | zero => exact fun h => .one h
  | succ k ih => exact fun {u x} h => three ks (fun u x hx => ih hx) u x h
theorem mem_llN {ks : List U} {E : U → List U} (hE : ∀ u ∈ ks, ∀ x ∈ E u, x ∈ ks) {n : Nat} (hn : ks.length ≤ n) {u : U} (hu : u ∈ ks) (x : U) : x ∈ llN ks E n u ↔ Rch E u x :=
  ⟨llN_up n, fun h => llN_low hE n hu ((Pn.bound hE hu h).mono hn)⟩
end Od
namespace Od
structure RT (us : List U) (R : U → List U) : Prop where
  nd : us.Nodup
  sub : ∀ u ∈ us, ∀ x ∈ R u, x ∈ us
  tr : ∀ u ∈ us, ∀ x ∈ R u, ∀ y ∈ R x, y ∈ R u
def eqB (R : U → List U) (u o : U) : Bool := decide (o = u) || (decide (o ∈ R u) && decide (u ∈ R o))
theorem eqB_iff {R : U → List U} {u o : U} : eqB R u o = true ↔ o = u ∨ (o ∈ R u ∧ u ∈ R o) := by
  unfold eqB
  simp
theorem eqB_self (R : U → List U) (u : U) : eqB R u u = true := eqB_iff.mpr (.inl rfl)
theorem eqB_symm {R : U → List U} {u o : U} (h : eqB R u o = true) : eqB R o u = true := by
  rcases eqB_iff.mp h with e | ⟨a, b⟩
  · exact eqB_iff.mpr (.inl e.symm)
  · exact eqB_iff.mpr (.inr ⟨b, a⟩)
theorem ownR_eq (left : List U) (R : U → List U) (u : U) : ownR left R u = left.filter (eqB R u) := rfl
theorem clsR_eq (us : List U) (R : U → List U) (u : U) : clsR us R u = us.filter (eqB R u) := rfl
theorem find_congr {p q : U → Bool} : ∀ {l : List U}, (∀ x ∈ l, p x = q x) → l.find? p = l.find? q
  | [], _ => rfl
  | x :: l, h => by rw [List.find?_cons, List.find?_cons, h x (by simp), find_congr fun y hy => h y (by simp [hy])]
section
variable {us : List U} {R : U → List U}
theorem RT.trans (H : RT us R) {u v w : U} (hu : u ∈ us) (hv : v ∈ us) (h1 : eqB R u v = true) (h2 : eqB R v w = true) (hw : w ∈ us) : eqB R u w = true := by
  rcases eqB_iff.mp h1 with e | ⟨a, b⟩
  · subst e; exact h2
  · rcases eqB_iff.mp h2 with e | ⟨c, d⟩
    · subst e; exact h1
    · exact eqB_iff.mpr (.inr ⟨H.tr u hu v a w c, H.tr w hw v d u b⟩)
theorem RT.congr (H : RT us R) {u v : U} (hu : u ∈ us) (hv : v ∈ us) (h : eqB R u v = true) : ∀ w ∈ us, eqB R u w = eqB R v w := fun w hw => by
  rw [Bool.eq_iff_iff]
  exact ⟨fun z => H.trans hv hu (eqB_symm h) z hw, fun z => H.trans hu hv h z hw⟩
/-- what is reached from one of a class is reached from all -/
theorem RT.same (H : RT us R) {u v x : U} (hu : u ∈ us) (h : eqB R u v = true) (hx : x ∈ R v) : x ∈ R u ∨ v = u := by
  rcases eqB_iff.mp h with e | ⟨a, b⟩
  · exact .inr e
  · exact .inl (H.tr u hu v a x hx)
theorem min_ex {f : U → Nat} : ∀ {l : List U}, l ≠ [] → ∃ u ∈ l, ∀ v ∈ l, f u ≤ f v
  | [], h => absurd rfl h
  | [x], _ => ⟨x, by simp, fun v hv => by rw [List.mem_singleton] at hv; subst hv; exact Nat.le_refl _⟩
  | x :: y :: l, _ => by
    obtain ⟨u, hu, h⟩ := min_ex (f := f) (l := y :: l) (by simp)
    by_cases c : f x ≤ f u
    · refine ⟨x, by simp, fun v hv => ?_⟩
      rcases List.mem_cons.mp hv with e | e
      · subst e; exact Nat.le_refl _
      · exact Nat.le_trans c (h v e)
    · refine ⟨u, by simp [hu], fun v hv => ?_⟩
      rcases List.mem_cons.mp hv with e | e
      · subst e; omega
      · exact h v e
theorem filter_same {p q : U → Bool} : ∀ {l : List U}, (∀ x ∈ l, p x = true → q x = true) → (l.filter q).length ≤ (l.filter p).length → ∀ x ∈ l, q x = true → p x = true
  | [], _, _, x, hx => nomatch hx
  | a :: l, h, hl, x, hx => by
    have sub : ∀ {m : List U}, (∀ x ∈ m, p x = true → q x = true) → (m.filter p).length ≤ (m.filter q).length := fun {m} => by
      induction m with
      | nil => exact fun _ => Nat.le_refl _
      | cons b m ih =>
        intro hm
        have := ih fun x hx => hm x (by simp [hx])
        by_cases c : p b = true
        · rw [List.filter_cons_of_pos c, List.filter_cons_of_pos (hm b (by simp) c), List.length_cons, List.length_cons]; omega
        · rw [List.filter_cons_of_neg c]
          by_cases d : q b = true
          · rw [List.filter_cons_of_pos d, List.length_cons]; omega
          · rw [List.filter_cons_of_neg d]; exact this
    have hs := sub (m := l) fun x hx => h x (by simp [hx])
    by_cases d : q a = true
    · rw [List.filter_cons_of_pos d, List.length_cons] at hl
      by_cases c : p a = true
      · rw [List.filter_cons_of_pos c, List.length_cons] at hl
        intro hq
        rcases List.mem_cons.mp hx with e | e
        · subst e; exact c
        · exact filter_same (l := l) (fun x hx => h x (by simp [hx])) (by omega) x e hq
      · rw [List.filter_cons_of_neg c] at hl
        omega
    · rw [List.filter_cons_of_neg d] at hl
      have c : ¬ p a = true := fun z => d (h a (by simp) z)
      rw [List.filter_cons_of_neg c] at hl
      intro hq
      rcases List.mem_cons.mp hx with e | e
      · subst e; exact absurd hq d
      · exact filter_same (l := l) (fun x hx => h x (by simp [hx])) hl x e hq
/-- the listing so far -/
structure LI (us : List U) (R : U → List U) (p : LP) : Prop where
  l : p.left = us.filter fun v => !decide (v ∈ p.done)
  f : p.done = p.listed.flatten
  cl : ∀ u ∈ p.done, ∀ x ∈ R u, x ∈ p.done
  sub : ∀ u ∈ p.done, u ∈ us
  nd : p.done.Nodup
  ls : ∀ A g B, p.listed = A ++ g :: B → g.Nodup ∧ (∃ u ∈ g, ∀ x, x ∈ g ↔ x ∈ us ∧ eqB R u x = true) ∧ ∀ x ∈ g, ∀ y ∈ R x, y ∈ g ∨ y ∈ A.flatten
theorem LI.left {p : LP} (I : LI us R p) {x : U} : x ∈ p.left ↔ x ∈ us ∧ x ∉ p.done := by
  rw [I.l, List.mem_filter]
  simp
/-- a class that is not done is not done at all -/
theorem LI.apart {p : LP} (I : LI us R p) {u x : U} (hu : u ∉ p.done) (h : eqB R u x = true) : x ∉ p.done := fun hx => by
  rcases eqB_iff.mp h with e | ⟨a, b⟩
  · subst e; exact hu hx
  · exact hu (I.cl x hx u b)
theorem LI.own {p : LP} (I : LI us R p) {u : U} (hu : u ∉ p.done) : ownR p.left R u = us.filter (eqB R u) := by
  rw [ownR_eq, I.l, List.filter_filter]
  apply List.filter_congr
  intro x _
  by_cases c : eqB R u x = true
  · have := I.apart hu c
    simp [c, this]
  · simp [c]
/-- there is always one that is ready -/
theorem LI.ready (H : RT us R) {p : LP} (I : LI us R p) (hne : p.left ≠ []) : ∃ u ∈ p.left, lready p.left R p.done u = true := by
  let m : U → U → Bool := fun u v => decide (v = u) || decide (v ∈ R u)
  obtain ⟨u, hu, hmin⟩ := min_ex (f := fun u => (us.filter (m u)).length) hne
  refine ⟨u, hu, ?_⟩
  obtain ⟨huu, hud⟩ := I.left.mp hu
  unfold lready
  rw [List.all_eq_true]
  intro x hx
  by_cases c : x ∈ p.done
  · simp [c]
  · have hxu := H.sub u huu x hx
    have hxl : x ∈ p.left := I.left.mpr ⟨hxu, c⟩
    have sub : ∀ v ∈ us, m x v = true → m u v = true := fun v _ h => by
      simp only [m, Bool.or_eq_true, decide_eq_true_eq] at h ⊢
      rcases h with e | e
      · subst e; exact .inr hx
      · exact .inr (H.tr u huu x hx v e)
    have := filter_same (p := m x) (q := m u) sub (hmin x hxl) u huu (by simp [m])
    simp only [m, Bool.or_eq_true, decide_eq_true_eq] at this
    have he : eqB R u x = true := by
      rcases this with e | e
      · rw [e]; exact eqB_self R _
      · exact eqB_iff.mpr (.inr ⟨hx, e⟩)
    have : x ∈ ownR p.left R u := by rw [ownR_eq, List.mem_filter]; exact ⟨hxl, he⟩
    simp [this]
theorem LI.pick (H : RT us R) {p : LP} (I : LI us R p) (hne : p.left ≠ []) : ∃ u, p.left.find? (lready p.left R p.done) = some u ∧ u ∈ p.left ∧ lready p.left R p.done u = true ∧ lpst R p = ⟨p.left.filter fun v => !decide (v ∈ us.filter (eqB R u)), p.listed ++ [us.filter (eqB R u)], p.done ++ us.filter (eqB R u)⟩ := by
  cases h : p.left.find? (lready p.left R p.done) with
  | none =>
    obtain ⟨u, h1, h2⟩ := I.ready H hne
    have := List.find?_eq_none.mp h u h1
    exact absurd h2 this
  | some u =>
    have hm := List.mem_of_find?_eq_some h
    refine ⟨u, rfl, hm, List.find?_some h, ?_⟩
    unfold lpst lpick
    rw [h]
    show LP.mk _ _ _ = _
    rw [I.own (I.left.mp hm).2]
theorem LI.step (H : RT us R) {p : LP} (I : LI us R p) (hne : p.left ≠ []) : LI us R (lpst R p) ∧ (lpst R p).left.length < p.left.length := by
  obtain ⟨u, _, hu, hr, e⟩ := I.pick H hne
  obtain ⟨huu, hud⟩ := I.left.mp hu
  have hown := I.own hud
  have hcm : ∀ x, x ∈ us.filter (eqB R u) ↔ x ∈ us ∧ eqB R u x = true := fun x => List.mem_filter
  have hrd : ∀ x ∈ us.filter (eqB R u), ∀ y ∈ R x, y ∈ us.filter (eqB R u) ∨ y ∈ p.done := fun x hx y hy => by
    obtain ⟨hxu, hxe⟩ := (hcm x).mp hx
    have hy' : y ∈ R u := by
      rcases H.same huu hxe hy with z | z
      · exact z
      · subst z; exact hy
    unfold lready at hr
    rw [List.all_eq_true] at hr
    have := hr y hy'
    rw [hown] at this
    simp only [Bool.or_eq_true, decide_eq_true_eq] at this
    exact this.symm
  rw [e]
  refine ⟨⟨?_, ?_, ?_, ?_, ?_, ?_⟩, ?_⟩
  · show p.left.filter _ = us.filter fun v => !decide (v ∈ p.done ++ us.filter (eqB R u))
    conv => lhs; rw [I.l, List.filter_filter]
    apply List.filter_congr
    intro x _
    by_cases a : x ∈ p.done <;> by_cases b : x ∈ us.filter (eqB R u) <;> simp only [a, b, List.mem_append, decide_true, decide_false, or_true, or_false, or_self, Bool.not_true, Bool.not_false, Bool.and_self, Bool.and_true, Bool.and_false]
  · show p.done ++ _ = (p.listed ++ [_]).flatten
    rw [List.flatten_append, List.flatten_singleton, I.f]
  · intro x hx y hy
    rcases List.mem_append.mp hx with z | z
    · exact List.mem_append_left _ (I.cl x z y hy)
    · rcases hrd x z y hy with q | q
      · exact List.mem_append_right _ q
      · exact List.mem_append_left _ q
  · intro x hx
    rcases List.mem_append.mp hx with z | z
    · exact I.sub x z
    · exact ((hcm x).mp z).1
  · show (p.done ++ us.filter (eqB R u)).Nodup
    rw [List.nodup_append]
    exact ⟨I.nd, H.nd.filter _, fun a ha b hb z => I.apart hud ((hcm b).mp hb).2 (z ▸ ha)⟩
  · intro A g B hab
    have hab : p.listed ++ [us.filter (eqB R u)] = A ++ g :: B := hab
    rcases List.eq_nil_or_concat B with hB | ⟨B', b, hB⟩
    · subst hB
      obtain ⟨e1, e2⟩ := List.append_inj' hab rfl
      have e2 : us.filter (eqB R u) = g := by simpa using e2
      subst e1 e2
      refine ⟨H.nd.filter _, ⟨u, (hcm u).mpr ⟨huu, eqB_self R u⟩, hcm⟩, fun x hx y hy => ?_⟩
      rw [← I.f]; exact hrd x hx y hy
    · subst hB
      rw [show A ++ g :: (B'.concat b) = (A ++ g :: B') ++ [b] by simp] at hab
      obtain ⟨e1, e2⟩ := List.append_inj' hab rfl
      exact I.ls A g B' e1
  · have hm : u ∈ us.filter (eqB R u) := (hcm u).mpr ⟨huu, eqB_self R u⟩
    show (p.left.filter fun v => !decide (v ∈ us.filter (eqB R u))).length < p.left.length
    obtain ⟨l1, l2, el⟩ := List.append_of_mem hu
    rw [el, List.filter_append, List.filter_cons_of_neg (by simp only [hm, decide_true, Bool.not_true]; decide), List.length_append, List.length_append, List.length_cons]
    have := List.length_filter_le (fun v => !decide (v ∈ us.filter (eqB R u))) l1
    have := List.length_filter_le (fun v => !decide (v ∈ us.filter (eqB R u))) l2
    omega
theorem lpst_nil {p : LP} (h : p.left = []) : lpst R p = p := by
  unfold lpst lpick
  rw [h]; rfl
theorem LI.start (us : List U) (R : U → List U) : LI us R ⟨us, [], []⟩ :=
  ⟨by
    show us = us.filter fun v => !decide (v ∈ ([] : List U))
    rw [List.filter_eq_self.mpr fun _ _ => by simp], rfl, fun u hu => (nomatch hu), fun u hu => (nomatch hu), List.nodup_nil, fun A g B h => by cases A <;> cases h⟩
theorem LI.run (H : RT us R) : ∀ k, LI us R (lpN R ⟨us, [], []⟩ k) ∧ (lpN R ⟨us, [], []⟩ k).left.length ≤ us.length - k
  | 0 => ⟨LI.start us R, Nat.le_refl _⟩
  | k + 1 => by
    obtain ⟨I, h⟩ := LI.run H k
    show LI us R (lpst R (lpN R ⟨us, [], []⟩ k)) ∧ (lpst R (lpN R ⟨us, [], []⟩ k)).left.length ≤ _
    by_cases c : (lpN R ⟨us, [], []⟩ k).left = []
    · rw [lpst_nil c]
      refine ⟨I, ?_⟩
      rw [c]; exact Nat.zero_le _
    · obtain ⟨I2, h2⟩ := I.step H c
      exact ⟨I2, by omega⟩
/-- a full listing -/
structure Lst (us : List U) (R : U → List U) (Ls : List (List U)) : Prop where
  cov : ∀ x, x ∈ Ls.flatten ↔ x ∈ us
  nd : Ls.flatten.Nodup
  ls : ∀ A g B, Ls = A ++ g :: B → g.Nodup ∧ (∃ u ∈ g, ∀ x, x ∈ g ↔ x ∈ us ∧ eqB R u x = true) ∧ ∀ x ∈ g, ∀ y ∈ R x, y ∈ g ∨ y ∈ A.flatten
theorem lp_lst (H : RT us R) {n : Nat} (hn : us.length ≤ n) : Lst us R (lpN R ⟨us, [], []⟩ n).listed := by
  obtain ⟨I, h⟩ := LI.run H n
  have hz : (lpN R ⟨us, [], []⟩ n).left = [] := List.eq_nil_of_length_eq_zero (by omega)
  refine ⟨fun x => ?_, by rw [← I.f]; exact I.nd, I.ls⟩
  rw [← I.f]
  refine ⟨I.sub x, fun hx => Classical.byContradiction fun hn => ?_⟩
  have := I.left.mpr ⟨hx, hn⟩
  rw [hz] at this
  exact nomatch this
theorem lp_len (H : RT us R) {n m : Nat} (hn : us.length ≤ n) (hm : us.length ≤ m) : lpN R ⟨us, [], []⟩ n = lpN R ⟨us, [], []⟩ m := by
  have key : ∀ k, lpN R ⟨us, [], []⟩ (us.length + k) = lpN R ⟨us, [], []⟩ us.length := fun k => by
    refine lpN_stay ?_ k
    obtain ⟨_, h⟩ := LI.run H us.length
    have hz : (lpN R ⟨us, [], []⟩ us.length).left = [] := List.eq_nil_of_length_eq_zero (by omega)
    unfold lpick
    rw [hz]; rfl
  obtain ⟨a, rfl⟩ := Nat.exists_eq_add_of_le hn
  obtain ⟨b, rfl⟩ := Nat.exists_eq_add_of_le hm
  rw [key a, key b]
end
/-- the listing hangs on what is reached alone -/
theorem lp_same {us : List U} {R R' : U → List U} (h : ∀ u ∈ us, ∀ x, x ∈ R u ↔ x ∈ R' u) : ∀ k, lpN R ⟨us, [], []⟩ k = lpN R' ⟨us, [], []⟩ k ∧ ∀ x ∈ (lpN R ⟨us, [], []⟩ k).left, x ∈ us
  | 0 => ⟨rfl, fun x hx => hx⟩
  | k + 1 => by
    obtain ⟨e, hl⟩ := lp_same h k
    show lpst R (lpN R ⟨us, [], []⟩ k) = lpst R' (lpN R' ⟨us, [], []⟩ k) ∧ ∀ x ∈ (lpst R (lpN R ⟨us, [], []⟩ k)).left, x ∈ us
    rw [← e]
    generalize lpN R ⟨us, [], []⟩ k = p at *
    have hown : ∀ u ∈ p.left, ownR p.left R u = ownR p.left R' u := fun u hu => by
      rw [ownR_eq, ownR_eq]
      apply List.filter_congr
      intro x hx
      have a := h u (hl u hu) x
      have b := h x (hl x hx) u
      unfold eqB
      simp only [a, b]
    have hrd : ∀ u ∈ p.left, lready p.left R p.done u = lready p.left R' p.done u := fun u hu => by
      unfold lready
      rw [hown u hu, Bool.eq_iff_iff, List.all_eq_true, List.all_eq_true]
      exact ⟨fun z x hx => z x ((h u (hl u hu) x).mpr hx), fun z x hx => z x ((h u (hl u hu) x).mp hx)⟩
    have hp : lpick R p = lpick R' p := by
      unfold lpick
      rw [find_congr hrd]
      cases hf : p.left.find? (lready p.left R' p.done) with
      | none => rfl
      | some u =>
        show some _ = some _
        rw [hown u (List.mem_of_find?_eq_some hf)]
    refine ⟨?_, fun x hx => ?_⟩
    · unfold lpst
      rw [hp]
    · unfold lpst at hx
      cases hq : lpick R p with
      | none => rw [hq] at hx; exact hl x hx
      | some ch =>
        rw [hq] at hx
        exact hl x (List.mem_filter.mp hx).1
def isHd (us : List U) (R : U → List U) (u : U) : Bool := decide (us.find? (eqB R u) = some u)
section
variable {us : List U} {R : U → List U}
theorem isHd_iff {u : U} : isHd us R u = true ↔ us.find? (eqB R u) = some u := decide_eq_true_iff
theorem hd_ex (H : RT us R) {u : U} (hu : u ∈ us) : ∃ h, us.find? (eqB R u) = some h ∧ h ∈ us ∧ eqB R u h = true ∧ isHd us R h = true := by
  cases e : us.find? (eqB R u) with
  | none => exact absurd (eqB_self R u) (List.find?_eq_none.mp e u hu)
  | some h =>
    have hm := List.mem_of_find?_eq_some e
    have hq := List.find?_some e
    refine ⟨h, rfl, hm, hq, isHd_iff.mpr ?_⟩
    rw [← find_congr (H.congr hu hm hq), e]
theorem cls_head {u : U} (h : isHd us R u = true) : ∃ tl, us.filter (eqB R u) = u :: tl := by
  have : (us.filter (eqB R u)).head? = some u := by rw [List.head?_filter]; exact isHd_iff.mp h
  cases e : us.filter (eqB R u) with
  | nil => rw [e] at this; cases this
  | cons a l => rw [e] at this; cases this; exact ⟨l, rfl⟩
theorem left_hd (H : RT us R) : ∀ k, k ≤ us.length → ((us.take k).foldl (lst1 us R) ([], [])).1 = ((us.take k).filter (isHd us R)).map (fun u => us.filter (eqB R u)) ∧ ∀ x, x ∈ ((us.take k).foldl (lst1 us R) ([], [])).2 ↔ x ∈ us ∧ ∃ v ∈ us.take k, eqB R v x = true
  | 0, _ => ⟨by simp, fun x => by simp⟩
  | k + 1, hk => by
    obtain ⟨h1, h2⟩ := left_hd H k (by omega)
    have hx : us[k]? = some us[k] := List.getElem?_eq_getElem (by omega)
    generalize us[k] = u at hx
    have hu := List.mem_of_getElem? hx
    have htk : us.take (k + 1) = us.take k ++ [u] := by rw [List.take_add_one, hx]; rfl
    rw [htk, List.foldl_append]
    generalize (us.take k).foldl (lst1 us R) ([], []) = s at *
    show (lst1 us R s u).1 = _ ∧ ∀ x, x ∈ (lst1 us R s u).2 ↔ _
    have hsub : ∀ v ∈ us.take k, v ∈ us := fun v hv => List.mem_of_mem_take hv
    have hun : u ∉ us.take k := fun z => by
      obtain ⟨j, hj⟩ := List.getElem?_of_mem z
      have hjk : j < k := by
        have := (List.getElem?_eq_some_iff.mp hj).1
        rw [List.length_take] at this; omega
      rw [List.getElem?_take_of_lt hjk] at hj
      have := (List.getElem?_inj (List.getElem?_eq_some_iff.mp hj).1 H.nd).mp (hj.trans hx.symm)
      omega
    have hsplit : us = us.take k ++ (u :: us.drop (k + 1)) := by
      have := List.take_append_drop (k + 1) us
      rw [htk] at this
      simpa using this.symm
    have hfind : us.find? (eqB R u) = ((us.take k).find? (eqB R u)).or (some u) := by
      conv => lhs; rw [hsplit]
      rw [List.find?_append, List.find?_cons_of_pos (eqB_self R u)]
    have hhd : isHd us R u = true ↔ ∀ v ∈ us.take k, eqB R v u = false := by
      rw [isHd_iff, hfind]
      cases e : (us.take k).find? (eqB R u) with
      | none =>
        refine ⟨fun _ v hv => ?_, fun _ => rfl⟩
        have := List.find?_eq_none.mp e v hv
        cases q : eqB R v u with
        | false => rfl
        | true => exact absurd (eqB_symm q) this
      | some w =>
        have hw := List.mem_of_find?_eq_some e
        have hq := List.find?_some e
        refine ⟨fun z => ?_, fun z => ?_⟩
        · cases (show some w = some u from z)
          exact absurd hw hun
        · have := z w hw
          rw [eqB_symm hq] at this
          cases this
    have hmem : u ∈ s.2 ↔ ¬ isHd us R u = true := by
      rw [h2 u, hhd]
      constructor
      · rintro ⟨_, v, hv, e⟩ z
        rw [z v hv] at e; cases e
      · intro z
        refine ⟨hu, Classical.byContradiction fun hn => z fun v hv => ?_⟩
        cases q : eqB R v u with
        | false => rfl
        | true => exact absurd ⟨v, hv, q⟩ hn
    unfold lst1
    by_cases c : u ∈ s.2
    · rw [if_pos c]
      have hno := hmem.mp c
      refine ⟨?_, fun x => ?_⟩
      · rw [h1, List.filter_append, List.filter_cons_of_neg hno]
        simp
      · rw [h2 x]
        constructor
        · rintro ⟨a, v, hv, e⟩
          exact ⟨a, v, List.mem_append_left _ hv, e⟩
        · rintro ⟨a, v, hv, e⟩
          rcases List.mem_append.mp hv with z | z
          · exact ⟨a, v, z, e⟩
          · rw [List.mem_singleton] at z
            subst z
            obtain ⟨_, w, hw, ew⟩ := (h2 v).mp c
            exact ⟨a, w, hw, H.trans (hsub w hw) hu ew e a⟩
    · rw [if_neg c]
      have hyes : isHd us R u = true := Classical.byContradiction fun z => c (hmem.mpr z)
      refine ⟨?_, fun x => ?_⟩
      · show s.1 ++ [clsR us R u] = _
        rw [h1, List.filter_append, List.filter_cons_of_pos hyes, List.map_append]
        rfl
      · show x ∈ addAll s.2 (clsR us R u) ↔ _
        rw [addAll_mem, h2 x, clsR_eq, List.mem_filter]
        constructor
        · rintro (⟨a, v, hv, e⟩ | ⟨a, e⟩)
          · exact ⟨a, v, List.mem_append_left _ hv, e⟩
          · exact ⟨a, u, by simp, e⟩
        · rintro ⟨a, v, hv, e⟩
          rcases List.mem_append.mp hv with z | z
          · exact .inl ⟨a, v, z, e⟩
          · rw [List.mem_singleton] at z
            subst z
            exact .inr ⟨a, e⟩
theorem leftR_hd (H : RT us R) : leftR us R = (us.filter (isHd us R)).map fun u => us.filter (eqB R u) := by
  have := (left_hd H us.length (Nat.le_refl _)).1
  rw [List.take_length] at this
  exact this
theorem erase_map {f : U → List U} {u : U} : ∀ {M : List U}, u ∈ M → (∀ x ∈ M, f x = f u → x = u) → (M.map f).erase (f u) = (M.erase u).map f
  | [], h, _ => nomatch h
  | x :: M, h, inj => by
    rw [List.map_cons]
    by_cases e : x = u
    · subst e
      rw [List.erase_cons_head, List.erase_cons_head]
    · have hne : f x ≠ f u := fun z => e (inj x (by simp) z)
      rw [List.erase_cons_tail (by simpa using hne), List.erase_cons_tail (by simpa using e), List.map_cons]
      have hu : u ∈ M := by
        rcases List.mem_cons.mp h with z | z
        · exact absurd z.symm e
        · exact z
      rw [erase_map hu fun y hy => inj y (by simp [hy])]
/-- the two processes side by side -/
structure Sim (us : List U) (R : U → List U) (p : LP) (b : BS) : Prop where
  f : b.found = p.listed
  d : ∀ x, x ∈ b.done ↔ x ∈ p.done
  l : b.left = (p.left.filter (isHd us R)).map fun u => us.filter (eqB R u)
theorem Sim.step (H : RT us R) {p : LP} {b : BS} (I : LI us R p) (S : Sim us R p b) (hne : p.left ≠ []) : Sim us R (lpst R p) (bst R b) ∧ ((lpst R p).left.filter (isHd us R)).length + 1 = (p.left.filter (isHd us R)).length := by
  obtain ⟨u, hf, hu, hr, e⟩ := I.pick H hne
  obtain ⟨huu, hud⟩ := I.left.mp hu
  -- u is a head
  have hhd : isHd us R u = true := by
    obtain ⟨h, eh, hh, hq, hhh⟩ := hd_ex H huu
    obtain ⟨_, as, bs, es, hno⟩ := List.find?_eq_some_iff_append.mp eh
    have hhd' : h ∉ p.done := I.apart hud hq
    have hrh : lready p.left R p.done h = true := by
      unfold lready at hr ⊢
      rw [List.all_eq_true] at hr ⊢
      intro x hx
      have hx' : x ∈ R u := by
        rcases H.same huu hq hx with z | z
        · exact z
        · rw [z] at hx; exact hx
      have := hr x hx'
      rw [I.own hud] at this
      rw [I.own hhd', ← List.filter_congr (H.congr huu hh hq)]
      exact this
    have el : p.left = (as.filter fun v => !decide (v ∈ p.done)) ++ h :: (bs.filter fun v => !decide (v ∈ p.done)) := by
      rw [I.l, es, List.filter_append, List.filter_cons_of_pos (by simp [hhd'])]
    have hf2 := hf
    generalize hp : lready p.left R p.done = P at *
    rw [el, List.find?_append] at hf2
    cases q : (as.filter fun v => !decide (v ∈ p.done)).find? P with
    | some w =>
      rw [q] at hf2
      cases (show some w = some u from hf2)
      have := List.mem_of_find?_eq_some q
      have := hno u (List.mem_filter.mp this).1
      rw [eqB_self R u] at this
      cases this
    | none =>
      rw [q, Option.none_or, List.find?_cons_of_pos hrh] at hf2
      cases hf2
      exact hhh
  -- the program's pick
  have hM : u ∈ p.left.filter (isHd us R) := List.mem_filter.mpr ⟨hu, hhd⟩
  have hrb : ∀ v ∈ p.left.filter (isHd us R), (readyB R b.done (us.filter (eqB R v))) = lready p.left R p.done v := fun v hv => by
    obtain ⟨hv1, hv2⟩ := List.mem_filter.mp hv
    obtain ⟨tl, et⟩ := cls_head hv2
    rw [lready, I.own (I.left.mp hv1).2]
    rw [et]
    show ((R v).all fun o => decide (o ∈ b.done) || decide (o ∈ v :: tl)) = _
    congr 1
    funext o
    simp only [S.d o]
  have hfind : (p.left.filter (isHd us R)).find? (lready p.left R p.done) = some u := by
    obtain ⟨_, as, bs, es, hno⟩ := List.find?_eq_some_iff_append.mp hf
    refine List.find?_eq_some_iff_append.mpr ⟨hr, as.filter (isHd us R), bs.filter (isHd us R), ?_, fun x hx => hno x (List.mem_filter.mp hx).1⟩
    conv => lhs; rw [es]
    rw [List.filter_append, List.filter_cons_of_pos hhd]
  have hpick : pickB R b.left b.done = us.filter (eqB R u) := by
    unfold pickB
    rw [S.l, List.find?_map]
    have : (p.left.filter (isHd us R)).find? (readyB R b.done ∘ fun u => us.filter (eqB R u)) = some u := by
      rw [← hfind]
      exact find_congr hrb
    rw [this]
    rfl
  have hMnd : (p.left.filter (isHd us R)).Nodup := by rw [I.l]; exact (H.nd.filter _).filter _
  have inj : ∀ x ∈ p.left.filter (isHd us R), (us.filter (eqB R x)) = us.filter (eqB R u) → x = u := fun x hx z => by
    obtain ⟨t1, e1⟩ := cls_head (List.mem_filter.mp hx).2
    obtain ⟨t2, e2⟩ := cls_head hhd
    rw [e1, e2] at z
    cases z; rfl
  have hleft : (lpst R p).left.filter (isHd us R) = (p.left.filter (isHd us R)).erase u := by
    rw [hMnd.erase_eq_filter, e]
    show (p.left.filter _).filter _ = _
    rw [List.filter_filter, List.filter_filter]
    apply List.filter_congr
    intro x hx
    obtain ⟨hxu, _⟩ := I.left.mp hx
    cases q : isHd us R x with
    | false => simp
    | true =>
      have : x ∈ us.filter (eqB R u) ↔ x = u := by
        rw [List.mem_filter]
        constructor
        · rintro ⟨_, z⟩
          refine inj x (List.mem_filter.mpr ⟨hx, q⟩) ?_
          exact (List.filter_congr (H.congr huu hxu z)).symm
        · rintro rfl
          exact ⟨hxu, eqB_self R _⟩
      by_cases c : x = u
      · subst c
        have h1 : x ∈ us.filter (eqB R x) := this.mpr rfl
        rw [decide_eq_true h1]
        simp
      · have c2 : x ∉ us.filter (eqB R u) := fun z => c (this.mp z)
        simp [c2, c]
  refine ⟨⟨?_, fun x => ?_, ?_⟩, ?_⟩
  · show b.found ++ [pickB R b.left b.done] = _
    rw [hpick, S.f, e]
  · show x ∈ addAll b.done (pickB R b.left b.done) ↔ _
    rw [hpick, addAll_mem, S.d x, e]
    exact List.mem_append.symm
  · show b.left.erase (pickB R b.left b.done) = _
    rw [hpick, S.l, hleft]
    exact erase_map hM inj
  · rw [hleft, List.length_erase_of_mem hM]
    have := List.length_pos_of_mem hM
    omega
theorem blocks_eq (H : RT us R) : (bsN R ⟨leftR us R, [], []⟩ (leftR us R).length).found = lpartsR us R := by
  have hd0 := leftR_hd H
  have hl0 : (leftR us R).length = (us.filter (isHd us R)).length := by rw [hd0, List.length_map]
  have go : ∀ k, k ≤ (us.filter (isHd us R)).length → Sim us R (lpN R ⟨us, [], []⟩ k) (bsN R ⟨leftR us R, [], []⟩ k) ∧ ((lpN R ⟨us, [], []⟩ k).left.filter (isHd us R)).length + k = (us.filter (isHd us R)).length := fun k => by
    induction k with
    | zero => exact fun _ => ⟨⟨rfl, fun x => Iff.rfl, hd0⟩, rfl⟩
    | succ k ih =>
      intro hk
      obtain ⟨S, hlen⟩ := ih (by omega)
      have I := (LI.run H k).1
      have hne : (lpN R ⟨us, [], []⟩ k).left ≠ [] := fun z => by
        rw [z] at hlen
        simp at hlen
        omega
      obtain ⟨S2, h2⟩ := S.step H I hne
      refine ⟨S2, ?_⟩
      show ((lpst R (lpN R ⟨us, [], []⟩ k)).left.filter (isHd us R)).length + (k + 1) = _
      omega
  obtain ⟨S, hlen⟩ := go _ (Nat.le_refl _)
  have I := (LI.run H (us.filter (isHd us R)).length).1
  have hz : (lpN R ⟨us, [], []⟩ (us.filter (isHd us R)).length).left = [] := by
    refine Classical.byContradiction fun hne => ?_
    obtain ⟨u, hu⟩ := List.exists_mem_of_ne_nil _ hne
    obtain ⟨huu, hud⟩ := I.left.mp hu
    obtain ⟨h, _, hh, hq, hhd⟩ := hd_ex H huu
    have : h ∈ (lpN R ⟨us, [], []⟩ (us.filter (isHd us R)).length).left.filter (isHd us R) := List.mem_filter.mpr ⟨I.left.mpr ⟨hh, I.apart hud hq⟩, hhd⟩
    have := List.length_pos_of_mem this
    omega
  rw [hl0, S.f]
  unfold lpartsR
  obtain ⟨j, hj⟩ := Nat.exists_eq_add_of_le (List.length_filter_le (isHd us R) us)
  have hst := lpN_stay (R := R) (s := ⟨us, [], []⟩) (k := (us.filter (isHd us R)).length) (by unfold lpick; rw [hz]; rfl) j
  rw [← hj] at hst
  rw [hst]
end
end Od
namespace Od
theorem RT.reach {us : List U} {E : U → List U} (G : Gr us E) : RT us (reachR us E) :=
  ⟨G.nd, fun u hu x hx => ((mem_reachR G hu x).mp hx).sub G.sub hu, fun u hu x hx y hy => by
    have h1 := (mem_reachR G hu x).mp hx
    have hxu := h1.sub G.sub hu
    exact (mem_reachR G hu y).mpr (h1.trans ((mem_reachR G hxu y).mp hy))⟩
theorem blocks_lst {us : List U} {E : U → List U} (G : Gr us E) : blocksR us E = lpartsR us (reachR us E) ∧ Lst us (reachR us E) (blocksR us E) := by
  have e : blocksR us E = lpartsR us (reachR us E) := blocks_eq (RT.reach G)
  refine ⟨e, ?_⟩
  rw [e]
  exact lp_lst (RT.reach G) (Nat.le_refl _)
def isK (fd : FD) (u : U) : Prop := (fd.find? fun x => decide (x.1 = u)).isSome
theorem find_put (fd : FD) (u v : U) (d : Int) : (putF fd u d).find? (fun x => decide (x.1 = v)) = if v = u then some (u, d) else fd.find? fun x => decide (x.1 = v) := by
  unfold putF
  by_cases h : (fd.any fun x => decide (x.1 = u)) = true
  · rw [if_pos h]
    induction fd with
    | nil => cases h
    | cons x fd ih =>
      rw [List.map_cons, List.find?_cons, List.find?_cons]
      by_cases e : x.1 = u
      · rw [if_pos e]
        by_cases c : v = u
        · subst c; simp [e]
        · have n1 : ¬ u = v := fun z => c z.symm
          have n2 : ¬ x.1 = v := fun z => c (z ▸ e)
          simp only [e, n1, decide_false, if_neg c]
          by_cases q : (fd.any fun x => decide (x.1 = u)) = true
          · have := ih q
            rw [if_neg c] at this
            exact this
          · have : (fd.map fun x => if x.1 = u then (x.1, d) else x) = fd := by
              conv => rhs; rw [← List.map_id fd]
              apply List.map_congr_left
              intro y hy
              have : ¬ y.1 = u := fun z => q (List.any_eq_true.mpr ⟨y, hy, decide_eq_true z⟩)
              rw [if_neg this]; rfl
            rw [this]
      · rw [if_neg e]
        have q : (fd.any fun x => decide (x.1 = u)) = true := by
          rw [List.any_cons] at h
          simpa [e] using h
        have := ih q
        by_cases c : x.1 = v
        · have : ¬ v = u := fun z => e (c.trans z)
          simp [c, this]
        · simp only [c, decide_false]
          exact this
  · rw [if_neg h, List.find?_append]
    by_cases c : v = u
    · subst c
      have : fd.find? (fun x => decide (x.1 = v)) = none := List.find?_eq_none.mpr fun x hx z => h (List.any_eq_true.mpr ⟨x, hx, z⟩)
      rw [this, if_pos rfl]
      simp
    · rw [if_neg c]
      have : ¬ u = v := fun z => c z.symm
      simp [this]
theorem degOf_put (fd : FD) (u v : U) (d : Int) : degOf (putF fd u d) v = if v = u then d else degOf fd v := by
  unfold degOf
  rw [find_put]
  by_cases c : v = u
  · rw [if_pos c, if_pos c]; rfl
  · rw [if_neg c, if_neg c]
theorem isK_put (fd : FD) (u v : U) (d : Int) : isK (putF fd u d) v ↔ isK fd v ∨ v = u := by
  unfold isK
  rw [find_put]
  by_cases c : v = u
  · rw [if_pos c]; simp [c]
  · rw [if_neg c]; simp [c]
theorem degOf_putAll {d : Int} {v : U} : ∀ {g : List U} {fd : FD}, degOf (putAll fd g d) v = if v ∈ g then d else degOf fd v
  | [], fd => by rw [if_neg (by simp)]; rfl
  | u :: g, fd => by
    show degOf (putAll (putF fd u d) g d) v = _
    rw [degOf_putAll (g := g), degOf_put]
    by_cases a : v ∈ g
    · rw [if_pos a, if_pos (by simp [a])]
    · rw [if_neg a]
      by_cases b : v = u
      · rw [if_pos b, if_pos (by simp [b])]
      · rw [if_neg b, if_neg (by simp [a, b])]
theorem isK_putAll {d : Int} {v : U} : ∀ {g : List U} {fd : FD}, isK (putAll fd g d) v ↔ isK fd v ∨ v ∈ g
  | [], fd => by simp [putAll]
  | u :: g, fd => by
    show isK (putAll (putF fd u d) g d) v ↔ _
    rw [isK_putAll (g := g), isK_put, List.mem_cons, or_assoc]
theorem degOf_not {fd : FD} {v : U} (h : ¬ isK fd v) : degOf fd v = 0 := by
  unfold isK at h
  unfold degOf
  cases e : fd.find? fun x => decide (x.1 = v) with
  | none => rfl
  | some x => rw [e] at h; exact absurd rfl h
theorem sum_filter {f : U → Int} {p : U → Bool} : ∀ {l : List U}, (∀ x ∈ l, p x = false → f x = 0) → (l.map f).sum = ((l.filter p).map f).sum
  | [], _ => rfl
  | x :: l, h => by
    have ih := sum_filter (l := l) fun y hy => h y (by simp [hy])
    rw [List.map_cons, List.sum_cons, ih]
    cases c : p x with
    | true => rw [List.filter_cons_of_pos c, List.map_cons, List.sum_cons]
    | false => rw [List.filter_cons_of_neg (by simp [c]), h x (by simp) c]; omega
theorem le_sum {f : U → Int} : ∀ {l : List U}, (∀ x ∈ l, 0 ≤ f x) → 0 ≤ (l.map f).sum ∧ ∀ x ∈ l, f x ≤ (l.map f).sum
  | [], _ => ⟨Int.le_refl 0, fun x hx => (nomatch hx)⟩
  | y :: l, h => by
    obtain ⟨a, b⟩ := le_sum (l := l) fun x hx => h x (by simp [hx])
    have hy := h y (by simp)
    rw [List.map_cons, List.sum_cons]
    refine ⟨by omega, fun x hx => ?_⟩
    rcases List.mem_cons.mp hx with e | e
    · subst e; omega
    · have := b x e; omega
theorem sum_nat {f : U → Int} : ∀ {l : List U}, (∀ x ∈ l, 0 ≤ f x) → (((l.map fun x => (f x).toNat).sum : Nat) : Int) = (l.map f).sum
  | [], _ => rfl
  | y :: l, h => by
    have ih := sum_nat (l := l) fun x hx => h x (by simp [hx])
    have hy := h y (by simp)
    rw [List.map_cons, List.map_cons, List.sum_cons, List.sum_cons, Int.natCast_add, ih]
    omega
/-- the degrees' certificate -/
structure Cert (S : U → List (List U)) (part : List U) (cut : U) (fd : FD) (Ls : List (List U)) : Prop where
  c2 : degOf fd cut = 1
  c3 : ∀ A g B, Ls = A ++ g :: B → ∃ d : Int, 0 ≤ d ∧ (∀ u ∈ g, degOf fd u = d) ∧ ∀ u ∈ g, ∀ fs ∈ S u, (∃ f ∈ g, (fs.filter fun f => decide (f ∈ part)) = [f]) ∨
    ((∀ f ∈ fs, f ∉ g) ∧ (∀ f ∈ fs.filter fun f => decide (f ∈ part), f ∈ A.flatten ∨ f = cut) ∧ ((fs.filter fun f => decide (f ∈ part)).map (degOf fd)).sum ≤ d)
  c4 : ∀ fs ∈ S cut, ((fs.filter fun f => decide (f ∈ part)).map (degOf fd)).sum ≤ 2
  c5 : ∀ u ∈ part, isK fd u
theorem besN_mem {part : List U} {cut u : U} : u ∈ besN part cut ↔ u ∈ part ∧ u ≠ cut := by
  unfold besN
  rw [List.mem_filter]
  simp
theorem led_mem {S : U → List (List U)} {part : List U} {cut u f : U} {fs : List U} (h : fs ∈ S u) (hf : f ∈ fs) (hp : f ∈ part) (hc : f ≠ cut) : f ∈ ledE S part cut u := by
  unfold ledE facR
  rw [List.mem_filter]
  exact ⟨List.mem_flatMap.mpr ⟨fs, h, hf⟩, by simp [hp, hc]⟩
theorem degGo_cons (S : U → List (List U)) (part : List U) (E : U → List U) (fd : FD) (b : List U) (bs : List (List U)) : degGo S part E fd (b :: bs) = (degStep S part E fd b).bind fun f => degGo S part E f bs := by
  unfold degGo
  rw [List.foldl_cons]
  show bs.foldl _ (degStep S part E fd b) = _
  cases degStep S part E fd b with
  | none =>
    show bs.foldl _ none = none
    induction bs with
    | nil => rfl
    | cons x l ih => exact ih
  | some f => rfl
theorem cert {S : U → List (List U)} {part : List U} {cut : U} {fd : FD} (hn : part.Nodup) (hc : cut ∈ part) (G : Gr (besN part cut) (ledE S part cut)) (h : degR S part cut = some fd) : Cert S part cut fd (blocksR (besN part cut) (ledE S part cut)) := by
  obtain ⟨_, L⟩ := blocks_lst G
  unfold degR at h
  generalize hLs : blocksR (besN part cut) (ledE S part cut) = Ls at *
  cases hgo : degGo S part (ledE S part cut) [(cut, 1)] Ls with
  | none => rw [hgo] at h; cases h
  | some fd' =>
    rw [hgo] at h
    have h : (if (S cut).any (fun fs => decide (2 < totR fd' fs)) then none else some fd') = some fd := h
    by_cases hany : (S cut).any (fun fs => decide (2 < totR fd' fs)) = true
    · rw [if_pos hany] at h; cases h
    rw [if_neg hany] at h
    cases h
    -- the process: from a prefix on
    have go : ∀ (B A : List (List U)) (f : FD), Ls = A ++ B → degGo S part (ledE S part cut) f B = some fd → (∀ u, isK f u ↔ u = cut ∨ u ∈ A.flatten) → degOf f cut = 1 → (∀ u, 0 ≤ degOf f u) →
        (∀ u, isK f u → degOf fd u = degOf f u) ∧ (∀ u, isK fd u ↔ u = cut ∨ u ∈ Ls.flatten) ∧ (∀ u, 0 ≤ degOf fd u) ∧
        ∀ A' g B', B = A' ++ g :: B' → ∃ d : Int, 0 ≤ d ∧ (∀ u ∈ g, degOf fd u = d) ∧ ∀ u ∈ g, ∀ fs ∈ S u, (∃ x ∈ g, (fs.filter fun f => decide (f ∈ part)) = [x]) ∨
          ((∀ x ∈ fs, x ∉ g) ∧ (∀ x ∈ fs.filter fun f => decide (f ∈ part), x ∈ (A ++ A').flatten ∨ x = cut) ∧ ((fs.filter fun f => decide (f ∈ part)).map (degOf fd)).sum ≤ d) := fun B => by
      induction B with
      | nil =>
        intro A f hA hg hk h1 h0
        cases hg
        refine ⟨fun u _ => rfl, fun u => by rw [hk u, hA, List.append_nil], h0, fun A' g B' e => by cases A' <;> cases e⟩
      | cons g B ih =>
        intro A f hA hg hk h1 h0
        rw [degGo_cons] at hg
        obtain ⟨f2, hst, hg2⟩ := Option.bind_eq_some_iff.mp hg
        unfold degStep at hst
        by_cases hbad : (!gdL g part (grT S g) && loopB (ledE S part cut) g) = true
        · rw [if_pos hbad] at hst; cases hst
        rw [if_neg hbad] at hst
        cases hst
        obtain ⟨hgn, ⟨u0, hu0, hcls⟩, hre⟩ := L.ls A g B hA
        have hgk : ∀ u ∈ g, u ∈ besN part cut := fun u hu => ((hcls u).mp hu).1
        have hAg : ∀ u ∈ g, u ∉ A.flatten := fun u hu hz => by
          have := L.nd
          rw [hA, List.flatten_append, List.flatten_cons, List.nodup_append] at this
          exact this.2.2 u hz u (List.mem_append_left _ hu) rfl
        have hgi : ∀ u ∈ g, ¬ isK f u := fun u hu z => by
          rcases (hk u).mp z with e | e
          · exact (besN_mem.mp (hgk u hu)).2 e
          · exact hAg u hu e
        have hd0 : 0 ≤ degG S f g := maxI_le _ 0 (by simp)
        have hd2 : ∀ u, degOf (putAll f g (degG S f g)) u = if u ∈ g then degG S f g else degOf f u := fun u => degOf_putAll
        have hk2 : ∀ u, isK (putAll f g (degG S f g)) u ↔ u = cut ∨ u ∈ (A ++ [g]).flatten := fun u => by
          rw [isK_putAll, hk u, List.flatten_append, List.flatten_singleton, List.mem_append, or_assoc]
        have hcg : cut ∉ g := fun z => (besN_mem.mp (hgk cut z)).2 rfl
        obtain ⟨r1, r2, r3, r4⟩ := ih (A ++ [g]) _ (by rw [hA]; simp) hg2 hk2 (by rw [hd2, if_neg hcg]; exact h1) (fun u => by rw [hd2]; split; exact hd0; exact h0 u)
        have keep : ∀ u, isK f u → degOf fd u = degOf f u := fun u hu => by
          have hug : u ∉ g := fun z => hgi u z hu
          rw [r1 u (isK_putAll.mpr (.inl hu)), hd2, if_neg hug]
        refine ⟨keep, r2, r3, fun A' g' B' e => ?_⟩
        cases A' with
        | cons a A' =>
          rw [List.cons_append] at e
          obtain ⟨e1, e2⟩ := List.cons.inj e
          subst e1
          obtain ⟨d, q1, q2, q3⟩ := r4 A' g' B' e2
          refine ⟨d, q1, q2, fun u hu fs hfs => ?_⟩
          rw [show A ++ g :: A' = (A ++ [g]) ++ A' by simp]
          exact q3 u hu fs hfs
        | nil =>
          rw [List.nil_append] at e
          obtain ⟨e1, e2⟩ := List.cons.inj e
          subst e1 e2
          refine ⟨degG S f g, hd0, fun u hu => ?_, fun u hu fs hfs => ?_⟩
          · rw [r1 u (isK_putAll.mpr (.inr hu)), hd2, if_pos hu]
          · rw [List.append_nil]
            have huk := hgk u hu
            have hgrt : fs ∈ grT S g := List.mem_flatMap.mpr ⟨u, hu, hfs⟩
            by_cases hin : inT g fs = true
            · left
              obtain ⟨x, hx, hxg⟩ := List.any_eq_true.mp hin
              have hxg : x ∈ g := of_decide_eq_true hxg
              have hxp := (besN_mem.mp (hgk x hxg)).1
              have hmem : x ∈ fs.filter fun f => decide (f ∈ part) := List.mem_filter.mpr ⟨hx, decide_eq_true hxp⟩
              refine ⟨x, hxg, ?_⟩
              have hlen : (fs.filter fun f => decide (f ∈ part)).length ≤ 1 := by
                cases hgd : gdL g part (grT S g) with
                | true =>
                  unfold gdL at hgd
                  rw [List.all_eq_true] at hgd
                  have := hgd fs hgrt
                  rw [hin] at this
                  simpa using this
                | false =>
                  rw [hgd] at hbad
                  have hlp : loopB (ledE S part cut) g = false := by simpa using hbad
                  exfalso
                  match g, hlp, hu, hxg with
                  | [], _, hu, _ => exact nomatch hu
                  | a :: t, hlp, hu, hxg =>
                    have hlp : (decide (1 < (a :: t).length) || decide (a ∈ ledE S part cut a)) = false := hlp
                    rw [Bool.or_eq_false_iff, decide_eq_false_iff_not, decide_eq_false_iff_not] at hlp
                    obtain ⟨l1, l2⟩ := hlp
                    have ht : t = [] := List.eq_nil_of_length_eq_zero (by simp at l1; exact List.length_eq_zero_iff.mpr l1)
                    subst ht
                    rw [List.mem_singleton] at hu hxg
                    subst hu hxg
                    exact l2 (led_mem hfs hx hxp (besN_mem.mp huk).2)
              match hfl : fs.filter fun f => decide (f ∈ part), hmem, hlen with
              | [], hm, _ => exact nomatch hm
              | [y], hm, _ => rw [List.mem_singleton] at hm; rw [hm]
              | y :: z :: l, _, hl => simp at hl
            · right
              have hno : ∀ x ∈ fs, x ∉ g := fun x hx hxg => hin (List.any_eq_true.mpr ⟨x, hx, decide_eq_true hxg⟩)
              have hAc : ∀ x ∈ fs.filter fun f => decide (f ∈ part), x ∈ A.flatten ∨ x = cut := fun x hx => by
                obtain ⟨x1, x2⟩ := List.mem_filter.mp hx
                have x2 : x ∈ part := of_decide_eq_true x2
                by_cases c : x = cut
                · exact .inr c
                · left
                  have hxE := led_mem hfs x1 x2 c
                  have := (mem_reachR G huk x).mpr (.one hxE)
                  rcases hre u hu x this with z | z
                  · exact absurd z (hno x x1)
                  · exact z
              refine ⟨hno, hAc, ?_⟩
              have hle : totR f fs ≤ degG S f g := by
                refine maxI_le _ _ (List.mem_cons_of_mem _ (List.mem_map_of_mem ?_))
                refine List.mem_filter.mpr ⟨hgrt, ?_⟩
                simpa using hin
              have e1 : totR f fs = ((fs.filter fun f => decide (f ∈ part)).map (degOf f)).sum := by
                unfold totR
                refine sum_filter fun x hx hp => degOf_not fun z => ?_
                have hp : x ∉ part := by simpa using hp
                rcases (hk x).mp z with e | e
                · exact hp (e ▸ hc)
                · have : x ∈ Ls.flatten := by rw [hA, List.flatten_append]; exact List.mem_append_left _ e
                  exact hp (besN_mem.mp ((L.cov x).mp this)).1
              have e2 : (fs.filter fun f => decide (f ∈ part)).map (degOf fd) = (fs.filter fun f => decide (f ∈ part)).map (degOf f) := List.map_congr_left fun x hx => keep x ((hk x).mpr (by
                rcases hAc x hx with z | z
                · exact .inr z
                · exact .inl z))
              rw [e2, ← e1]
              exact hle
    obtain ⟨r1, r2, r3, r4⟩ := go Ls [] [(cut, 1)] (by simp) hgo (fun u => by
      unfold isK
      by_cases c : cut = u
      · simp [c]
      · have : ¬ u = cut := fun z => c z.symm
        simp [c, this]) (by unfold degOf; simp) (fun u => by
      unfold degOf
      by_cases c : cut = u
      · simp [c]
      · simp [c])
    refine ⟨?_, fun A g B e => ?_, fun fs hfs => ?_, fun u hu => ?_⟩
    · rw [r1 cut (by unfold isK; simp)]
      unfold degOf; simp
    · have := r4 A g B e
      rw [List.nil_append] at this
      exact this
    · have h1 : ¬ 2 < totR fd fs := fun z => hany (List.any_eq_true.mpr ⟨fs, hfs, decide_eq_true z⟩)
      have e1 : totR fd fs = ((fs.filter fun f => decide (f ∈ part)).map (degOf fd)).sum := by
        unfold totR
        refine sum_filter fun x hx hp => degOf_not fun z => ?_
        have hp : x ∉ part := by simpa using hp
        rcases (r2 x).mp z with e | e
        · exact hp (e ▸ hc)
        · exact hp (besN_mem.mp ((L.cov x).mp e)).1
      omega
    · rw [r2 u]
      by_cases c : u = cut
      · exact .inl c
      · exact .inr ((L.cov u).mpr (besN_mem.mpr ⟨hu, c⟩))
end Od
namespace Od
theorem lgrp_eq {us : List U} {T : U → List Term} (GS : SG us (tS T)) {part : List U} {cut : U} (hp : ∀ u ∈ part, u ∈ us) (hn : part.Nodup) : lgrpR T part cut = blocksR (besN part cut) (ledE (tS T) part cut) := by
  have G := led_gr GS (cut := cut) hp hn
  have hl : (besN part cut).length ≤ part.length := List.length_filter_le _ _
  rw [(blocks_lst G).1]
  unfold lgrpR lpartsR
  have e := (lp_same (us := besN part cut) (R := lledR T part cut) (R' := reachR (besN part cut) (ledE (tS T) part cut)) (fun u hu x => by
    rw [mem_reachR G hu x]
    exact mem_llN G.sub hl hu x) part.length).1
  rw [e, lp_len (RT.reach G) hl (Nat.le_refl _)]
section
variable {us : List U} {T : U → List Term} {part : List U} {cut : U} {fd : FD}
/-- a part is a class -/
theorem part_cls (GS : SG us (tS T)) (hpart : part ∈ blocksR us (facR (tS T))) : part.Nodup ∧ (∀ u ∈ part, u ∈ us) ∧ (∀ x ∈ part, ∀ y ∈ part, x ≠ y → Rch (facR (tS T)) x y) ∧ ∀ x ∈ part, ∀ y ∈ part, ∀ z, Rch (facR (tS T)) x z → Rch (facR (tS T)) z y → z ∈ part := by
  obtain ⟨_, L⟩ := blocks_lst GS.gr
  obtain ⟨A, B, e⟩ := List.append_of_mem hpart
  obtain ⟨hn, ⟨u0, hu0, hcls⟩, _⟩ := L.ls A part B e
  have hsub : ∀ u ∈ part, u ∈ us := fun u hu => ((hcls u).mp hu).1
  have to0 : ∀ x ∈ part, x = u0 ∨ (Rch (facR (tS T)) u0 x ∧ Rch (facR (tS T)) x u0) := fun x hx => by
    rcases eqB_iff.mp ((hcls x).mp hx).2 with q | ⟨a, b⟩
    · exact .inl q
    · exact .inr ⟨(mem_reachR GS.gr (hsub u0 hu0) x).mp a, (mem_reachR GS.gr (hsub x hx) u0).mp b⟩
  refine ⟨hn, hsub, fun x hx y hy hne => ?_, fun x hx y hy z h1 h2 => ?_⟩
  · rcases to0 x hx with a | ⟨a1, a2⟩
    · rcases to0 y hy with b | ⟨b1, b2⟩
      · exact absurd (a.trans b.symm) hne
      · rw [a]; exact b1
    · rcases to0 y hy with b | ⟨b1, b2⟩
      · rw [b]; exact a2
      · exact a2.trans b1
  · have zu : z ∈ us := h1.sub GS.gr.sub (hsub x hx)
    have r1 : Rch (facR (tS T)) u0 z := by
      rcases to0 x hx with a | ⟨a1, a2⟩
      · rw [← a]; exact h1
      · exact a1.trans h1
    have r2 : Rch (facR (tS T)) z u0 := by
      rcases to0 y hy with a | ⟨a1, a2⟩
      · rw [← a]; exact h2
      · exact h2.trans a2
    exact (hcls z).mpr ⟨zu, eqB_iff.mpr (.inr ⟨(mem_reachR GS.gr (hsub u0 hu0) z).mpr r1, (mem_reachR GS.gr zu u0).mpr r2⟩)⟩
theorem fac_mem {x y : U} (h : y ∈ facR (tS T) x) : ∃ fs ∈ tS T x, y ∈ fs := by
  obtain ⟨fs, h1, h2⟩ := List.mem_flatMap.mp h
  exact ⟨fs, h1, h2⟩
theorem Cert.nonneg {S : U → List (List U)} {Ls : List (List U)} (C : Cert S part cut fd Ls) (hcov : ∀ x, x ∈ Ls.flatten ↔ x ∈ besN part cut) : ∀ u ∈ part, 0 ≤ degOf fd u := fun u hu => by
  by_cases c : u = cut
  · rw [c, C.c2]; decide
  · obtain ⟨g, hg, hug⟩ := List.mem_flatten.mp ((hcov u).mpr (besN_mem.mpr ⟨hu, c⟩))
    obtain ⟨A, B, e⟩ := List.append_of_mem hg
    obtain ⟨d, h0, h1, _⟩ := C.c3 A g B e
    rw [h1 u hug]; exact h0
/-- along an edge inside the part -/
theorem Cert.edge {Ls : List (List U)} (C : Cert (tS T) part cut fd Ls) (hcov : ∀ x, x ∈ Ls.flatten ↔ x ∈ besN part cut) {x y : U} (hx : x ∈ part) (hy : y ∈ part) (h : y ∈ facR (tS T) x) : (x = cut → degOf fd y ≤ 2) ∧ (x ≠ cut → degOf fd y ≤ degOf fd x) := by
  obtain ⟨fs, h1, h2⟩ := fac_mem h
  have hym : y ∈ fs.filter fun f => decide (f ∈ part) := List.mem_filter.mpr ⟨h2, decide_eq_true hy⟩
  have hnn := C.nonneg hcov
  have hle := (le_sum (f := degOf fd) (l := fs.filter fun f => decide (f ∈ part)) fun z hz => hnn z (of_decide_eq_true (List.mem_filter.mp hz).2)).2 y hym
  refine ⟨fun e => ?_, fun hc => ?_⟩
  · subst e
    have := C.c4 fs h1
    omega
  · obtain ⟨g, hg, hug⟩ := List.mem_flatten.mp ((hcov x).mpr (besN_mem.mpr ⟨hx, hc⟩))
    obtain ⟨A, B, e⟩ := List.append_of_mem hg
    obtain ⟨d, h0, hd, ht⟩ := C.c3 A g B e
    rw [hd x hug]
    rcases ht x hug fs h1 with ⟨f, hf, ef⟩ | ⟨_, _, hs⟩
    · rw [ef, List.mem_singleton] at hym
      rw [hym, hd f hf]
      exact Int.le_refl _
    · omega
theorem deg_range (GS : SG us (tS T)) (hpart : part ∈ blocksR us (facR (tS T))) (hc : cut ∈ part) {Ls : List (List U)} (C : Cert (tS T) part cut fd Ls) (hcov : ∀ x, x ∈ Ls.flatten ↔ x ∈ besN part cut) : ∀ u ∈ part, 1 ≤ degOf fd u ∧ degOf fd u ≤ 2 := by
  obtain ⟨hn, hsub, hst, hcl⟩ := part_cls GS hpart
  have lower : ∀ {x y : U}, Rch (facR (tS T)) x y → y = cut → x ∈ part → 1 ≤ degOf fd x := fun {x y} h => by
    induction h with
    | @one x y a =>
      intro hy hx
      subst hy
      by_cases c : x = y
      · rw [c, C.c2]; decide
      · have := (C.edge hcov hx hc a).2 c
        rw [C.c2] at this; exact this
    | @step x z y a b ih =>
      intro hy hx
      subst hy
      by_cases c : x = y
      · rw [c, C.c2]; decide
      · have hz : z ∈ part := hcl x hx y hc z (.one a) b
        have h1 := ih rfl hz
        have := (C.edge hcov hx hz a).2 c
        omega
  have upper : ∀ {x y : U}, Rch (facR (tS T)) x y → x ∈ part → y ∈ part → degOf fd x ≤ 2 → degOf fd y ≤ 2 := fun {x y} h => by
    induction h with
    | @one x y a =>
      intro hx hy h2
      by_cases c : x = cut
      · exact (C.edge hcov hx hy a).1 c
      · have := (C.edge hcov hx hy a).2 c
        omega
    | @step x z y a b ih =>
      intro hx hy h2
      have hz : z ∈ part := hcl x hx y hy z (.one a) b
      refine ih hz hy ?_
      by_cases c : x = cut
      · exact (C.edge hcov hx hz a).1 c
      · have := (C.edge hcov hx hz a).2 c
        omega
  intro u hu
  by_cases c : u = cut
  · rw [c, C.c2]; decide
  · exact ⟨lower (hst u hu cut hc c) rfl hu, upper (hst cut hc u hu fun z => c z.symm) hc hu (by rw [C.c2]; decide)⟩
/-- all that the law's run asks of the groups -/
theorem cut_chain (GS : SG us (tS T)) (hpart : part ∈ blocksR us (facR (tS T))) (hc : cut ∈ part) (hd : degR (tS T) part cut = some fd) :
    Chain T part cut (fun u => (degOf fd u).toNat) [] (lgrpR T part cut) ∧ (∀ u ∈ part, u ≠ cut → u ∈ (lgrpR T part cut).flatten) ∧ (∀ b ∈ lgrpR T part cut, b.Nodup ∧ ∀ u ∈ b, u ∈ part) ∧
    degOf fd cut = 1 ∧ (∀ u ∈ part, degOf fd u = 1 ∨ degOf fd u = 2) ∧ (∀ t ∈ T cut, ((pf part t).map fun u => (degOf fd u).toNat).sum ≤ 2) ∧ (∀ u ∈ part, isK fd u) := by
  obtain ⟨hn, hsub, hst, hcl⟩ := part_cls GS hpart
  have G := led_gr GS (cut := cut) hsub hn
  have C := cert hn hc G hd
  obtain ⟨_, L⟩ := blocks_lst G
  rw [lgrp_eq GS hsub hn]
  generalize blocksR (besN part cut) (ledE (tS T) part cut) = Ls at *
  have hnn := C.nonneg L.cov
  have hrg := deg_range GS hpart hc C L.cov
  have sumEq : ∀ fs : List U, (((fs.filter fun f => decide (f ∈ part)).map fun u => (degOf fd u).toNat).sum : Int) = ((fs.filter fun f => decide (f ∈ part)).map (degOf fd)).sum := fun fs =>
    sum_nat fun x hx => hnn x (of_decide_eq_true (List.mem_filter.mp hx).2)
  have inS : ∀ {u : U} {t : Term}, t ∈ T u → t.2 ∈ tS T u := fun h => List.mem_map_of_mem h
  refine ⟨?_, fun u hu hne => (L.cov u).mpr (besN_mem.mpr ⟨hu, hne⟩), fun b hb => ?_, C.c2, fun u hu => by have := hrg u hu; omega, fun t ht => ?_, C.c5⟩
  · have go : ∀ (B A : List (List U)), Ls = A ++ B → Chain T part cut (fun u => (degOf fd u).toNat) A.flatten B := fun B => by
      induction B with
      | nil => exact fun A _ => .nil _
      | cons g B ih =>
        intro A e
        obtain ⟨hgn, ⟨u0, hu0, hcls⟩, _⟩ := L.ls A g B e
        have hgk : ∀ u ∈ g, u ∈ besN part cut := fun u hu => ((hcls u).mp hu).1
        have hAg : ∀ u ∈ g, u ∉ A.flatten := fun u hu hz => by
          have := L.nd
          rw [e, List.flatten_append, List.flatten_cons, List.nodup_append] at this
          exact this.2.2 u hz u (List.mem_append_left _ hu) rfl
        obtain ⟨d, h0, hdu, ht⟩ := C.c3 A g B e
        have hd2 : d ≤ 2 := by
          have := (hrg u0 (besN_mem.mp (hgk u0 hu0)).1).2
          rw [hdu u0 hu0] at this
          exact this
        refine .cons _ g B d.toNat (by omega) ⟨hgn, fun u hu => ⟨(besN_mem.mp (hgk u hu)).1, (besN_mem.mp (hgk u hu)).2, hAg u hu, by rw [hdu u hu]⟩, fun u hu t htu => ?_⟩ ?_
        · rcases ht u hu t.2 (inS htu) with q | ⟨q1, q2, q3⟩
          · exact .inl q
          · refine .inr ⟨q1, q2, ?_⟩
            have := sumEq t.2
            show ((t.2.filter fun f => decide (f ∈ part)).map fun u => (degOf fd u).toNat).sum ≤ d.toNat
            omega
        · have := ih (A ++ [g]) (by rw [e]; simp)
          rw [List.flatten_append, List.flatten_singleton] at this
          exact this
    exact go Ls [] rfl
  · obtain ⟨A, B, e⟩ := List.append_of_mem hb
    obtain ⟨hgn, ⟨u0, hu0, hcls⟩, _⟩ := L.ls A b B e
    exact ⟨hgn, fun u hu => (besN_mem.mp ((hcls u).mp hu).1).1⟩
  · have := C.c4 t.2 (inS ht)
    have := sumEq t.2
    show ((t.2.filter fun f => decide (f ∈ part)).map fun u => (degOf fd u).toNat).sum ≤ 2
    omega
end
end Od
namespace Od
theorem menu_60 : ∀ row ∈ menu, ∀ q ∈ row, ∃ k : Int, q * 60 = (k : Rat) ∧ k.natAbs ≤ 60 := by
  have h : ∀ row ∈ menu, ∀ q ∈ row, (q * 60).den = 1 ∧ (q * 60).num.natAbs ≤ 60 := by decide +kernel
  intro row hr q hq
  obtain ⟨a, b⟩ := h row hr q hq
  exact ⟨(q * 60).num, Rat.ext rfl a, b⟩
def IsCh (q : Rat) : Prop := ∃ k : Int, q * 60 = (k : Rat) ∧ k.natAbs ≤ 60
theorem term_form {ps : List Proc} (G : GoodP ps) {u : U} (hu : InU ps u) {t : Term} (ht : t ∈ termsR ps u) : (IsCh t.1 ∧ t.2.length ≤ 1) ∨ (t.1 = 1 ∧ t.2.length ≤ 2) := by
  obtain ⟨p, hp, pm⟩ := ptAt_at hu
  obtain ⟨q1, q2, q3, q4, qt⟩ := G.each _ (prAt_mem hu.1 hu.2.1)
  have ok := qt p pm
  unfold termsR at ht
  rw [hp] at ht
  cases p with
  | draw bs =>
    obtain ⟨b, hb, rfl⟩ := List.mem_map.mp ht
    exact .inl ⟨menu_60 _ ok.1 _ (List.mem_map_of_mem hb), Nat.le_refl 1⟩
  | reward a x =>
    have : t = (1, [(u.1, x, u.2.2)]) := by simpa using ht
    rw [this]; exact .inr ⟨rfl, by show 1 ≤ 2; decide⟩
  | call r gs =>
    rcases List.mem_append.mp ht with z | z
    · obtain ⟨e, _, rfl⟩ := List.mem_map.mp z
      exact .inr ⟨rfl, Nat.le_refl 2⟩
    · split at z
      · have : t = (1, [(r, 0, (prAt ps r).1 + u.2.2 - (prAt ps u.1).1)]) := by simpa using z
        rw [this]; exact .inr ⟨rfl, by show 1 ≤ 2; decide⟩
      · cases z
  | exit e =>
    simp only at ht
    split at ht
    · have : t = (1, []) := by simpa using ht
      rw [this]; exact .inr ⟨rfl, by decide⟩
    · cases ht
  | reject =>
    simp only at ht
    split at ht
    · have : t = (1, []) := by simpa using ht
      rw [this]; exact .inr ⟨rfl, by decide⟩
    · cases ht
  | stop =>
    simp only at ht
    split at ht
    · have : t = (1, []) := by simpa using ht
      rw [this]; exact .inr ⟨rfl, by decide⟩
    · cases ht
def lowU (ps : List Proc) (u : U) : Prop := u.2.2 < (prAt ps u.1).1
theorem low_term {ps : List Proc} {u : U} {t : Term} (ht : t ∈ termsR ps u) (hl : lowU ps u) : ∀ f ∈ t.2, lowU ps f := by
  unfold termsR at ht
  intro f hf
  cases hp : ptAt ps u with
  | none => rw [hp] at ht; cases ht
  | some p =>
    rw [hp] at ht
    cases p with
    | draw bs =>
      obtain ⟨b, hb, rfl⟩ := List.mem_map.mp ht
      have : f = (u.1, b.2, u.2.2) := by simpa using hf
      rw [this]; exact hl
    | reward a x =>
      have : t = (1, [(u.1, x, u.2.2)]) := by simpa using ht
      rw [this] at hf
      have : f = (u.1, x, u.2.2) := by simpa using hf
      rw [this]; exact hl
    | call r gs =>
      rcases List.mem_append.mp ht with z | z
      · obtain ⟨e, he, rfl⟩ := List.mem_map.mp z
        have he := List.mem_range.mp he
        have : f = (r, 0, (e : Int)) ∨ f = (u.1, gs.getD e 0, u.2.2) := by simpa using hf
        rcases this with q | q
        · rw [q]
          show (e : Int) < (prAt ps r).1
          omega
        · rw [q]; exact hl
      · split at z
        · rename_i c
          unfold lowU at hl
          omega
        · cases z
    | exit e =>
      simp only at ht
      split at ht
      · have : t = (1, []) := by simpa using ht
        rw [this] at hf; exact nomatch hf
      · cases ht
    | reject =>
      simp only at ht
      split at ht
      · have : t = (1, []) := by simpa using ht
        rw [this] at hf; exact nomatch hf
      · cases ht
    | stop =>
      simp only at ht
      split at ht
      · have : t = (1, []) := by simpa using ht
        rw [this] at hf; exact nomatch hf
      · cases ht
theorem two_low {ps : List Proc} {u : U} {t : Term} (ht : t ∈ termsR ps u) {a b : U} (e : t.2 = [a, b]) : lowU ps a := by
  unfold termsR at ht
  cases hp : ptAt ps u with
  | none => rw [hp] at ht; cases ht
  | some p =>
    rw [hp] at ht
    cases p with
    | draw bs =>
      obtain ⟨x, hb, rfl⟩ := List.mem_map.mp ht
      cases e
    | reward c x =>
      have : t = (1, [(u.1, x, u.2.2)]) := by simpa using ht
      rw [this] at e; cases e
    | call r gs =>
      rcases List.mem_append.mp ht with z | z
      · obtain ⟨k, he, rfl⟩ := List.mem_map.mp z
        have he := List.mem_range.mp he
        cases e
        show (k : Int) < (prAt ps r).1
        omega
      · split at z
        · have : t = (1, [(r, 0, (prAt ps r).1 + u.2.2 - (prAt ps u.1).1)]) := by simpa using z
          rw [this] at e; cases e
        · cases z
    | exit k =>
      simp only at ht
      split at ht
      · have : t = (1, []) := by simpa using ht
        rw [this] at e; cases e
      · cases ht
    | reject =>
      simp only at ht
      split at ht
      · have : t = (1, []) := by simpa using ht
        rw [this] at e; cases e
      · cases ht
    | stop =>
      simp only at ht
      split at ht
      · have : t = (1, []) := by simpa using ht
        rw [this] at e; cases e
      · cases ht
def box20 : List U := (List.range 2).flatMap fun p => (List.range 5).flatMap fun i => (List.range 2).map fun w => (((p : Nat) : Int), ((i : Nat) : Int), ((w : Nat) : Int))
theorem box20_len : box20.length = 20 := by decide
theorem low_box {ps : List Proc} (G : GoodP ps) {u : U} (hu : InU ps u) (hl : lowU ps u) : u ∈ box20 := by
  obtain ⟨h1, h2, h3, h4, h5, h6⟩ := hu
  obtain ⟨q1, q2, q3, q4, _⟩ := G.each _ (prAt_mem h1 h2)
  have := G.len
  unfold lowU at hl
  unfold box20
  rw [List.mem_flatMap]
  refine ⟨u.1.toNat, List.mem_range.mpr (by omega), ?_⟩
  rw [List.mem_flatMap]
  refine ⟨u.2.1.toNat, List.mem_range.mpr (by omega), ?_⟩
  rw [List.mem_map]
  refine ⟨u.2.2.toNat, List.mem_range.mpr (by omega), ?_⟩
  obtain ⟨a, b, c⟩ := u
  simp only [Prod.mk.injEq]
  simp only at h1 h3 h5
  omega
theorem liv_in {ps : List Proc} {u : U} (h : u ∈ livU ps) : InU ps u := mem_unkR.mp (List.mem_filter.mp h).1
theorem livT_sub {ps : List Proc} {u : U} {t : Term} (h : t ∈ livT ps u) : t ∈ termsR ps u := (List.mem_filter.mp h).1
theorem curved_len {ps : List Proc} (G : GoodP ps) {part : List U} (hpart : part ∈ blocksR (livU ps) (facR (tS (livT ps)))) (GS : SG (livU ps) (tS (livT ps))) (hc : curvR (tS (livT ps)) part = true) : part.length ≤ 20 := by
  obtain ⟨hn, hsub, hst, _⟩ := part_cls GS hpart
  have edge : ∀ {x y : U}, Rch (facR (tS (livT ps))) x y → lowU ps x → lowU ps y := fun {x y} h => by
    induction h with
    | one a =>
      intro hl
      obtain ⟨fs, h1, h2⟩ := fac_mem a
      obtain ⟨t, ht, rfl⟩ := List.mem_map.mp h1
      exact low_term (livT_sub ht) hl _ h2
    | step a _ ih =>
      intro hl
      obtain ⟨fs, h1, h2⟩ := fac_mem a
      obtain ⟨t, ht, rfl⟩ := List.mem_map.mp h1
      exact ih (low_term (livT_sub ht) hl _ h2)
  unfold curvR at hc
  obtain ⟨u, hu, h1⟩ := List.any_eq_true.mp hc
  obtain ⟨fs, hfs, h2⟩ := List.any_eq_true.mp h1
  obtain ⟨t, ht, e⟩ := List.mem_map.mp hfs
  match fs, h2, e with
  | [a, b], h2, e =>
    have h2 : (decide (a ∈ part) && decide (b ∈ part)) = true := h2
    rw [Bool.and_eq_true, decide_eq_true_eq, decide_eq_true_eq] at h2
    have hla : lowU ps a := two_low (livT_sub ht) e
    have := nodup_len hn (m := box20) fun x hx => by
      refine low_box G (liv_in (hsub x hx)) ?_
      by_cases c : a = x
      · rw [← c]; exact hla
      · exact edge (hst a h2.1 x hx c) hla
    rw [box20_len] at this
    exact this
  | [], h2, _ => cases h2
  | [_], h2, _ => cases h2
  | _ :: _ :: _ :: _, h2, _ => cases h2
theorem giv_2520 {lv : List U} {V : U → Rat} (h : GivOK lv V) {u : U} (hu : u ∈ lv) : Fr 9 9 (V u) ∧ ∃ v : Int, V u * 2520 = (v : Rat) ∧ v.natAbs ≤ 4200 := by
  obtain ⟨a, b, a0, a1, b0, b1, e⟩ := h u hu
  have key : ∀ a b : Int, (a = 0 ∨ a = 1 ∨ a = 2 ∨ a = 3 ∨ a = 4) → (b = 0 ∨ b = 1 ∨ b = 2 ∨ b = 3 ∨ b = 4 ∨ b = 5 ∨ b = 6) → (Rat.divInt (1 + a) (3 + b)).num.natAbs ≤ 9 ∧ (Rat.divInt (1 + a) (3 + b)).den ≤ 9 ∧ (Rat.divInt (1 + a) (3 + b) * 2520).den = 1 ∧ (Rat.divInt (1 + a) (3 + b) * 2520).num.natAbs ≤ 4200 := by
    intro a b ha hb
    rcases ha with rfl | rfl | rfl | rfl | rfl <;> rcases hb with rfl | rfl | rfl | rfl | rfl | rfl | rfl <;> decide +kernel
  obtain ⟨k1, k2, k3, k4⟩ := key a b (by omega) (by omega)
  rw [← e] at k1 k2 k3 k4
  refine ⟨⟨(V u).num, ((V u).den : Int), by have := (V u).den_nz; omega, k1, by rw [Int.natAbs_natCast]; exact k2, ?_⟩, ⟨(V u * 2520).num, Rat.ext rfl k3, k4⟩⟩
  have h1 : V u = ((V u).num : Rat) / ((V u).den : Rat) := by
    have := Rat.num_divInt_den (V u)
    rw [Rat.divInt_eq_div] at this
    exact this.symm
  have h2 : ((V u).den : Rat) ≠ 0 := fun z => (V u).den_nz (Rat.natCast_eq_zero_iff.mp z)
  rw [Rat.intCast_natCast]
  generalize ((V u).num : Rat) = x at *
  generalize ((V u).den : Rat) = y at *
  rw [h1]
  grind
theorem kap_int {V : U → Rat} {part : List U} {t : Term} (hf : (IsCh t.1 ∧ t.2.length ≤ 1) ∨ (t.1 = 1 ∧ t.2.length ≤ 2)) (hV : ∀ f ∈ t.2, ∃ v : Int, V f * 2520 = (v : Rat) ∧ v.natAbs ≤ 4200) :
    kap part V t * ((N0 : Nat) : Rat) = (kk part V t : Rat) ∧ (kk part V t).natAbs ≤ K0 := by
  have fin : (∃ k : Int, kap part V t * ((N0 : Nat) : Rat) = (k : Rat) ∧ k.natAbs ≤ K0) → kap part V t * ((N0 : Nat) : Rat) = (kk part V t : Rat) ∧ (kk part V t).natAbs ≤ K0 := by
    rintro ⟨k, e, h⟩
    have : kk part V t = k := by unfold kk; rw [e]; rfl
    rw [this]; exact ⟨e, h⟩
  apply fin
  have hN : ((N0 : Nat) : Rat) = 6350400 := rfl
  have hlen : (t.2.filter fun f => !decide (f ∈ part)).length ≤ t.2.length := List.length_filter_le _ _
  have hVo : ∀ f ∈ t.2.filter (fun f => !decide (f ∈ part)), ∃ v : Int, V f * 2520 = (v : Rat) ∧ v.natAbs ≤ 4200 := fun f hf => hV f (List.mem_filter.mp hf).1
  unfold kap
  rw [hN]
  generalize t.2.filter (fun f => !decide (f ∈ part)) = l at *
  have i6 : ((2520 : Int) : Rat) = 2520 := rfl
  have i42 : ((42 : Int) : Rat) = 42 := rfl
  have i60 : ((6350400 : Int) : Rat) = 6350400 := rfl
  rcases hf with ⟨⟨k, ek, hk⟩, h1⟩ | ⟨h1, h2⟩
  · match l, hlen, hVo with
    | [], _, _ =>
      refine ⟨k * (42 * 2520), ?_, ?_⟩
      · show t.1 * 1 * 6350400 = _
        rw [Rat.intCast_mul, ← ek, Rat.intCast_mul, i6, i42]; grind
      · rw [Int.natAbs_mul]
        exact Nat.le_trans (Nat.mul_le_mul hk (Nat.le_refl _)) (by decide)
    | [f], _, hVo =>
      obtain ⟨v, ev, hv⟩ := hVo f (by simp)
      refine ⟨k * (42 * v), ?_, ?_⟩
      · show t.1 * (V f * 1) * 6350400 = _
        rw [Rat.intCast_mul, ← ek, Rat.intCast_mul, ← ev, i42]; grind
      · rw [Int.natAbs_mul, Int.natAbs_mul]
        exact Nat.le_trans (Nat.mul_le_mul hk (Nat.mul_le_mul (Nat.le_refl _) hv)) (by decide)
    | f :: g :: l, hlen, _ => simp at hlen; omega
  · rw [h1]
    match l, hlen, hVo with
    | [], _, _ =>
      refine ⟨6350400, ?_, by decide⟩
      show (1 : Rat) * 1 * 6350400 = _
      rw [i60]; grind
    | [f], _, hVo =>
      obtain ⟨v, ev, hv⟩ := hVo f (by simp)
      refine ⟨v * 2520, ?_, ?_⟩
      · show (1 : Rat) * (V f * 1) * 6350400 = _
        rw [Rat.intCast_mul, ← ev, i6]; grind
      · rw [Int.natAbs_mul]
        exact Nat.le_trans (Nat.mul_le_mul hv (Nat.le_refl _)) (by decide)
    | [f, g], _, hVo =>
      obtain ⟨v, ev, hv⟩ := hVo f (by simp)
      obtain ⟨w, ew, hw⟩ := hVo g (by simp)
      refine ⟨v * w, ?_, ?_⟩
      · show (1 : Rat) * (V f * (V g * 1)) * 6350400 = _
        rw [Rat.intCast_mul, ← ev, ← ew]; grind
      · rw [Int.natAbs_mul]
        exact Nat.le_trans (Nat.mul_le_mul hv hw) (by decide)
    | f :: g :: h :: l, hlen, _ => simp at hlen; omega
theorem co_ok {t : Term} (hf : (IsCh t.1 ∧ t.2.length ≤ 1) ∨ (t.1 = 1 ∧ t.2.length ≤ 2)) : Fr 60 60 t.1 := by
  rcases hf with ⟨⟨k, ek, hk⟩, _⟩ | ⟨h, _⟩
  · exact ⟨k, 60, by decide, hk, by decide, ek⟩
  · rw [h]
    have i1 : ((1 : Int) : Rat) = 1 := rfl
    exact ⟨1, 1, by decide, by decide, by decide, by rw [i1]; grind⟩
/-- the plain law -/
theorem plain_law : PlainLaw := fun ps V G hV => by
  have GS : SG (livU ps) (tS (livT ps)) := by rw [tS_liv]; exact sysG G
  refine ⟨?_, fun part hpart cut hcut => ?_⟩
  · show _ = blocksR (livU ps) (facR (sysF ps))
    rw [← tS_liv, (blocks_lst GS.gr).1]
    unfold lpartsR
    rw [(lp_same (us := livU ps) (R := lreach (livU ps).length (facR (tS (livT ps)))) (R' := reachR (livU ps) (facR (tS (livT ps)))) (fun u hu x => by
      rw [mem_reachR GS.gr hu x]
      exact mem_lreach GS.gr.sub hu x) (livU ps).length).1]
  · have hpart2 : part ∈ blocksR (livU ps) (facR (tS (livT ps))) := by rw [tS_liv]; exact hpart
    obtain ⟨hn, hsub, _, _⟩ := part_cls GS hpart2
    unfold cutsR at hcut
    have hcv : curvR (sysF ps) part = true := by
      cases h : curvR (sysF ps) part with
      | true => rfl
      | false => rw [h] at hcut; cases hcut
    rw [if_pos hcv] at hcut
    obtain ⟨hcp, hsome⟩ := List.mem_filter.mp hcut
    obtain ⟨fd, hfd⟩ := Option.isSome_iff_exists.mp hsome
    have hfd2 : degR (tS (livT ps)) part cut = some fd := by rw [tS_liv]; exact hfd
    obtain ⟨hch, hall, hgs, hd1, hd12, hdc, hk⟩ := cut_chain GS hpart2 hcp hfd2
    have hlen := curved_len G hpart2 GS (by rw [tS_liv]; exact hcv)
    have hliv : ∀ u ∈ part, ∀ t ∈ livT ps u, ∀ f ∈ t.2, f ∈ livU ps := fun u hu t ht f hf => GS.sub u (hsub u hu) t.2 (List.mem_map_of_mem ht) f hf
    have hform : ∀ u ∈ part, ∀ t ∈ livT ps u, (IsCh t.1 ∧ t.2.length ≤ 1) ∨ (t.1 = 1 ∧ t.2.length ≤ 2) := fun u hu t ht => term_form G (liv_in (hsub u hu)) (livT_sub ht)
    have hkap : ∀ u ∈ part, ∀ t ∈ livT ps u, kap part V t * ((N0 : Nat) : Rat) = (kk part V t : Rat) ∧ (kk part V t).natAbs ≤ K0 := fun u hu t ht => kap_int (hform u hu t ht) fun f hf => (giv_2520 hV (hliv u hu t ht f hf)).2
    have S : SysOK (livT ps) part cut V (fun u => (degOf fd u).toNat) := ⟨hn, hlen, hcp, fun u hu => Nat.le_trans (List.length_filter_le _ _) (terms_few G (liv_in (hsub u hu))).1, fun u hu t ht => (terms_few G (liv_in (hsub u hu))).2 t (livT_sub ht), fun u hu t ht => co_ok (hform u hu t ht),
      fun u hu t ht f hf => (giv_2520 hV (hliv u hu t ht f hf)).1, fun u hu t ht => (hkap u hu t ht).1, fun u hu t ht => (hkap u hu t ht).2, by show (degOf fd cut).toNat = 1; rw [hd1]; rfl, fun u hu => by
        show (degOf fd u).toNat = 1 ∨ (degOf fd u).toNat = 2
        have := hd12 u hu
        omega, hdc⟩
    refine ⟨fd, fun u => (degOf fd u).toNat, ?_, hcv, hfd, hk, fun o ho => ?_, hcp, fun b hb => ⟨(hgs b hb).1, fun u hu => hsub u ((hgs b hb).2 u hu)⟩, right_cut S hch hall⟩
    · have L := (blocks_lst GS.gr).2
      rw [tS_liv] at L
      obtain ⟨A, B, e⟩ := List.append_of_mem hpart
      have hnd := L.nd
      have e' : blocksR (livU ps) (facR (sysF ps)) = A ++ part :: B := e
      rw [e', List.flatten_append, List.flatten_cons, List.nodup_append] at hnd
      rw [e, List.find?_append]
      have : A.find? (fun b => decide (cut ∈ b)) = none := List.find?_eq_none.mpr fun b hb z => hnd.2.2 cut (List.mem_flatten.mpr ⟨b, hb, of_decide_eq_true z⟩) cut (List.mem_append_left _ hcp) rfl
      rw [this, Option.none_or, List.find?_cons_of_pos (p := fun b => decide (cut ∈ b)) (decide_eq_true hcp)]
    · show degOf fd o = ((degOf fd o).toNat : Int)
      have := hd12 o ho
      omega
end Od
theorem PySem.Challenge.cw_oddscall_k34_whole_cuts_make_quadratics_holds : PySem.Challenge.rw_oddscall_k34_whole_cuts_make_quadratics.Holds :=
  Od.holds Od.plain_law

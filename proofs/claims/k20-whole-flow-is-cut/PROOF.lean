import PyProof.Rows.All
import Wide.All
import OpenK.AllK
import Wide.FinOn
import KE.KStateDown
import Lean
import HandS.ForMost
import HandS.More
import HandS.Exc
import HandS.ExcOwn
import HandS.ExcInit
import HandS.WordsExc
import HandS.Defaults
import HandS.Head0
import HandS.Head1
import HandS.Head2
import HandS.HeadEnd
import HandS.HeadHook1
import HandS.HeadHook2
import HandS.HeadHook3
import HandS.HeadHook4
import HandS.IsInst
import HandS.Conv
import HandS.Deep
import HandS.TupSets
import HandS.TupLe
import HandS.TupLen
import HandS.DictTup
import HandS.Sort
import HandS.SortOrd
import HandS.SortRule
import HandS.SortInts
import HandS.Wide
import HandS.WideBits
import HandS.Walk
import HandS.Zip
import HandS.Flow
import HandS.Evl
import HandS.Steps
import KE.SortData
import PySem.Challenge.RW_cutstree_k20_whole_flow_is_cut
import KE.GoesEnum
import KE.GoesMore
import KE.KDictCopyH
import KE.KDictWalk
import KE.KDictPairs
import KE.KDictKeyed
set_option Elab.async false
set_option linter.all false
set_option maxRecDepth 100000
set_option maxHeartbeats 0
namespace Cs
open PySem PySem.Spec PyProof.Rows L2
def top (i : Nat) : Stmt := PySem.Challenge.pw_cutstree_k20_whole_flow_is_cut.main.body.getD i (.Pass ⟨0, 0, 0, 0⟩)
abbrev lawIx : Nat := 82
abbrev s_wall : Stmt := top 0
abbrev s_NoTie_init : Stmt := inClass (top 5) 0
abbrev s_is_whole : Stmt := top 10
abbrev s_is_row : Stmt := top 11
abbrev s_as_tuples : Stmt := top 12
abbrev s_divisor : Stmt := top 13
abbrev s_is_amount : Stmt := top 14
abbrev s_is_weight : Stmt := top 15
abbrev s_in_least_terms : Stmt := top 16
abbrev s_plus : Stmt := top 17
abbrev s_is_below : Stmt := top 18
abbrev s_less : Stmt := top 19
abbrev s_total : Stmt := top 20
abbrev s_are_rising : Stmt := top 22
abbrev s_is_side : Stmt := top 23
abbrev s_weight_out : Stmt := top 24
abbrev s_are_ends : Stmt := top 26
abbrev s_ask_ends : Stmt := top 27
abbrev s_is_flow_row : Stmt := top 28
abbrev s_are_flow_rows : Stmt := top 29
abbrev s_going_out : Stmt := top 30
abbrev s_coming_in : Stmt := top 31
abbrev s_is_balanced : Stmt := top 32
abbrev s_fits : Stmt := top 33
abbrev s_is_flow : Stmt := top 34
abbrev s_worth_of : Stmt := top 35
abbrev s_lowest : Stmt := top 37
abbrev s_Rooms_init : Stmt := inClass (top 38) 0
abbrev s_Rooms_meet : Stmt := inClass (top 38) 1
abbrev s_Rooms_parts : Stmt := inClass (top 38) 2
abbrev s_Rooms_spare : Stmt := inClass (top 38) 3
abbrev s_Rooms_room : Stmt := inClass (top 38) 4
abbrev s_Rooms_put : Stmt := inClass (top 38) 5
abbrev s_Rooms_carry : Stmt := inClass (top 38) 6
abbrev s_Rooms_bring : Stmt := inClass (top 38) 7
abbrev s_Rooms_least_room : Stmt := inClass (top 38) 8
abbrev s_Rooms_flow : Stmt := inClass (top 38) 9
abbrev s_rooms_of : Stmt := top 39
abbrev s_steps_to : Stmt := top 40
abbrev s_way_with : Stmt := top 41
abbrev s_filled : Stmt := top 42
abbrev s_shortest_flow : Stmt := top 44
abbrev s_is_between : Stmt := top 46
abbrev s_is_least_cut : Stmt := top 47
abbrev s_first_bound : Stmt := top 49
abbrev s_halved_flow : Stmt := top 50
abbrev s_Heights_init : Stmt := inClass (top 52) 0
abbrev s_Heights_push : Stmt := inClass (top 52) 1
abbrev s_Heights_lift : Stmt := inClass (top 52) 2
abbrev s_Heights_clear : Stmt := inClass (top 52) 3
abbrev s_Heights_waiting : Stmt := inClass (top 52) 4
abbrev s_pushed_flow : Stmt := top 53
abbrev s_Web_init : Stmt := inClass (top 56) 0
abbrev s_Web_tie : Stmt := inClass (top 56) 1
abbrev s_are_places : Stmt := top 57
abbrev s_is_tie : Stmt := top 58
abbrev s_wrong_tie : Stmt := top 59
abbrev s_weights_in : Stmt := top 60
abbrev s_put_weights : Stmt := top 61
abbrev s_law_cell : Stmt := top 63
abbrev s_law_draws : Stmt := top 64
abbrev s_law_next : Stmt := top 65
abbrev s_law_of : Stmt := top 66
abbrev s_law_weight : Stmt := top 67
abbrev s_law_order : Stmt := top 68
abbrev s_law_pairs : Stmt := top 69
abbrev s_law_web : Stmt := top 70
abbrev s_law_rows : Stmt := top 71
abbrev s_law_parts : Stmt := top 72
abbrev s_law_amount : Stmt := top 73
abbrev s_law_ends : Stmt := top 74
abbrev s_law_side_parts : Stmt := top 75
abbrev s_law_sides_between : Stmt := top 76
abbrev s_law_least_sides : Stmt := top 77
abbrev s_law_measure : Stmt := top 78
abbrev s_law_are_rows : Stmt := top 79
abbrev s_law_worth : Stmt := top 80
abbrev s_law_is_let_by : Stmt := top 81
abbrev s_law : Stmt := top 82
def d_NoTie_init : He.DefD := ⟨("NoTie", some "__init__"), "__init__", "NoTie.__init__", defArgs s_NoTie_init, defBody s_NoTie_init, defScope s_NoTie_init, [], []⟩
def d_is_whole : He.DefD := ⟨("is_whole", none), "is_whole", "is_whole", defArgs s_is_whole, defBody s_is_whole, defScope s_is_whole, [], []⟩
def d_is_row : He.DefD := ⟨("is_row", none), "is_row", "is_row", defArgs s_is_row, defBody s_is_row, defScope s_is_row, [], []⟩
def d_as_tuples : He.DefD := ⟨("as_tuples", none), "as_tuples", "as_tuples", defArgs s_as_tuples, defBody s_as_tuples, defScope s_as_tuples, [], []⟩
def d_divisor : He.DefD := ⟨("divisor", none), "divisor", "divisor", defArgs s_divisor, defBody s_divisor, defScope s_divisor, [], []⟩
def d_is_amount : He.DefD := ⟨("is_amount", none), "is_amount", "is_amount", defArgs s_is_amount, defBody s_is_amount, defScope s_is_amount, [], []⟩
def d_is_weight : He.DefD := ⟨("is_weight", none), "is_weight", "is_weight", defArgs s_is_weight, defBody s_is_weight, defScope s_is_weight, [], []⟩
def d_in_least_terms : He.DefD := ⟨("in_least_terms", none), "in_least_terms", "in_least_terms", defArgs s_in_least_terms, defBody s_in_least_terms, defScope s_in_least_terms, [], []⟩
def d_plus : He.DefD := ⟨("plus", none), "plus", "plus", defArgs s_plus, defBody s_plus, defScope s_plus, [], []⟩
def d_is_below : He.DefD := ⟨("is_below", none), "is_below", "is_below", defArgs s_is_below, defBody s_is_below, defScope s_is_below, [], []⟩
def d_less : He.DefD := ⟨("less", none), "less", "less", defArgs s_less, defBody s_less, defScope s_less, [], []⟩
def d_total : He.DefD := ⟨("total", none), "total", "total", defArgs s_total, defBody s_total, defScope s_total, [], []⟩
def d_are_rising : He.DefD := ⟨("are_rising", none), "are_rising", "are_rising", defArgs s_are_rising, defBody s_are_rising, defScope s_are_rising, [], []⟩
def d_is_side : He.DefD := ⟨("is_side", none), "is_side", "is_side", defArgs s_is_side, defBody s_is_side, defScope s_is_side, [], []⟩
def d_weight_out : He.DefD := ⟨("weight_out", none), "weight_out", "weight_out", defArgs s_weight_out, defBody s_weight_out, defScope s_weight_out, [], []⟩
def d_are_ends : He.DefD := ⟨("are_ends", none), "are_ends", "are_ends", defArgs s_are_ends, defBody s_are_ends, defScope s_are_ends, [], []⟩
def d_ask_ends : He.DefD := ⟨("ask_ends", none), "ask_ends", "ask_ends", defArgs s_ask_ends, defBody s_ask_ends, defScope s_ask_ends, [], []⟩
def d_is_flow_row : He.DefD := ⟨("is_flow_row", none), "is_flow_row", "is_flow_row", defArgs s_is_flow_row, defBody s_is_flow_row, defScope s_is_flow_row, [], []⟩
def d_are_flow_rows : He.DefD := ⟨("are_flow_rows", none), "are_flow_rows", "are_flow_rows", defArgs s_are_flow_rows, defBody s_are_flow_rows, defScope s_are_flow_rows, [], []⟩
def d_going_out : He.DefD := ⟨("going_out", none), "going_out", "going_out", defArgs s_going_out, defBody s_going_out, defScope s_going_out, [], []⟩
def d_coming_in : He.DefD := ⟨("coming_in", none), "coming_in", "coming_in", defArgs s_coming_in, defBody s_coming_in, defScope s_coming_in, [], []⟩
def d_is_balanced : He.DefD := ⟨("is_balanced", none), "is_balanced", "is_balanced", defArgs s_is_balanced, defBody s_is_balanced, defScope s_is_balanced, [], []⟩
def d_fits : He.DefD := ⟨("fits", none), "fits", "fits", defArgs s_fits, defBody s_fits, defScope s_fits, [], []⟩
def d_is_flow : He.DefD := ⟨("is_flow", none), "is_flow", "is_flow", defArgs s_is_flow, defBody s_is_flow, defScope s_is_flow, [], []⟩
def d_worth_of : He.DefD := ⟨("worth_of", none), "worth_of", "worth_of", defArgs s_worth_of, defBody s_worth_of, defScope s_worth_of, [], []⟩
def d_lowest : He.DefD := ⟨("lowest", none), "lowest", "lowest", defArgs s_lowest, defBody s_lowest, defScope s_lowest, [], []⟩
def d_Rooms_init : He.DefD := ⟨("Rooms", some "__init__"), "__init__", "Rooms.__init__", defArgs s_Rooms_init, defBody s_Rooms_init, defScope s_Rooms_init, [], []⟩
def d_Rooms_meet : He.DefD := ⟨("Rooms", some "meet"), "meet", "Rooms.meet", defArgs s_Rooms_meet, defBody s_Rooms_meet, defScope s_Rooms_meet, [], []⟩
def d_Rooms_parts : He.DefD := ⟨("Rooms", some "parts"), "parts", "Rooms.parts", defArgs s_Rooms_parts, defBody s_Rooms_parts, defScope s_Rooms_parts, [], []⟩
def d_Rooms_spare : He.DefD := ⟨("Rooms", some "spare"), "spare", "Rooms.spare", defArgs s_Rooms_spare, defBody s_Rooms_spare, defScope s_Rooms_spare, [], []⟩
def d_Rooms_put : He.DefD := ⟨("Rooms", some "put"), "put", "Rooms.put", defArgs s_Rooms_put, defBody s_Rooms_put, defScope s_Rooms_put, [], []⟩
def d_Rooms_carry : He.DefD := ⟨("Rooms", some "carry"), "carry", "Rooms.carry", defArgs s_Rooms_carry, defBody s_Rooms_carry, defScope s_Rooms_carry, [], []⟩
def d_Rooms_least_room : He.DefD := ⟨("Rooms", some "least_room"), "least_room", "Rooms.least_room", defArgs s_Rooms_least_room, defBody s_Rooms_least_room, defScope s_Rooms_least_room, [], []⟩
def d_Rooms_flow : He.DefD := ⟨("Rooms", some "flow"), "flow", "Rooms.flow", defArgs s_Rooms_flow, defBody s_Rooms_flow, defScope s_Rooms_flow, [], []⟩
def d_rooms_of : He.DefD := ⟨("rooms_of", none), "rooms_of", "rooms_of", defArgs s_rooms_of, defBody s_rooms_of, defScope s_rooms_of, [], []⟩
def d_steps_to : He.DefD := ⟨("steps_to", none), "steps_to", "steps_to", defArgs s_steps_to, defBody s_steps_to, defScope s_steps_to, [], []⟩
def d_way_with : He.DefD := ⟨("way_with", none), "way_with", "way_with", defArgs s_way_with, defBody s_way_with, defScope s_way_with, [], []⟩
def d_filled : He.DefD := ⟨("filled", none), "filled", "filled", defArgs s_filled, defBody s_filled, defScope s_filled, [], []⟩
def d_shortest_flow : He.DefD := ⟨("shortest_flow", none), "shortest_flow", "shortest_flow", defArgs s_shortest_flow, defBody s_shortest_flow, defScope s_shortest_flow, [], []⟩
def d_is_between : He.DefD := ⟨("is_between", none), "is_between", "is_between", defArgs s_is_between, defBody s_is_between, defScope s_is_between, [], []⟩
def d_is_least_cut : He.DefD := ⟨("is_least_cut", none), "is_least_cut", "is_least_cut", defArgs s_is_least_cut, defBody s_is_least_cut, defScope s_is_least_cut, [], []⟩
def d_first_bound : He.DefD := ⟨("first_bound", none), "first_bound", "first_bound", defArgs s_first_bound, defBody s_first_bound, defScope s_first_bound, [], []⟩
def d_halved_flow : He.DefD := ⟨("halved_flow", none), "halved_flow", "halved_flow", defArgs s_halved_flow, defBody s_halved_flow, defScope s_halved_flow, [], []⟩
def d_Heights_init : He.DefD := ⟨("Heights", some "__init__"), "__init__", "Heights.__init__", defArgs s_Heights_init, defBody s_Heights_init, defScope s_Heights_init, [], []⟩
def d_Heights_push : He.DefD := ⟨("Heights", some "push"), "push", "Heights.push", defArgs s_Heights_push, defBody s_Heights_push, defScope s_Heights_push, [], []⟩
def d_Heights_lift : He.DefD := ⟨("Heights", some "lift"), "lift", "Heights.lift", defArgs s_Heights_lift, defBody s_Heights_lift, defScope s_Heights_lift, [], []⟩
def d_Heights_clear : He.DefD := ⟨("Heights", some "clear"), "clear", "Heights.clear", defArgs s_Heights_clear, defBody s_Heights_clear, defScope s_Heights_clear, [], []⟩
def d_Heights_waiting : He.DefD := ⟨("Heights", some "waiting"), "waiting", "Heights.waiting", defArgs s_Heights_waiting, defBody s_Heights_waiting, defScope s_Heights_waiting, [], []⟩
def d_pushed_flow : He.DefD := ⟨("pushed_flow", none), "pushed_flow", "pushed_flow", defArgs s_pushed_flow, defBody s_pushed_flow, defScope s_pushed_flow, [], []⟩
def d_Web_init : He.DefD := ⟨("Web", some "__init__"), "__init__", "Web.__init__", defArgs s_Web_init, defBody s_Web_init, defScope s_Web_init, [], []⟩
def d_Web_tie : He.DefD := ⟨("Web", some "tie"), "tie", "Web.tie", defArgs s_Web_tie, defBody s_Web_tie, defScope s_Web_tie, [], []⟩
def d_are_places : He.DefD := ⟨("are_places", none), "are_places", "are_places", defArgs s_are_places, defBody s_are_places, defScope s_are_places, [], []⟩
def d_is_tie : He.DefD := ⟨("is_tie", none), "is_tie", "is_tie", defArgs s_is_tie, defBody s_is_tie, defScope s_is_tie, [], []⟩
def d_wrong_tie : He.DefD := ⟨("wrong_tie", none), "wrong_tie", "wrong_tie", defArgs s_wrong_tie, defBody s_wrong_tie, defScope s_wrong_tie, [], []⟩
def d_weights_in : He.DefD := ⟨("weights_in", none), "weights_in", "weights_in", defArgs s_weights_in, defBody s_weights_in, defScope s_weights_in, [], []⟩
def d_put_weights : He.DefD := ⟨("put_weights", none), "put_weights", "put_weights", defArgs s_put_weights, defBody s_put_weights, defScope s_put_weights, [], []⟩
def d_law_cell : He.DefD := ⟨("_law_cell", none), "_law_cell", "_law_cell", defArgs s_law_cell, defBody s_law_cell, defScope s_law_cell, [], []⟩
def d_law_draws : He.DefD := ⟨("_law_draws", none), "_law_draws", "_law_draws", defArgs s_law_draws, defBody s_law_draws, defScope s_law_draws, [], []⟩
def d_law_next : He.DefD := ⟨("_law_next", none), "_law_next", "_law_next", defArgs s_law_next, defBody s_law_next, defScope s_law_next, [], []⟩
def d_law_weight : He.DefD := ⟨("_law_weight", none), "_law_weight", "_law_weight", defArgs s_law_weight, defBody s_law_weight, defScope s_law_weight, [], []⟩
def d_law_order : He.DefD := ⟨("_law_order", none), "_law_order", "_law_order", defArgs s_law_order, defBody s_law_order, defScope s_law_order, [], []⟩
def d_law_pairs : He.DefD := ⟨("_law_pairs", none), "_law_pairs", "_law_pairs", defArgs s_law_pairs, defBody s_law_pairs, defScope s_law_pairs, [], []⟩
def d_law_web : He.DefD := ⟨("_law_web", none), "_law_web", "_law_web", defArgs s_law_web, defBody s_law_web, defScope s_law_web, [], []⟩
def d_law_rows : He.DefD := ⟨("_law_rows", none), "_law_rows", "_law_rows", defArgs s_law_rows, defBody s_law_rows, defScope s_law_rows, [], []⟩
def d_law_parts : He.DefD := ⟨("_law_parts", none), "_law_parts", "_law_parts", defArgs s_law_parts, defBody s_law_parts, defScope s_law_parts, [], []⟩
def d_law_ends : He.DefD := ⟨("_law_ends", none), "_law_ends", "_law_ends", defArgs s_law_ends, defBody s_law_ends, defScope s_law_ends, [], []⟩
def d_law_side_parts : He.DefD := ⟨("_law_side_parts", none), "_law_side_parts", "_law_side_parts", defArgs s_law_side_parts, defBody s_law_side_parts, defScope s_law_side_parts, [], []⟩
def d_law_sides_between : He.DefD := ⟨("_law_sides_between", none), "_law_sides_between", "_law_sides_between", defArgs s_law_sides_between, defBody s_law_sides_between, defScope s_law_sides_between, [], []⟩
def d_law_least_sides : He.DefD := ⟨("_law_least_sides", none), "_law_least_sides", "_law_least_sides", defArgs s_law_least_sides, defBody s_law_least_sides, defScope s_law_least_sides, [], []⟩
def d_law_measure : He.DefD := ⟨("_law_measure", none), "_law_measure", "_law_measure", defArgs s_law_measure, defBody s_law_measure, defScope s_law_measure, [], []⟩
def d_law_are_rows : He.DefD := ⟨("_law_are_rows", none), "_law_are_rows", "_law_are_rows", defArgs s_law_are_rows, defBody s_law_are_rows, defScope s_law_are_rows, [], []⟩
def d_law_worth : He.DefD := ⟨("_law_worth", none), "_law_worth", "_law_worth", defArgs s_law_worth, defBody s_law_worth, defScope s_law_worth, [], []⟩
def d_law_is_let_by : He.DefD := ⟨("_law_is_let_by", none), "_law_is_let_by", "_law_is_let_by", defArgs s_law_is_let_by, defBody s_law_is_let_by, defScope s_law_is_let_by, [], []⟩
def d_law : He.DefD := ⟨("law", none), "law", "law", defArgs s_law, defBody s_law, defScope s_law, [], []⟩
def fn0 : List He.DefD := [d_NoTie_init, d_is_whole, d_is_row, d_as_tuples, d_divisor, d_is_amount, d_is_weight, d_in_least_terms, d_plus, d_is_below, d_less, d_total, d_are_rising, d_is_side, d_weight_out, d_are_ends, d_ask_ends, d_is_flow_row, d_are_flow_rows, d_going_out, d_coming_in, d_is_balanced, d_fits, d_is_flow]
def fn1 : List He.DefD := [d_worth_of, d_lowest, d_Rooms_init, d_Rooms_meet, d_Rooms_parts, d_Rooms_spare, d_Rooms_put, d_Rooms_carry, d_Rooms_least_room, d_Rooms_flow, d_rooms_of, d_steps_to, d_way_with, d_filled, d_shortest_flow, d_is_between, d_is_least_cut, d_first_bound, d_halved_flow, d_Heights_init, d_Heights_push, d_Heights_lift, d_Heights_clear, d_Heights_waiting]
def fn2 : List He.DefD := [d_pushed_flow, d_Web_init, d_Web_tie, d_are_places, d_is_tie, d_wrong_tie, d_weights_in, d_put_weights, d_law_cell, d_law_draws, d_law_next, d_law_weight, d_law_order, d_law_pairs, d_law_web, d_law_rows, d_law_parts, d_law_ends, d_law_side_parts, d_law_sides_between, d_law_least_sides, d_law_measure, d_law_are_rows, d_law_worth]
def fn3 : List He.DefD := [d_law_is_let_by, d_law]
def fn : List He.DefD := fn0 ++ fn1 ++ fn2 ++ fn3
def fa0 : List He.Fa := [.glo "is_whole", .glo "is_row", .glo "as_tuples", .glo "divisor", .glo "is_amount", .glo "is_weight", .glo "in_least_terms", .glo "plus", .glo "is_below", .glo "less", .glo "total", .glo "are_rising", .glo "is_side", .glo "weight_out", .glo "are_ends", .glo "ask_ends", .glo "is_flow_row", .glo "are_flow_rows", .glo "going_out", .glo "coming_in", .glo "is_balanced", .glo "fits", .glo "is_flow", .glo "worth_of", .glo "lowest", .glo "rooms_of", .glo "steps_to", .glo "way_with", .glo "filled", .glo "shortest_flow"]
def fa1 : List He.Fa := [.glo "is_between", .glo "is_least_cut", .glo "first_bound", .glo "halved_flow", .glo "pushed_flow", .glo "are_places", .glo "is_tie", .glo "wrong_tie", .glo "weights_in", .glo "put_weights", .glo "_law_cell", .glo "_law_draws", .glo "_law_next", .glo "_law_weight", .glo "_law_order", .glo "_law_pairs", .glo "_law_web", .glo "_law_rows", .glo "_law_parts", .glo "_law_ends", .glo "_law_side_parts", .glo "_law_sides_between", .glo "_law_least_sides", .glo "_law_measure", .glo "_law_are_rows", .glo "_law_worth", .glo "_law_is_let_by", .glo "law", .glo "CutError", .glo "NoWeight"]
def fa2 : List He.Fa := [.glo "NoPlace", .glo "NoTie", .glo "Rooms", .glo "Heights", .glo "Web", .glo "NOUGHT", .int "MOST_ABOVE" 1000000000000, .int "BELOW" 55440, .int "MOST_PLACES" 40, .free "isinstance", .free "int", .free "bool", .free "list", .free "tuple", .free "len", .free "dict", .free "sorted", .free "min", .free "max", .free "enumerate", .free "range", .free "sum", .free "abs", .free "set", .free "zip", .cls "Rooms", .mkr "Rooms", .noat "Rooms" "size", .noat "Rooms" "weights", .noat "Rooms" "brought"]
def fa3 : List He.Fa := [.noat "Rooms" "close", .meth "Rooms" "meet", .meth "Rooms" "parts", .meth "Rooms" "spare", .meth "Rooms" "put", .meth "Rooms" "carry", .meth "Rooms" "least_room", .meth "Rooms" "flow", .cls "Heights", .mkr "Heights", .noat "Heights" "rooms", .noat "Heights" "ends", .noat "Heights" "heights", .noat "Heights" "too_much", .meth "Heights" "push", .meth "Heights" "lift", .meth "Heights" "clear", .meth "Heights" "waiting", .cls "Web", .mkr "Web", .noat "Web" "many", .noat "Web" "weights", .noat "Web" "ties", .meth "Web" "tie"]
def fa : List He.Fa := fa0 ++ fa1 ++ fa2 ++ fa3
def loose0 : List Str := ["_wall", "CutError", "NoWeight", "NoPlace", "NoTie", "MOST_ABOVE", "BELOW", "NOUGHT", "is_whole", "is_row", "as_tuples", "divisor", "is_amount", "is_weight", "in_least_terms", "plus", "is_below", "less", "total", "are_rising", "is_side", "weight_out", "are_ends", "ask_ends", "is_flow_row", "are_flow_rows", "going_out", "coming_in", "is_balanced", "fits"]
def loose1 : List Str := ["is_flow", "worth_of", "lowest", "Rooms", "rooms_of", "steps_to", "way_with", "filled", "shortest_flow", "is_between", "is_least_cut", "first_bound", "halved_flow", "Heights", "pushed_flow", "MOST_PLACES", "Web", "are_places", "is_tie", "wrong_tie", "weights_in", "put_weights", "_law_cell", "_law_draws", "_law_next", "_law_of", "_law_weight", "_law_order", "_law_pairs", "_law_web"]
def loose2 : List Str := ["_law_rows", "_law_parts", "_law_amount", "_law_ends", "_law_side_parts", "_law_sides_between", "_law_least_sides", "_law_measure", "_law_are_rows", "_law_worth", "_law_is_let_by"]
def loose : List Str := loose0 ++ loose1 ++ loose2
def exN (K : PySem.W.Frag) : Bool := He.tupB K "NOUGHT" [.int 0, .int 1]
abbrev R : PySem.W.OpenRow := PySem.W.OpenLaw.row PySem.Challenge.rw_cutstree_k20_whole_flow_is_cut
abbrev hk : PySem.W.Hook := He.hookX 5 fa fn [] [] exN
def ob (s : PySem.W.SharedT) : He.AlX := He.obsX 5 fa fn [] [] exN (HandSHeadRun.getT s)
theorem ob_eq (s : PySem.W.SharedT) : ob s = hk.obs s.abs := He.obsX_eq (HandSHeadRun.getT_eq s)
end Cs
namespace Cs
open PySem PySem.Spec PyProof.Rows L2
theorem run (w : World) : HandSHeadRun.RunEq R (PySem.W.view R.prog [lawIx]) hk ob 4000 loose w := by
  intro os
  kernel_rfl
end Cs
set_option maxHeartbeats 4000000
namespace Cs
open PySem PySem.Spec PyProof.Rows L2
/-! ### what the top has left -/
structure En (K : PySem.W.Frag) (mg : Str → Option Value) : Prop where
  d : He.SaysD fa fn K
  nn : exN K = true
  g : ∀ x, (He.Fa.glo x).ok K = true → mg x = some (.ref (He.ga K x))
  f : ∀ x, (He.Fa.free x).ok K = true → mg x = none
  i : ∀ x n, (He.Fa.int x n).ok K = true → ∃ t, mg x = some (.int n t)
theorem En.of {w : World} {K : PySem.W.Frag} {h h0 : Heap} {mg : Str → Option Value} (X : K.In h) (G : h.Ns mainGlobals mg) (c : He.SaysX fa fn [] [] exN w h0 K) : En K mg :=
  ⟨c.t.d, c.more, fun _ q => He.glo_ok X G q, fun _ q => He.free_ok X G q, fun _ _ q => He.int_ok X G q⟩
theorem En.nought {K : PySem.W.Frag} {mg : Str → Option Value} (E : En K mg) (H : Hp) : SqT K H (He.ga K "NOUGHT") [.int 0, .int 1] := He.tupB_ok E.nn H
/-! ### promises -/
abbrev Sp0 := List V → Hp → VK → Prop
def u1 (sp : V → Hp → VK → Prop) : Sp0 := fun vs H Q => ∃ a, vs = [a] ∧ sp a H Q
def u2 (sp : V → V → Hp → VK → Prop) : Sp0 := fun vs H Q => ∃ a b, vs = [a, b] ∧ sp a b H Q
def u3 (sp : V → V → V → Hp → VK → Prop) : Sp0 := fun vs H Q => ∃ a b c, vs = [a, b, c] ∧ sp a b c H Q
def u4 (sp : V → V → V → V → Hp → VK → Prop) : Sp0 := fun vs H Q => ∃ a b c d, vs = [a, b, c, d] ∧ sp a b c d H Q
/-- the def d keeps sp, within k calls -/
def Okf (K : PySem.W.Frag) (mg : Str → Option Value) (d : He.DefD) (ps : List Str) (k : Nat) (sp : Sp0) : Prop :=
  ∃ fd : FuncData, PySem.W.keepIn K (.ref (He.fAd K d.at_)) = true ∧ Binds K fd ps [] ∧ ∀ (P : Program) (w : World) (base : Heap), FnOk P w K mg base CX0 k (He.fAd K d.at_) fd ps (fun vs H Q _ => vs.length = ps.length ∧ sp vs H Q)
theorem Okf.mono {K : PySem.W.Frag} {mg : Str → Option Value} {d : He.DefD} {ps : List Str} {j k : Nat} {sp : Sp0} (h : Okf K mg d ps j sp) (le : j ≤ k) : Okf K mg d ps k sp := by
  obtain ⟨fd, a, b, c⟩ := h
  exact ⟨fd, a, b, fun P w base => (c P w base).mono le⟩
theorem okf_of {K : PySem.W.Frag} {mg : Str → Option Value} {d : He.DefD} {N ps : List Str} {k : Nat} {sp : Sp0} (t : TS) (F : ∃ fd, FunD K d.name d.qual d.params d.body d.scope [] [] (He.fAd K d.at_) fd) (S : FnScope N ps d.scope)
    (hb : ∀ (kV doc pm : Value) (an : Option Addr) (cdv ct : Value) (us : List Value), us.length = ps.length → bindArgs (PySem.W.fnOf d.name d.qual d.params d.body d.scope .none kV doc pm an cdv ct) ⟨us, []⟩ = pure (ps.zip us))
    (der : ∀ (P : Program) (w : World) (base : Heap) (cdv : Value) (A : Around) (outer : List Env) (s : Shared) (H : Hp) (E : XK), Room k (A.deeper (envOfC d.qual d.scope s.heap.objs.size (He.fAd K d.at_) cdv)) →
      PSs (cxOf CX0 P w K mg base N d.qual d.scope (He.fAd K d.at_) cdv A outer s H E).nox d.body t)
    (pure : ∀ vs H Q, sp vs H Q → t { nx := fun _ H' => Q .non H', rt := Q } (start N vs) H) : Okf K mg d ps (k + 1) sp := by
  obtain ⟨fd, F⟩ := F
  refine ⟨fd, F.kp, F.bindsN hb, fun P w base => F.ok S (fun _ _ _ _ h => h.1) fun cdv A outer s H vs Q E hr h => ⟨t, PSs.nox (der P w base cdv A outer s H E hr), pure vs H Q h.2⟩⟩
/-! ### calls of them -/
def tF (n : Nat) (sp : Sp0) (t : TA) : TE := fun σ H Q => t σ H fun vs H1 => vs.length = n ∧ sp vs H1 Q
def tM (C : Addr) (m : Str) (n : Nat) (sp : Sp0) (ta : TE) (t : TA) : TE := fun σ H Q => ta σ H fun x H1 => ∃ a dx fs, x = .ref a ∧ H1 a = some (.ins C dx fs) ∧ fs.lookup m = none ∧ t σ H1 fun vs H2 => (x :: vs).length = n ∧ sp (x :: vs) H2 Q
def tMk (C : Addr) (n : Nat) (sp : Sp0) (t : TA) : TE := fun σ H Q => t σ H fun vs H1 => ∀ x dx, H1 x = none → H1 dx = none → dx ≠ x →
  (V.ref x :: vs).length = n ∧ sp (.ref x :: vs) (upd (upd H1 dx (.own x)) x (.ins C dx [])) (fun v H2 => v = .non ∧ Q (.ref x) H2)
theorem peImp {X : Cx} {e : Expr} {t t' : TE} (h : PE X e t) (hi : ∀ σ H Q, t' σ H Q → t σ H Q) : PE X e t' := ⟨fun pins s σ H Q I hw => h.run pins s σ H Q I (hi σ H Q hw)⟩
theorem paImp {X : Cx} {es : List Expr} {t t' : TA} (h : PA X es t) (hi : ∀ σ H Q, t' σ H Q → t σ H Q) : PA X es t' := ⟨fun pos pins s σ H Q I hw => h.run pos pins s σ H Q I (hi σ H Q hw)⟩
section
variable {X : Cx} {n : Nat} {d : He.DefD} {ps : List Str} {k : Nat} {sp : Sp0} {x m : Str} {p pos apos : Pos} {o e : Expr} {es : List Expr} {ta : TE} {t : TA}
theorem pe_f (h : Okf X.K X.mg d ps k sp) (hr : Room k X.A) (hg : Gl X x) (hm : X.mg x = some (.ref (He.fAd X.K d.at_)))
    (ha : PA X (e :: es) t) (hdb : (x == ("__debug__" : Str)) = false := by decide) (he : starEach (e :: es) X.env = (false, eval e X.env) :: starEach es X.env := by rfl) (hpl : (backTo pos (starEach es X.env)).any (·.1) = false := by rfl) (hn : ps.length = n := by rfl) :
    PE X (.Call (.Name x p) (e :: es) [] pos) (tF n sp t) := by
  obtain ⟨fd, kp, b, F⟩ := h
  subst hn
  refine peImp (pe_call (F X.prog X.w X.base) hr hg hm kp b .nil (E := E0) pass0 ha hdb he hpl) fun σ H Q hq => ?_
  show t σ H fun vs H1 => (vs ++ []).length = ps.length ∧ sp (vs ++ []) H1 Q
  have e : (fun (vs : List V) (H1 : Hp) => (vs ++ []).length = ps.length ∧ sp (vs ++ []) H1 Q) = fun vs H1 => vs.length = ps.length ∧ sp vs H1 Q := by
    funext vs H1
    rw [List.append_nil]
  rw [e]
  exact hq
theorem pe_m {C f : Addr} {pl : Sem Bool} (he : PE X o ta) (c : Cls X.K C) (hm : Meth X.K C m f) (h : Okf X.K X.mg d ps k sp) (hf : He.fAd X.K d.at_ = f) (hr : Room k X.A) (ha : PA X (e :: es) t)
    (hst : starEach (e :: es) X.env = (false, eval e X.env) :: starEach es X.env := by rfl) (hpl : (backTo pos (starEach es X.env)).any (·.1) = false := by rfl)
    (ht : eval (.Call (.Attribute o m apos) (e :: es) [] pos) X.env = (do
      let ov ← eval o X.env
      standAt apos.atName
      let (f, first) ← holding [ov] (getMethod ov m pl)
      callWith pos f first (backTo pos (starEach (e :: es) X.env)) (backToKw pos (keywordEach [] X.env))) := by rfl) (hn : ps.length = n := by rfl) :
    PE X (.Call (.Attribute o m apos) (e :: es) [] pos) (tM C m n sp ta t) := by
  obtain ⟨fd, kp, b, F⟩ := h
  subst hn
  subst hf
  refine peImp (pe_meth he c hm (F X.prog X.w X.base) hr b .nil (E := E0) pass0 ha hst hpl ht) fun σ H Q hq => ?_
  show ta σ H fun x H1 => ∃ a dx fs, x = .ref a ∧ H1 a = some (.ins C dx fs) ∧ fs.lookup m = none ∧ t σ H1 fun vs H2 => (x :: (vs ++ [])).length = ps.length ∧ sp (x :: (vs ++ [])) H2 Q
  have e : (fun (x : V) (H1 : Hp) => ∃ a dx fs, x = .ref a ∧ H1 a = some (.ins C dx fs) ∧ fs.lookup m = none ∧ t σ H1 fun vs H2 => (x :: (vs ++ [])).length = ps.length ∧ sp (x :: (vs ++ [])) H2 Q)
    = fun (x : V) (H1 : Hp) => ∃ a dx fs, x = .ref a ∧ H1 a = some (.ins C dx fs) ∧ fs.lookup m = none ∧ t σ H1 fun vs H2 => (x :: vs).length = ps.length ∧ sp (x :: vs) H2 Q := by
    funext x H1
    simp only [List.append_nil]
  rw [e]
  exact hq
theorem pe_m0 {C f : Addr} {pl : Sem Bool} (he : PE X o ta) (c : Cls X.K C) (hm : Meth X.K C m f) (h : Okf X.K X.mg d ps k sp) (hf : He.fAd X.K d.at_ = f) (hr : Room k X.A)
    (ht : eval (.Call (.Attribute o m apos) [] [] pos) X.env = (do
      let ov ← eval o X.env
      standAt apos.atName
      let (f, first) ← holding [ov] (getMethod ov m pl)
      callWith pos f first (backTo pos (starEach [] X.env)) (backToKw pos (keywordEach [] X.env))) := by rfl) (hn : ps.length = n := by rfl) :
    PE X (.Call (.Attribute o m apos) [] [] pos) (tM C m n sp ta tNil) := by
  obtain ⟨fd, kp, b, F⟩ := h
  subst hn
  subst hf
  exact pe_meth0 he c hm (F X.prog X.w X.base) hr b .nil (E := E0) pass0 ht
theorem pe_mk {C f : Addr} (M : Mk X.K C f) (h : Okf X.K X.mg d ps k sp) (hf : He.fAd X.K d.at_ = f) (hr : Room (k + 1) X.A) (hg : Gl X x) (hm : X.mg x = some (.ref C)) (ha : PA X (e :: es) t)
    (hdb : (x == ("__debug__" : Str)) = false := by decide) (he : starEach (e :: es) X.env = (false, eval e X.env) :: starEach es X.env := by rfl) (hpl : (backTo pos (starEach es X.env)).any (·.1) = false := by rfl) (hn : ps.length = n := by rfl) :
    PE X (.Call (.Name x p) (e :: es) [] pos) (tMk C n sp t) := by
  obtain ⟨fd, kp, b, F⟩ := h
  subst hn
  subst hf
  refine peImp (pe_make M (F X.prog X.w X.base) hr hg hm b .nil (E := E0) pass0 ha hdb he hpl) fun σ H Q hq => ?_
  have e : (fun (vs : List V) (H1 : Hp) => ∀ x dx, H1 x = none → H1 dx = none → dx ≠ x → (V.ref x :: (vs ++ [])).length = ps.length ∧ sp (.ref x :: (vs ++ [])) (upd (upd H1 dx (.own x)) x (.ins C dx [])) (fun v H2 => v = .non ∧ Q (.ref x) H2))
    = fun (vs : List V) (H1 : Hp) => ∀ x dx, H1 x = none → H1 dx = none → dx ≠ x → (V.ref x :: vs).length = ps.length ∧ sp (.ref x :: vs) (upd (upd H1 dx (.own x)) x (.ins C dx [])) (fun v H2 => v = .non ∧ Q (.ref x) H2) := by
    funext vs H1
    simp only [List.append_nil]
  show t σ H fun (vs : List V) (H1 : Hp) => ∀ x dx, H1 x = none → H1 dx = none → dx ≠ x → (V.ref x :: (vs ++ [])).length = ps.length ∧ sp (.ref x :: (vs ++ [])) (upd (upd H1 dx (.own x)) x (.ins C dx [])) (fun v H2 => v = .non ∧ Q (.ref x) H2)
  rw [e]
  exact hq
theorem pe_gi {i : Int} (hg : Gl X x) (h : ∃ t, X.mg x = some (.int i t)) (hd : (x == ("__debug__" : Str)) = false := by decide) : PE X (.Name x pos) (tC (.int i)) := by
  obtain ⟨t, h⟩ := h
  exact pe_glob hg h ⟨t, rfl⟩ hd
end
/-! ### lists or tuples, one rule -/
def SqS (K : PySem.W.Frag) (H : Hp) (a : Addr) (xs : List V) : Prop := SqL K H a xs ∨ SqT K H a xs
def iSeq (K : PySem.W.Frag) (tl : TE) : TI := fun σ H R => tl σ H fun x H1 => ∃ a xs, x = .ref a ∧ ((SqL K H1 a xs ∧ R (Itl K a) H1) ∨ (SqT K H1 a xs ∧ R (Itt K a) H1))
def gSeq (K : PySem.W.Frag) (n : Nat) (t : TGs) : TG := fun v σ H Q => ∃ a xs, v = .ref a ∧ SqS K H a xs ∧ xs.length = n ∧ t xs σ H Q
def rIxS2 (K : PySem.W.Frag) : R2 := fun x y H Q => ∃ p xs i v, x = .ref p ∧ y = .int i ∧ SqS K H p xs ∧ atI xs i = some v ∧ Q v H
section
variable {X : Cx} {tg l : Expr} {tl : TE}
theorem pi_seq (hl : PE X l tl) : PI X tg l (iSeq X.K tl) := by
  refine ⟨fun pins s σ H R I h => ?_⟩
  refine thn (hl.run pins s σ H _ I h) fun v s1 ⟨x, H1, I1, r1, q1⟩ => ?_
  obtain ⟨a, xs, rfl, q⟩ := q1
  have one : PE X l (fun σ' H' Q' => σ' = σ ∧ H' = H ∧ True ∧ False) := ⟨fun _ _ _ _ _ _ z => z.2.2.2.elim⟩
  cases r1
  rcases q with ⟨hq, q⟩ | ⟨hq, q⟩
  · obtain ⟨its, rv, p, hz⟩ := I1.list hq
    refine wpAny_pyIter_list p.isList ?_
    refine ⟨s1.heap.objs.size, [s1.heap.objs.size], _, _, H1, rfl, I1.kept (t' := s1.toks) fun b o e => Heap.get?_push_of_some _ e, turn_list a _, ⟨_, Heap.get?_push_size _ rfl, rfl, rfl⟩, fun b hb => ?_, q⟩
    have e : b = s1.heap.objs.size := by simpa using hb
    subst e
    exact I1.fpOk (Nat.le_refl _) (I1.hok.fresh (Nat.le_refl _))
  · obtain ⟨its, rv, p, hz⟩ := I1.tuple hq
    refine wpAny_pyIter_tuple (show s1.heap.IsTuple a its.toArray from p) ?_
    refine ⟨s1.heap.objs.size, [s1.heap.objs.size], _, _, H1, rfl, I1.kept (t' := s1.toks) fun b o e => Heap.get?_push_of_some _ e, turn_tuple a _, ⟨_, Heap.get?_push_size _ rfl, rfl, rfl⟩, fun b hb => ?_, q⟩
    have e : b = s1.heap.objs.size := by simpa using hb
    subst e
    exact I1.fpOk (Nat.le_refl _) (I1.hok.fresh (Nat.le_refl _))
theorem pg_seq {es : List Expr} {k : Nat} {t : TGs} {n : Nat} {pos : Pos} (hc : X.calm = true) (h : PGs X es t)
    (hn : (assignEach es X.env).length = n := by rfl) (hst : (assignEach es X.env).findIdx? (·.1) = none := by rfl) : PG X (.Tuple es k pos) (gSeq X.K n t) := by
  refine ⟨fun pins s σ H v u Q I r hw => ?_⟩
  obtain ⟨a, xs, e1, hq, hl, hw⟩ := hw
  rcases hq with hq | hq
  · exact (pg_unl hc h hn hst).run pins s σ H v u Q I r ⟨a, xs, e1, hq, hl, hw⟩
  · exact (pg_tup hc h hn hst).run pins s σ H v u Q I r ⟨a, xs, e1, hq, hl, hw⟩
theorem ix_seq2 : IxR X (rIxS2 X.K) := by
  intro value slice pins s σ H x y v u Q I rx ry q hs
  obtain ⟨p, xs, i, w, rfl, rfl, hq, ha, q⟩ := q
  rcases hq with hq | hq
  · exact ix_list value slice pins s σ H _ _ v u Q I rx ry ⟨p, xs, i, w, rfl, rfl, hq, ha, q⟩ hs
  · exact ix_tup value slice pins s σ H _ _ v u Q I rx ry ⟨p, xs, i, w, rfl, rfl, hq, ha, q⟩ hs
theorem walk_seq {K : PySem.W.Frag} {a : Addr} {xs : List V} : (Walk (Itl K a) xs.length (fun H => SqL K H a xs) (YAt xs)) ∧ Walk (Itt K a) xs.length (fun H => SqT K H a xs) (YAt xs) := ⟨walk_list, walk_tup⟩
end
end Cs
namespace Cs
open PySem PySem.Spec PyProof.Rows L2
/-! ### readings by short names -/
abbrev rPlus : R2 := rI0 fun i j => .int (i + j)
abbrev rMinus : R2 := rI0 fun i j => .int (i - j)
abbrev rTimes : R2 := rI CMul fun i j => .int (i * j)
abbrev rFdiv : R2 := rI CDivW fun i j => .int (i / j)
abbrev rModu : R2 := rI (fun _ j => 0 < j) fun i j => .int (i % j)
abbrev rPow : R2 := rI CPow fun i j => .int (i ^ j.toNat)
abbrev rShl : R2 := rI CPow fun i j => .int (i * 2 ^ j.toNat)
abbrev rShr : R2 := rI (fun _ j => 0 ≤ j) fun i j => .int (i / 2 ^ j.toNat)
abbrev rBand : R2 := rI0 fun i j => .int (Builtin.bitAnd i j)
abbrev rLt : R2 := rI0 fun i j => .bl (decide (i < j))
abbrev rLe : R2 := rI0 fun i j => .bl (decide (i ≤ j))
abbrev rGt2 : R2 := rI0 fun i j => .bl (decide (j < i))
abbrev rGe2 : R2 := rI0 fun i j => .bl (decide (j ≤ i))
def rLenQ (K : PySem.W.Frag) : List V → Hp → VK → Prop := fun xs H Q => ∃ p ys, xs = [.ref p] ∧ (SqL K H p ys ∨ SqT K H p ys) ∧ Q (.int ys.length) H
def rListQ (K : PySem.W.Frag) : List V → Hp → VK → Prop := fun xs H Q => ∃ p ys, xs = [.ref p] ∧ (SqL K H p ys ∨ SqT K H p ys) ∧ ∀ l, H l = none → Q (.ref l) (upd H l (.lst ys))
def rTupQ (K : PySem.W.Frag) : List V → Hp → VK → Prop := fun xs H Q => ∃ p ys, xs = [.ref p] ∧ ((SqL K H p ys ∧ ∀ l, H l = none → Q (.ref l) (upd H l (.tup ys))) ∨ (SqT K H p ys ∧ Q (.ref p) H))
def rMax2 : List V → Hp → VK → Prop := fun xs H Q => ∃ i j, xs = [.int i, .int j] ∧ Q (.int (if j > i then j else i)) H
def rMin2 : List V → Hp → VK → Prop := fun xs H Q => ∃ i j, xs = [.int i, .int j] ∧ Q (.int (if j < i then j else i)) H
def rAbsQ : List V → Hp → VK → Prop := fun xs H Q => ∃ i, xs = [.int i] ∧ Q (.int (if i < 0 then -i else i)) H
def rIntQ : List V → Hp → VK → Prop := fun xs H Q => (∃ i, xs = [.int i] ∧ Q (.int i) H) ∨ ∃ k, xs = [.bl k] ∧ Q (.int (if k then 1 else 0)) H
def rDictP (K : PySem.W.Frag) : List V → Hp → VK → Prop := fun xs H Q => ∃ (a : Addr) (ps : List Addr) (kvs : List (Key × V)), xs = [.ref a] ∧ SqL K H a (ps.map V.ref) ∧ Paired (fun p kv => SqT K H p [kV kv.1, kv.2]) ps kvs ∧
  ∀ p, H p = none → Q (.ref p) (upd H p (.dK (mergeK [] kvs)))
theorem hu65 {A : Around} {k : Nat} (hr : Room k A) : A.units + 65 < cLine := by
  have := hr.un
  omega
theorem hu64 {A : Around} {k : Nat} (hr : Room k A) : A.units + 64 < cLine := hr.units
/-! ### rules that the layer lacks: their readings -/
/-- dict(ps): pairs whose first is a tuple, no key twice -/
def rDictPT (K : PySem.W.Frag) : List V → Hp → VK → Prop := fun xs H Q => ∃ (a : Addr) (ps : List Addr) (kvs : List (List Key × V)), xs = [.ref a] ∧ SqL K H a (ps.map V.ref) ∧
  Paired (fun p (kv : List Key × V) => ∃ b, SqT K H p [.ref b, kv.2] ∧ H b = some (.tup (kv.1.map kV))) ps kvs ∧ (kvs.map (·.1)).Nodup ∧ ∀ p, H p = none → Q (.ref p) (upd H p (.dT kvs))
def pk (p : Int × Int) : List Key := [.inl p.1, .inl p.2]
/-- sorted(d): the keys are pairs of ints -/
def rSortedDT : List V → Hp → VK → Prop := fun vs H Q => ∃ (d : Addr) (kvs : List (List Key × V)) (ks : List (Int × Int)), vs = [.ref d] ∧ Rd H d (.dT kvs) ∧ kvs.map (·.1) = ks.map pk ∧ kvs.length ≤ 1000 ∧
  ∀ (bs : List (Addr × (Int × Int))) (p : Addr), (bs.map (·.2)).Perm ks → bs.Pairwise (fun x y => SrtO.lexB y.2 x.2 = false) → (∀ b ∈ bs, H b.1 = some (.tup [.int b.2.1, .int b.2.2])) → H p = none → Q (.ref p) (upd H p (.lst (bs.map fun b => V.ref b.1)))
/-- sorted(t), t a tuple of rows (i, j, (x, y)) that is rising: the same items -/
def rSortedTT (K : PySem.W.Frag) : List V → Hp → VK → Prop := fun vs H Q => ∃ (a : Addr) (bs : List (Addr × Addr × (Int × Int) × (Int × Int))), vs = [.ref a] ∧ SqT K H a (bs.map fun b => V.ref b.1) ∧
  (∀ b ∈ bs, SqT K H b.1 [.int b.2.2.1.1, .int b.2.2.1.2, .ref b.2.1] ∧ SqT K H b.2.1 [.int b.2.2.2.1, .int b.2.2.2.2]) ∧ bs.Pairwise (fun x y => SrtO.lexB x.2.2.1 y.2.2.1 = true) ∧ bs.length ≤ 1000 ∧
  ∀ p, H p = none → Q (.ref p) (upd H p (.lst (bs.map fun b => V.ref b.1)))
/-- xs[i::7]: some items of xs -/
def tSl7 (K : PySem.W.Frag) (te ti : TE) : TE := fun σ H Q => te σ H fun x H1 => ti σ H1 fun y H2 => ∃ a xs i, x = .ref a ∧ y = .int i ∧ SqL K H2 a xs ∧ 0 ≤ i ∧ i ≤ 1000 ∧ xs.length ≤ 100000 ∧
  ∀ p ys, (∀ z ∈ ys, z ∈ xs) → ys.length ≤ xs.length → H2 p = none → Q (.ref p) (upd H2 p (.lst ys))
/-- list(d.values()) -/
def tListVals (td : TE) : TE := fun σ H Q => td σ H fun x H1 => ∃ d kvs, x = .ref d ∧ Rd H1 d (.dT kvs) ∧ kvs.length ≤ 1000 ∧ ∀ p, H1 p = none → Q (.ref p) (upd H1 p (.lst (kvs.map (·.2))))
def IteT (K : PySem.W.Frag) (a : Addr) : It :=
  ⟨fun i H => ∃ xs x, SqT K H a xs ∧ xs[i]? = some x, fun i H v H' => ∃ T x, v = .ref T ∧ H T = none ∧ H' = upd H T (.tup [.int (i : Nat), x]) ∧ ∀ xs, SqT K H a xs → xs[i]? = some x, fun i H => ∃ xs, SqT K H a xs ∧ xs.length ≤ i⟩
def iEnumS (K : PySem.W.Frag) (ta : TA) : TI := fun σ H R => ta σ H fun vs H1 => ∃ a xs, vs = [.ref a] ∧ ((SqL K H1 a xs ∧ R (Ite K a) H1) ∨ (SqT K H1 a xs ∧ R (IteT K a) H1))
/-- len(set(xs)), xs tuples of ints, none twice -/
def tLenSetP (K : PySem.W.Frag) (ta : TE) : TE := fun σ H Q => ta σ H fun x H1 => ∃ (l : Addr) (ks : List (Addr × List Int)), x = .ref l ∧ SqL K H1 l (ks.map fun p => V.ref p.1) ∧ (∀ p ∈ ks, SqT K H1 p.1 (p.2.map V.int)) ∧ ks.length < 64 ∧ (ks.map (·.2)).Nodup ∧ Q (.int ks.length) H1
theorem nodup_le {α : Type} [DecidableEq α] : ∀ {l m : List α}, l.Nodup → (∀ x ∈ l, x ∈ m) → l.length ≤ m.length
  | [], _, _, _ => Nat.zero_le _
  | x :: r, m, hn, h => by
    obtain ⟨h1, h2⟩ := List.nodup_cons.mp hn
    have hx := h x List.mem_cons_self
    have := nodup_le (l := r) (m := m.erase x) h2 fun y hy => (List.mem_erase_of_ne (fun z => h1 (by rw [← z]; exact hy))).mpr (h y (List.mem_cons_of_mem _ hy))
    rw [List.length_erase_of_mem hx] at this
    have p : 0 < m.length := List.length_pos_of_mem hx
    rw [List.length_cons]
    omega
section
variable {X : Cx}
theorem get_list : PGet X (rIxL X.K) := by
  intro pins s σ H x y v u Q I rx ry h
  obtain ⟨p, xs, i, z, rfl, rfl, hq, he, q⟩ := h
  cases rx
  obtain ⟨t, rfl⟩ := ry
  obtain ⟨its, r, pl, hz⟩ := I.list hq
  obtain ⟨j, h1, h2, h3, h4, h5⟩ := atI_get he
  obtain ⟨w, ew, rw'⟩ := r.get h2
  have hl := r.length
  have hn := line63
  have fin : EP X pins σ Q w s := ⟨z, H, I, rw', q⟩
  by_cases h0 : 0 ≤ i
  · have hj : i.toNat = j := by
      rw [seqIndex_of h0 h5] at h1
      exact Option.some.inj h1
    exact wpAny_getItem_list pl.isList h0 (by omega) (by rw [hj]; simpa using ew) fin
  · have hj : (i + (its.toArray.size : Int)).toNat = j := by
      rw [seqIndex_neg (by omega) h4] at h1
      rw [List.size_toArray, ← hl]
      exact Option.some.inj h1
    exact wpAny_getItem_list_neg pl.isList (by omega) (by rw [List.size_toArray] <;> omega) (by omega) (by rw [hj]; simpa using ew) fin
end
set_option maxHeartbeats 1000000 in
theorem meets_enumT (l : Addr) (items : Array Value) (o : Obj) (B : PySem.Begins (.ref l) o fun h => h.IsTuple l items) :
    Meets (Builtin.«enumerate.__new__» ⟨[.type "enumerate", .ref l], []⟩) (fun _ R s => s.heap.IsTuple l items ∧
      R (.ok (.ret (.ref (s.heap.push o).objs.size))) { s with heap := (s.heap.push o).push { cls := .type "enumerate", data := .fields #[.none, .bool false, .ref s.heap.objs.size, rawInt 0, .none, .none] } }) :=
  .of_wp fun prog w A R s h => by
    obtain ⟨hp, g, d, tk, os⟩ := s; obtain ⟨h1, h⟩ := h
    have hsub := sub_enumerate
    have q1 : ∀ {A' : Around} {E : Value → Shared → Prop} {Q : Value → Shared → Prop}, Q (.ref hp.objs.size) ⟨hp.push o, g, d, tk, os⟩ → wpAny (model prog w) A' (pyIter (.ref l)) Q E ⟨hp, g, d, tk, os⟩ :=
      fun q => B.iter prog w _ _ ⟨hp, g, d, tk, os⟩ _ h1 q
    wp_walk using q1
    refine wpAny_stack_any fun st => wpAny_pure ?_
    split
    · rename_i c _ _ _ _ _
      cases (c == Value.type "enumerate")
      · wp_walk using q1
        exact ⟨_, rfl, h⟩
      · wp_walk using q1
        exact ⟨_, rfl, h⟩
    · wp_walk using q1
      exact ⟨_, rfl, h⟩
section
variable {prog : Program} {w : World} {A : Around} {E : Value → Shared → Prop} {s : Shared}
theorem call_enumerate_tuple {l : Addr} {items : Array Value} {Q : Value → Shared → Prop} (hL : s.heap.IsTuple l items)
    (h : ∀ h', IsEnum h' (s.heap.objs.size + 1) s.heap.objs.size 0 .none → h'.IsTupleIter s.heap.objs.size l 0 → h'.objs.size = s.heap.objs.size + 2 →
      (∀ b o, s.heap.get? b = some o → h'.get? b = some o) → Q (.ref (s.heap.objs.size + 1)) { s with heap := h' }) :
    wpAny (model prog w) A (call (.type "enumerate") [.ref l]) Q E s := by
  have B := PySem.begins_tuple l items
  refine callType_new F.called_enumerate (by decide) (F.typeCall_enumerate_1 _) (F.newCall_enumerate_1 _) (fun obj => F.args_object_init_2 obj _) F.entry_enumerate_new
    (meets_enumT l items _ B) ⟨hL, ?_⟩
  have hz : (s.heap.push { cls := .type "tuple_iterator", data := .fields #[.ref l, .int 0 0] }).objs.size = s.heap.objs.size + 1 := Heap.size_push ..
  show _ ∧ _
  rw [hz]
  have he : IsEnum ((s.heap.push { cls := .type "tuple_iterator", data := .fields #[.ref l, .int 0 0] }).push
      { cls := .type "enumerate", data := .fields #[.none, .bool false, .ref s.heap.objs.size, rawInt 0, .none, .none] }) (s.heap.objs.size + 1) s.heap.objs.size 0 .none := by
    have := Heap.get?_push_size (s.heap.push { cls := .type "tuple_iterator", data := .fields #[.ref l, .int 0 0] })
      (o := { cls := .type "enumerate", data := .fields #[.none, .bool false, .ref s.heap.objs.size, rawInt 0, .none, .none] }) rfl
    rw [hz] at this; exact this
  refine ⟨⟨_, he, rfl⟩, h _ he ⟨_, Heap.get?_push_of_some _ (Heap.get?_push_size _ rfl), rfl, rfl⟩ (by rw [Heap.size_push, hz]) fun b o x => Heap.get?_push_of_some _ (Heap.get?_push_of_some _ x)⟩
end
theorem turn_enumT {P : Program} {w : World} {K : PySem.W.Frag} {elts : List Expr} {kk : Nat} {tpos : Pos} (a e it : Addr) :
    Turn P w K (.Tuple elts kk tpos) (IteT K a) [e, it] e (fun i h => (∃ old, IsEnum h e it ((i : Nat) : Int) old) ∧ h.IsTupleIter it a i ∧ e ≠ it) where
  mem := by simp
  obj := fun i h st b hb => by
    obtain ⟨⟨old, he⟩, ⟨o, ho, hc, hd⟩, _⟩ := st
    have e' : b = e ∨ b = it := by simpa using hb
    rcases e' with z | z
    · rw [z]; exact ⟨_, he, fun v q => nomatch q⟩
    · rw [z]; exact ⟨o, ho, fun v q => by rw [hd] at q; cases q⟩
  keep := fun i h h' st k => let ⟨⟨old, he⟩, hi, hne⟩ := st; ⟨⟨old, k e (by simp) _ he⟩, hi.at fun o q => k it (by simp) o q, hne⟩
  item := by
    intro X hP hw hK hc i pins s σ H E I hf st hg
    subst hP hw hK
    obtain ⟨⟨old, he⟩, hit, hne⟩ := st
    obtain ⟨xs, x, hq, hx⟩ := hg
    obtain ⟨its, rv, p, hz⟩ := I.tuple hq
    obtain ⟨u, hu, ru⟩ := rv.get hx
    have p : s.heap.IsTuple a its.toArray := p
    have hel : e < s.heap.objs.size := Heap.lt_size he
    have hil : it < s.heap.objs.size := by obtain ⟨_, q, _⟩ := hit; exact Heap.lt_size q
    have nai : a ≠ it := fun z => by
      obtain ⟨o1, q1, c1, _⟩ := hit
      obtain ⟨o2, q2, c2, _⟩ := p
      rw [z, q1] at q2
      cases q2
      rw [c1] at c2
      exact absurd (Value.type.inj c2) (by decide)
    have nae : a ≠ e := fun z => by
      obtain ⟨o2, q2, c2, _⟩ := p
      rw [z, show s.heap.get? e = _ from he] at q2
      cases q2
      exact absurd (Value.type.inj c2) (by decide)
    have hx2 : its.toArray[i]? = some u := by simpa using hu
    have hh1 : X.A.in1.handled = none := I.ok.hd hc
    have D := PySem.Draws.tuple (prog := X.prog) (w := X.w) hh1 it a nai its.toArray
    refine wpAny_pyNext_enum_itemD D he ⟨hit, p⟩ (Array.getElem?_eq_some_iff.mp hx2).1 hne (by simp [hne, Ne.symm nae]) fun x1 h' tk hP ho hst' hT hsz hk => ?_
    have ex : x1 = u := Option.some.inj (hP.symm.trans hx2)
    subst ex
    refine ⟨_, rfl, wpAny_letOwnedTupleGo_enum (s := { s with heap := h', toks := tk + 1 }) ho fun h'' he' sb => ?_⟩
    have hT2 : h''.get? s.heap.objs.size = some { cls := .type "tuple", data := .seq #[.int i tk, x1] } := (sb.2 _ (Nat.ne_of_gt hel)).trans hT
    have new : ObjOk X.prog X.w (upd H s.heap.objs.size (.tup [.int (i : Nat), x])) h'' s.heap.objs.size (.tup [.int (i : Nat), x]) :=
      ⟨by show 2 ≤ sizeLine; decide, [.int i tk, x1], .cons ⟨_, rfl⟩ (.cons ru .nil), ⟨_, hT2, rfl, _, rfl⟩⟩
    have I1 : Inv X pins σ (upd H s.heap.objs.size (.tup [.int (i : Nat), x])) { s with heap := h'', toks := tk + 1 } :=
      I.turnedNew (ch := [e, it]) (fun b ob hb q => (sb.2 b (fun z => hb (by simp [z]))).trans (hk b ob (fun z => hb (by simp [z])) (fun z => hb (by simp [z])) q)) hf (Nat.le_refl _) new
    refine ⟨.ref s.heap.objs.size, _, I1, rfl, ⟨_, x, rfl, I.hok.fresh (Nat.le_refl _), rfl, fun ys hy => by rw [I.tuple_inj hy hq]; exact hx⟩, ⟨⟨x1, ?_⟩, hst'.1.at fun o q => (sb.2 it (Ne.symm hne)).trans q, hne⟩, fun b hb => ?_⟩
    · have e1 : ((i + 1 : Nat) : Int) = (i : Int) + 1 := by omega
      rw [e1]; exact he'
    · have hb' : b < s.heap.objs.size := by
        have e' : b = e ∨ b = it := by simpa using hb
        rcases e' with z | z
        · rw [z]; exact hel
        · rw [z]; exact hil
      rw [upd_ne (Nat.ne_of_lt hb')]
      exact (hf b hb).1
  done := by
    intro X hP hw hK hc i pins s σ H E I hf st hg
    subst hP hw hK
    obtain ⟨⟨old, he⟩, hit, hne⟩ := st
    obtain ⟨xs, hq, hx⟩ := hg
    obtain ⟨its, rv, p, hz⟩ := I.tuple hq
    have p : s.heap.IsTuple a its.toArray := p
    obtain ⟨f0, f1, f2, f3, f4, f5⟩ := hf it (by simp)
    have hl := rv.length
    have hh1 : X.A.in1.handled = none := I.ok.hd hc
    have hn : its.toArray[i]? = none := by simp; omega
    have hT : s.TypeIs (.ref e) "enumerate" := ⟨_, he, rfl⟩
    unfold pyNext
    refine wpAny_bind (wpAny_attempt (wpAny_callSpecial?_slot (name := Str.ofString "__next__") hT F.slot_enumerate_next
      (wpAny_call_entry F.slot_enumerate_next hT F.entry_enumerate_next ?_ (F.args_enumerate_next_1 _))))
    show wpAny _ _ (field (.ref e) 2 >>= _) _ _ _
    refine wpAny_bind (wpAny_field he rfl (x := .ref it) rfl ?_)
    refine wpAny_bind (PySem.wpAny_nextOf_tuple_end hh1 hit p hn fun h' x he' hx' => ?_)
    obtain ⟨o, ho, hcl⟩ := hx'
    refine wpAny_bind (wpAny_isInstance (T := "StopIteration") (b := true) ⟨o, ho, hcl⟩ isSubtype_stop ?_)
    exact wpAny_pure ⟨rfl, I.turned (t' := s.toks) (fun b o hb q => he' b o hb q) f0 f1 f3 f4 f5⟩
  self := fun A i s Q E st h => let ⟨⟨_, he⟩, _⟩ := st; wpAny_pyIter_enum he h
theorem pi_enumS {X : Cx} {e : Expr} {ta : TA} {p pos tpos : Pos} {elts : List Expr} {kk : Nat} (hg : Gl X "enumerate") (hm : X.mg "enumerate" = none) (ha : PA X [e] ta) (hs : starEach [e] X.env = [(false, eval e X.env)] := by rfl) :
    PI X (.Tuple elts kk tpos) (.Call (.Name "enumerate" p) [e] [] pos) (iEnumS X.K ta) := by
  refine ⟨fun pins s σ H R I h => ?_⟩
  refine Call_ (ld_blt I hg hm boot_enumerate (PyProof.Rows.callWith_type1 (thn (ha.run pos pins s σ H _ I h) fun us s1 ⟨vs, H1, I1, r1, q1⟩ => ?_) hs rfl))
  obtain ⟨a, xs, ex, q⟩ := q1
  subst ex
  cases r1 with
  | cons r rr =>
    cases rr
    cases r
    have fr : ∀ b ∈ [s1.heap.objs.size + 1, s1.heap.objs.size], FpOk X pins H1 b := fun b hb => by
      have e' : b = s1.heap.objs.size + 1 ∨ b = s1.heap.objs.size := by simpa using hb
      have hle : s1.heap.objs.size ≤ b := by
        rcases e' with z | z
        · rw [z]; exact Nat.le_add_right _ _
        · rw [z]; exact Nat.le_refl _
      exact I1.fpOk hle (I1.hok.fresh hle)
    rcases q with ⟨hq, q⟩ | ⟨hq, q⟩
    · obtain ⟨its, rv, p', hz⟩ := I1.list hq
      refine call_enumerate_list p'.isList fun h' he hit hsz hk => wpAny_pyIter_enum he ?_
      have I2 : Inv X pins σ H1 { s1 with heap := h' } := I1.kept (t' := s1.toks) hk
      exact ⟨s1.heap.objs.size + 1, [s1.heap.objs.size + 1, s1.heap.objs.size], _, _, H1, rfl, I2, turn_enum a (s1.heap.objs.size + 1) s1.heap.objs.size, ⟨⟨.none, he⟩, hit, Nat.succ_ne_self _⟩, fr, q⟩
    · obtain ⟨its, rv, p', hz⟩ := I1.tuple hq
      refine call_enumerate_tuple (show s1.heap.IsTuple a its.toArray from p') fun h' he hit hsz hk => wpAny_pyIter_enum he ?_
      have I2 : Inv X pins σ H1 { s1 with heap := h' } := I1.kept (t' := s1.toks) hk
      exact ⟨s1.heap.objs.size + 1, [s1.heap.objs.size + 1, s1.heap.objs.size], _, _, H1, rfl, I2, turn_enumT a (s1.heap.objs.size + 1) s1.heap.objs.size, ⟨⟨.none, he⟩, hit, Nat.succ_ne_self _⟩, fr, q⟩
theorem vals_fm {xs : List V} {its : List Value} (r : Vals xs its) : ∀ l : List Nat, Vals (l.filterMap (xs[·]?)) (l.filterMap (its[·]?))
  | [] => .nil
  | k :: l => by
    have ih := vals_fm r l
    rw [List.filterMap_cons, List.filterMap_cons]
    cases h : xs[k]? with
    | none =>
      have hl := r.length
      have : its[k]? = none := List.getElem?_eq_none (by have := List.getElem?_eq_none_iff.mp h; omega)
      rw [this]
      exact ih
    | some x =>
      obtain ⟨u, hu, ru⟩ := r.get h
      rw [hu]
      exact .cons ru ih
theorem pe_sl7 {X : Cx} {e lo : Expr} {te ti : TE} {j : Nat} {p1 p2 pos : Pos} (he : PE X e te) (hl : PE X lo ti) : PE X (.Subscript e (.Slice (some lo) none (some (.Constant (.int 7) j p1)) p2) pos) (tSl7 X.K te ti) := by
  refine ⟨fun pins s σ H Q I h => ?_⟩
  refine Subscript_ (thn (he.run pins s σ H _ I h) fun v s1 ⟨x, H1, I1, r1, q1⟩ => ?_)
  have hst : PO X (some (.Constant (.int 7) j p1)) (tPart (tC (.int 7))) := po_some pe_int
  have hlo : PO X (some lo) (tPart ti) := po_some hl
  refine wpAny_Slice (thn (hlo.run pins s1 σ H1 (fun o H2 => ∃ i, o = some i ∧ ∃ a xs, x = .ref a ∧ SqL X.K H2 a xs ∧ 0 ≤ i ∧ i ≤ 1000 ∧ xs.length ≤ 100000 ∧ ∀ p ys, (∀ z ∈ ys, z ∈ xs) → ys.length ≤ xs.length → H2 p = none → Q (.ref p) (upd H2 p (.lst ys))) I1 (?_ : ti σ H1 _)) fun vl s2 ⟨l, H2, I2, pl, i, el, a, xs, ex, hx, i0, i1, lx, q⟩ => ?_)
  · have : (fun (y : V) (H2 : Hp) => ∃ a xs i, x = .ref a ∧ y = .int i ∧ SqL X.K H2 a xs ∧ 0 ≤ i ∧ i ≤ 1000 ∧ xs.length ≤ 100000 ∧ ∀ p ys, (∀ z ∈ ys, z ∈ xs) → ys.length ≤ xs.length → H2 p = none → Q (.ref p) (upd H2 p (.lst ys))) = (fun (y : V) (H2 : Hp) => ∃ i', y = .int i' ∧ ∃ i, some i' = some i ∧ ∃ a xs, x = .ref a ∧ SqL X.K H2 a xs ∧ 0 ≤ i ∧ i ≤ 1000 ∧ xs.length ≤ 100000 ∧ ∀ p ys, (∀ z ∈ ys, z ∈ xs) → ys.length ≤ xs.length → H2 p = none → Q (.ref p) (upd H2 p (.lst ys))) := by
      funext y H2
      apply propext
      constructor
      · rintro ⟨a, xs, i, h1, h2, h3⟩
        exact ⟨i, h2, i, rfl, a, xs, h1, h3⟩
      · rintro ⟨i', h1, i, h2, a, xs, h3, h4⟩
        cases h2
        exact ⟨a, xs, i', h3, h1, h4⟩
    rw [← this]
    exact q1
  subst ex el
  cases r1
  refine thn (po_none.run pins s2 σ H2 (fun o H3 => o = none ∧ H3 = H2) I2 ⟨rfl, rfl⟩) fun vu s3 ⟨u, H3, I3, pu, eu, e3⟩ => ?_
  subst eu e3
  refine thn (hst.run pins s3 σ H3 (fun o H4 => o = some 7 ∧ H4 = H3) I3 ⟨7, rfl, rfl, rfl⟩) fun vs s4 ⟨o, H4, I4, ps, eo, e4⟩ => ?_
  subst eo e4
  have I5 : Inv X pins σ H4 { s4 with heap := s4.heap.push { cls := .type "slice", data := .fields #[vl, vu, vs] } } := I4.kept (t' := s4.toks) fun b ob q => Heap.get?_push_of_some _ q
  obtain ⟨its, r, ht, hz⟩ := I5.list hx
  have hlen := r.length
  show wpAny (model X.prog X.w) X.A (subscriptTail e (.Slice (some lo) none (some (.Constant (.int 7) j p1)) p2) (.ref a) (.ref s4.heap.objs.size)) (EP X pins σ Q) X.xe { s4 with heap := s4.heap.push { cls := .type "slice", data := .fields #[vl, vu, vs] } }
  refine tail_any (ops := [.ref a, .ref s4.heap.objs.size]) ht.isList.typeIs (PySem.slot_list_getitem.lookup) ?_ (by with_unfolding_all rfl)
  refine wpAny_getItem_list_slice ht.isList (Heap.IsSliceOf.new _ vl vu vs) pl pu ps (by decide) ?_ (by rw [List.size_toArray]; omega)
  have hsz := slicePick_size_le its.toArray (some i) none (some 7)
  unfold slicePick at hsz ⊢
  generalize (sliceRange (sliceBounds (some i) none (some 7) its.toArray.size).1 (sliceBounds (some i) none (some 7) its.toArray.size).2.1 (sliceBounds (some i) none (some 7) its.toArray.size).2.2) = rg at *
  have r2 := vals_fm r rg
  have l2 := r2.length
  have e5 : (rg.filterMap (its.toArray[·]?)) = rg.filterMap (its[·]?) := by
    congr 1
    funext k
    simp
  rw [e5] at hsz ⊢
  rw [List.size_toArray, List.size_toArray] at hsz
  refine ⟨.ref _, _, I5.laid (t' := s4.toks) (o := .lst (rg.filterMap (xs[·]?))) (fun b ob q => Heap.get?_push_of_some _ q) (Nat.le_refl _) ?_, rfl, q _ _ (fun z hz => ?_) (by omega) (I5.hok.fresh (Nat.le_refl _))⟩
  · exact ⟨by omega, _, 0, r2, Heap.get?_push_size _ rfl⟩
  · obtain ⟨k, _, hk⟩ := List.mem_filterMap.mp hz
    exact List.mem_of_getElem? hk
theorem kt_vals {H : Hp} : ∀ {kvs : List (List Key × V)} {ks : List (List Key × Addr × Value)}, KT H kvs ks → Vals (kvs.map (·.2)) (ks.map fun x => x.2.2)
  | _, _, .nil => .nil
  | _, _, .cons h t => .cons h.2.2 (kt_vals t)
theorem pe_listVals {X : Cx} {e : Expr} {td : TE} {p pos apos cpos : Pos} (hc : X.calm = true) (hg : Gl X "list") (hm : X.mg "list" = none) (he : PE X e td)
    (hbase : attributeBase e "values" X.env (eval e X.env) = eval e X.env := by rfl) (hline : (apos.endLine == cpos.line) = true := by rfl)
    (hse : starEach [Expr.Call (.Attribute e "values" apos) [] [] cpos] X.env = [(false, eval (Expr.Call (.Attribute e "values" apos) [] [] cpos) X.env)] := by rfl) :
    PE X (.Call (.Name "list" p) [.Call (.Attribute e "values" apos) [] [] cpos] [] pos) (tListVals td) := by
  refine ⟨fun pins s σ H Q I h => ?_⟩
  refine wpAny_Call_Name_kw (ld_blt I hg hm (u := .type "list") (by first | rfl | decide +kernel) ?_ (by first | decide +kernel | decide) (by first | decide +kernel | decide))
  rw [hse]
  refine PySem.callWith_type1 (wpAny_Call_method0_late hbase hline (thn (he.run pins s σ H _ I h) fun v s1 ⟨x, H1, I1, r1, a, kvs, ex, ha, hv, q⟩ => ?_))
  subst ex
  obtain rfl : v = Value.ref a := r1
  obtain ⟨z, hs, ks, pr, o, es, ep, ho, hx, hdt, hen, hn⟩ := (show ObjOk X.prog X.w H1 s1.heap a (.dT kvs) from ha.ok I1.hok)
  refine ⟨"dict", "dict.values", F.plainAttrs_dict, F.slot_dict_values, F.type_dict_values, ⟨o, ho, hx.1⟩, fun b e => ?_, Calls.callWith_builtin rfl (PySem.evalArgs_none ?_)⟩
  · cases e
    exact ⟨o, ho, hx.2.1⟩
  have raw : s1.heap.DictRaw a es ep := ⟨o, ho, hx, hdt⟩
  refine call_meetsIn F.slot_dict_values ⟨o, ho, hx.1⟩ F.entry_dict_values (F.args_dict_values_1 _) (meets_dict_values_raw a hs) ⟨?_, ?_⟩
  · exact ⟨es, ep, raw⟩
  have l1 : es.size = ks.length := size_of_entries hen
  have l2 : kvs.length = ks.length := Paired.length pr
  have k1 : ∀ b u, s1.heap.get? b = some u → (s1.heap.push { cls := .type "dict_values", data := .fields #[.ref a] }).get? b = some u := fun b u e => Heap.get?_push_of_some _ e
  have I2 : Inv X pins σ H1 { s1 with heap := s1.heap.push { cls := .type "dict_values", data := .fields #[.ref a] } } := I1.kept (t' := s1.toks) k1
  refine PySem.W.kdl_call (s := { s1 with heap := s1.heap.push { cls := .type "dict_values", data := .fields #[.ref a] } }) (PySem.KdlSrc.rawValues (r := s1.heap.objs.size) (d := a) (es := es) (ep := ep)) (I.ok.hd hc) ⟨⟨_, Heap.get?_push_size _ rfl, rfl, rfl⟩, ⟨o, k1 _ _ ho, hx, hdt⟩⟩ (by omega) fun h' tk acc' c' kp e it => ?_
  have ea : acc'.toList = ks.map fun x => x.2.2 := by
    have hl : acc'.toList.length = ks.length := by rw [Array.length_toList, it.1]; exact l1
    apply List.ext_getElem?
    intro j
    rw [List.getElem?_map]
    cases hj : acc'.toList[j]? with
    | none =>
      have h1 := List.getElem?_eq_none_iff.mp hj
      rw [List.getElem?_eq_none (by omega)]
      all_goals rfl
    | some v =>
      obtain ⟨hi, hv⟩ := it.2 j v (by rw [← Array.getElem?_toList]; exact hj)
      have qe := entry_at hen j
      rw [Array.getElem?_eq_getElem hi] at qe
      cases hb : ks[j]? with
      | none =>
        rw [hb] at qe
        exact nomatch (show some es[j] = none from qe)
      | some b =>
        rw [hb] at qe
        have e2 : es[j] = entryOfKey (tupleKind (mixKind X.prog X.w)) b := Option.some.inj qe
        rw [hv, e2]
        all_goals rfl
  have rv : Vals (kvs.map (·.2)) acc'.toList := by
    rw [ea]
    exact kt_vals pr
  have hz : (kvs.map (·.2)).length ≤ sizeLine := by rw [List.length_map]; omega
  refine ⟨.ref _, _, I2.laid (t' := tk) (o := .lst (kvs.map (·.2))) kp (Nat.le_refl _) ?_, rfl, q _ (I2.hok.fresh (Nat.le_refl _))⟩
  exact ⟨hz, acc'.toList, c', rv, by rw [Array.toArray_toList]; exact e⟩
def kOf (H : Hp) : Value → Int × Int
  | .ref t => match H t with
    | some (.tup [.int a, .int b]) => (a, b)
    | _ => (0, 0)
  | _ => (0, 0)
theorem kOf_at {H : Hp} {t : Addr} {a b : Int} (h : H t = some (.tup [.int a, .int b])) : kOf H (.ref t) = (a, b) := by simp only [kOf, h]
def adOf : Value → Addr
  | .ref t => t
  | _ => 0
theorem kt_refs {H : Hp} : ∀ {kvs : List (List Key × V)} {ks : List (List Key × Addr × Value)} {ps : List (Int × Int)}, KT H kvs ks → kvs.map (·.1) = ps.map pk → ∀ u ∈ ks.map (fun x => Value.ref x.2.1), ∃ t, u = .ref t ∧ H t = some (.tup [.int (kOf H u).1, .int (kOf H u).2])
  | _, _, _, .nil, _, u, hu => by cases hu
  | _, _, [], .cons h t, e, u, hu => by cases e
  | _, _, p :: ps, .cons h t, e, u, hu => by
    rw [List.map_cons, List.map_cons] at e
    injection e with e1 e2
    rcases List.mem_cons.mp hu with q | q
    · have h2 := h.2.1
      rw [e1] at h2
      subst q
      refine ⟨_, rfl, ?_⟩
      rw [kOf_at h2]
      exact h2
    · exact kt_refs t e2 u q
theorem kt_keys {H : Hp} : ∀ {kvs : List (List Key × V)} {ks : List (List Key × Addr × Value)} {ps : List (Int × Int)}, KT H kvs ks → kvs.map (·.1) = ps.map pk → (ks.map fun x => Value.ref x.2.1).map (kOf H) = ps
  | _, _, [], .nil, _ => rfl
  | _, _, _ :: _, .nil, e => by cases e
  | _, _, [], .cons h t, e => by cases e
  | _, _, p :: ps, .cons h t, e => by
    rw [List.map_cons, List.map_cons] at e
    injection e with e1 e2
    have h2 := h.2.1
    rw [e1] at h2
    rw [List.map_cons, List.map_cons, kt_keys t e2, kOf_at h2]
theorem cr_sortedDT {X : Cx} (hc : X.calm = true) : CallR X (.builtin "sorted") rSortedDT := by
  intro pins s σ H xs us Q I r h
  obtain ⟨d, kvs, ps, rfl, hd, hps, h16, q⟩ := h
  obtain ⟨u, rfl, rx⟩ := vals1 r
  cases rx
  obtain ⟨z, hs, ks, pr, o, es, ep, ho, hx, hdt, hen, hn⟩ := (show ObjOk X.prog X.w H s.heap d (.dT kvs) from hd.ok I.hok)
  have l1 : es.size = ks.length := size_of_entries hen
  have l2 : kvs.length = ks.length := Paired.length pr
  refine Calls.call_function_entry PyProof.Rows.kind_sorted PyProof.Rows.plain_sorted PyProof.Rows.entry_sorted (PyProof.Rows.args_sorted1 _) ?_
  unfold Builtin.«sorted»
  refine wpAny_bind (m := checkCount "sorted" 1 1 _) (wpAny_pure ?_)
  refine wpAny_bind (PySem.W.kdu_collect (A := X.A.in1) (kdl_raw hs hx hdt) (I.ok.hd hc) ho (by rw [sizeLine_eq]; omega) fun h' tk acc hk it => ?_)
  have ea : acc.toList = ks.map fun x => Value.ref x.2.1 := by
    have hl : acc.toList.length = ks.length := by rw [Array.length_toList, it.1]; exact l1
    apply List.ext_getElem?
    intro j
    rw [List.getElem?_map]
    cases hj : acc.toList[j]? with
    | none =>
      have h1 := List.getElem?_eq_none_iff.mp hj
      rw [List.getElem?_eq_none (by omega)]
      all_goals rfl
    | some v =>
      obtain ⟨en, hen2, hv⟩ := it.2 j v (by rw [← Array.getElem?_toList]; exact hj)
      have qe := entry_at hen j
      rw [hen2] at qe
      cases hb : ks[j]? with
      | none =>
        rw [hb] at qe
        exact nomatch (show some en = none from qe)
      | some b =>
        rw [hb] at qe
        have e2 : en = entryOfKey (tupleKind (mixKind X.prog X.w)) b := Option.some.inj qe
        rw [hv, e2]
        all_goals rfl
  have hal : acc.toList.length = ks.length := by rw [ea, List.length_map]
  have I1 : Inv X pins σ H { s with heap := h', toks := tk } := I.kept hk
  have hzl : acc.toList.length ≤ sizeLine := by rw [hal, sizeLine_eq]; omega
  refine wpAny_bind (wpAny_newList ?_ hzl)
  have hoL : (h'.push (seqObj "list" acc.toList.toArray 0)).get? h'.objs.size = some (seqObj "list" acc.toList.toArray 0) := Heap.get?_push_size _ rfl
  show wpAny _ _ _ _ _ { s with heap := h'.push (seqObj "list" acc.toList.toArray 0), toks := tk }
  have kr := kt_refs pr hps
  rw [← ea] at kr
  have kk := kt_keys pr hps
  rw [← ea] at kk
  refine wpAny_bind (wpAny_holding (wpAny_call_entry PyProof.Rows.slot_list_sort ⟨_, hoL, rfl⟩ PyProof.Rows.entry_list_sort
    (SrtO.list_sort_ord (s := { s with heap := h'.push (seqObj "list" acc.toList.toArray 0), toks := tk }) (SrtO.swo_lex (kOf H)) hoL hzl (fun h2 => ?_) fun out hs hb => ⟨_, rfl, ?_⟩) (PyProof.Rows.args_list_sort _)))
  · refine SrtO.pairs_sortableO (by omega) (fun v hm => ?_) fun o e => ?_
    · obtain ⟨t, rfl, ht⟩ := kr v hm
      obtain ⟨_, its2, r2, o, ho, hc, n, hd⟩ := I1.hok _ _ ht
      obtain ⟨u1, u2, rfl, ri, rj⟩ := vals2 r2
      obtain ⟨t1, ri⟩ := ri
      obtain ⟨t2, rj⟩ := rj
      exact ⟨t, o, t1, t2, n, rfl, Heap.get?_push_of_some _ ho, hc, by rw [hd, ri, rj]⟩
    · have e' : some o = some (seqObj "list" acc.toList.toArray 0) := e.symm.trans hoL
      cases e'
      intro c
      exact absurd (Value.type.inj c) (by decide)
  · obtain ⟨e', he'⟩ := PyProof.Rows.sortedHeap_at (vs := acc.toList) (out := out.toArray) hoL
    have hr : ∀ u ∈ out, ∃ t, u = Value.ref t ∧ H t = some (.tup [.int (kOf H u).1, .int (kOf H u).2]) := fun u hu => kr u (hb.perm.mem_iff.mp hu)
    have eo : (out.map fun u => (adOf u, kOf H u)).map (fun b => V.ref b.1) = out.map fun u => V.ref (adOf u) := by rw [List.map_map]; rfl
    have rv : ∀ (l : List Value), (∀ u ∈ l, ∃ t, u = Value.ref t ∧ H t = some (.tup [.int (kOf H u).1, .int (kOf H u).2])) → Vals (l.map fun u => V.ref (adOf u)) l := by
      intro l hl
      induction l with
      | nil => exact .nil
      | cons a l ih =>
        obtain ⟨t, rfl, _⟩ := hl a List.mem_cons_self
        exact .cons rfl (ih fun u hu => hl u (List.mem_cons_of_mem _ hu))
    have hlen : ((out.map fun u => (adOf u, kOf H u)).map (fun b => V.ref b.1)).length ≤ sizeLine := by
      rw [eo, List.length_map, hb.len]
      exact hzl
    refine wpAny_pure ⟨_, rfl, .ref h'.objs.size, upd H h'.objs.size (.lst ((out.map fun u => (adOf u, kOf H u)).map fun b => V.ref b.1)), I1.laid (t' := tk) (fun b u e => ?_) (Nat.le_refl _)
      (show ObjOk X.prog X.w _ _ _ (.lst _) from ⟨hlen, out, e', by rw [eo]; exact rv out hr, he'⟩), rfl, q _ _ ?_ ?_ (fun b hb2 => ?_) (I1.hok.fresh (Nat.le_refl _))⟩
    · have hb2 : b < h'.objs.size := Heap.lt_size e
      rw [PyProof.Rows.sortedHeap_old (Nat.ne_of_lt hb2) (by rw [size_push']; exact Nat.lt_succ_of_lt hb2)]
      exact Heap.get?_push_of_some _ e
    · rw [List.map_map]
      have : ((fun x : Addr × (Int × Int) => x.2) ∘ fun u => (adOf u, kOf H u)) = kOf H := rfl
      rw [this, ← kk]
      exact hb.perm.map _
    · exact List.pairwise_map.mpr hs
    · obtain ⟨u, hu, rfl⟩ := List.mem_map.mp hb2
      obtain ⟨t, rfl, ht⟩ := hr u hu
      exact ht
section
variable {prog : Program} {w : World} {A : Around} {E : Value → Shared → Prop} {s : Shared}
theorem collect_tuple {l : Addr} {vs : List Value} {Q : List Value → Shared → Prop} (hl : s.heap.IsTuple l vs.toArray)
    (h : Q vs { s with heap := (s.heap.push (seqObj "list" #[] 0)).update s.heap.objs.size (Obj.mapSeq (· ++ vs.toArray)) }) (hsz : vs.length ≤ sizeLine) :
    wpAny (model prog w) A (collect (.ref l)) Q E s := by
  obtain ⟨o, ho, hc, n, hd⟩ := id hl
  unfold collect
  refine wpAny_bind (wpAny_runValue (codeAny_builtin entry_proto_collect' ?_))
  show wpAny _ _ (do again (.builtin "list.__iadd__" ⟨[← newList [], .ref l], []⟩)) _ _ s
  refine wpAny_bind (wpAny_newList (wpAny_pure ⟨Code.quiet_builtin _ (by decide +kernel), codeAny_builtin entry_list_iadd' ?_⟩))
  show wpAny _ _ (Builtin.List.listExtendWith (.ref s.heap.objs.size) (.ref l) (.ref s.heap.objs.size)) _ _ { s with heap := s.heap.push (seqObj "list" #[] 0) }
  unfold Builtin.List.listExtendWith
  have ho' : (s.heap.push (seqObj "list" #[] 0)).get? l = some o := Heap.get?_push_of_some _ ho
  refine wpAny_bind (wpAny_typeOf (T := "tuple") ⟨o, ho', hc⟩ ?_)
  have ht : (Value.type "tuple" == Value.type "tuple") = true := by rfl
  rw [if_pos (by rw [ht]; simp)]
  refine wpAny_bind (listItems_at ho' hd ?_)
  refine wpAny_bind (listItems_at (xs := #[]) (n := 0) (Heap.get?_push_size _ rfl) rfl ?_)
  rw [if_neg (by simp)]
  refine wpAny_bind (listUpdate_at (xs := #[]) (n := 0) (Heap.get?_push_size _ rfl) rfl ?_ (Nat.zero_le _) (by show (#[] ++ vs.toArray).size ≤ sizeLine + 1; simp only [Array.size_append, List.size_toArray, List.length_nil]; omega))
  refine wpAny_pure ?_
  show wpAny (model prog w) A (do
      let o ← load s.heap.objs.size
      match o.data with
      | .seq xs _ => pure xs.toList
      | _ => unsupported "internal:collect") Q E { s with heap := (s.heap.push (seqObj "list" #[] 0)).update s.heap.objs.size (Obj.mapSeq (· ++ vs.toArray)) }
  refine wpAny_bind (wpAny_load (get?_update_seq (Heap.get?_push_size _ rfl) _) ?_)
  show wpAny _ _ (pure ((#[] : Array Value) ++ vs.toArray).toList) Q E _
  rw [show ((#[] : Array Value) ++ vs.toArray).toList = vs by simp]
  exact wpAny_pure h
end
section
open PySem.W PySem.Calls
variable {prog : Program} {w : World} {A : Around} {E : Value → Shared → Prop} {s : Shared} {β : Type} {R : Value → β → Prop} {enc : β → PyData} {vs : List Value} {bs : List β}
theorem sorted_of_sortT {l : Addr} {Q : Value → Shared → Prop} (hl : s.heap.IsTuple l vs.toArray) (hL : vs.length ≤ sizeLine)
    (body : ∀ E' : Value → Shared → Prop, wpAny (model prog w) A.in1.in1 (Builtin.«list.sort» ⟨[.ref (s.heap.objs.size + 1)], []⟩) (fun f s' => f = .done (.ret .none) ∧ Q (.ref (s.heap.objs.size + 1)) s') E' { s with heap := copyHeap s.heap vs }) :
    wpAny (model prog w) A (call (.builtin "sorted") [.ref l] []) Q E s := by
  refine call_function_entry_kw kind_sorted plain_sorted entry_sorted (args_sorted1 _) ?_
  unfold Builtin.«sorted»
  refine wpAny_bind (m := checkCount "sorted" 1 1 _) (wpAny_pure ?_)
  refine wpAny_bind (collect_tuple hl ?_ hL)
  refine wpAny_bind (wpAny_newList ?_ hL)
  have hsz : ((s.heap.push (seqObj "list" #[] 0)).update s.heap.objs.size (Obj.mapSeq (· ++ vs.toArray))).objs.size = s.heap.objs.size + 1 := by
    rw [Heap.size_update, size_push']
  show wpAny _ _ _ _ _ { s with heap := copyHeap s.heap vs }
  rw [hsz]
  refine wpAny_bind (wpAny_holding (wpAny_call_entry_kw slot_list_sort ⟨_, copyHeap_at s.heap vs, rfl⟩ entry_list_sort ?body (args_list_sort _)))
  case body =>
    show wpAny (model prog w) A.in1.in1 (Builtin.«list.sort» ⟨[.ref (s.heap.objs.size + 1)], []⟩) _ _ _
    refine wpAny_mono (body _) (fun f s' hf => ?_) fun _ _ e => e
    obtain ⟨rfl, hq⟩ := hf
    exact ⟨_, rfl, wpAny_pure ⟨_, rfl, hq⟩⟩
theorem sorted_dataT {l : Addr} {Q : Value → Shared → Prop} (hl : s.heap.IsTuple l vs.toArray) (e : EachIs R vs bs) (er : EachIs (fun v b => ∃ as, Reads s.heap v (enc b) as) vs bs) (hal : AllAlike (bs.map enc)) (hk : Sortable (bs.map enc)) (hL : bs.length ≤ sizeLine)
    (hu : ∀ b, b ∈ bs → A.units + 2 + (enc b).depth < cLine) (h : ∀ out, out.length = bs.length → EachIs R out (bs.mergeSort (dataLe false enc)) → Q (.ref (s.heap.objs.size + 1)) { s with heap := sortedAll s.heap vs (List.toArray out) }) :
    wpAny (model prog w) A (call (.builtin "sorted") [.ref l] []) Q E s := by
  have er' : EachIs (fun v b => ∃ as, Reads (sortingHeap (copyHeap s.heap vs) (s.heap.objs.size + 1) vs) v (enc b) as) vs bs := er.mono fun _ _ ⟨as, r⟩ => ⟨as, PyProof.Rows.Reads.keeps (fun _ _ => sorting_copy_old) r⟩
  have S := SortsAt.data (prog := prog) (w := w) (A := A.in1.in1) (s := { s with heap := sortingHeap (copyHeap s.heap vs) (s.heap.objs.size + 1) vs }) (each_map (R := fun v d => ∃ as, Reads (sortingHeap (copyHeap s.heap vs) (s.heap.objs.size + 1) vs) v d as) enc er') hal hk (bound_map hu)
  exact sorted_of_sortT hl (by rw [e.length]; exact hL) fun _ => list_sort_vals (s := { s with heap := copyHeap s.heap vs }) (copyHeap_at s.heap vs) S (by rw [e.length]; exact hL) ⟨rfl, h _ (by rw [sortVals_length false rfl]; exact e.length) (sortVals_data false e er' hal)⟩
end
abbrev BRow := Addr × Addr × (Int × Int) × (Int × Int)
def encB (b : BRow) : PyData := .tuple [.int b.2.2.1.1, .int b.2.2.1.2, .tuple [.int b.2.2.2.1, .int b.2.2.2.2]]
theorem encB_alike (b c : BRow) : PySem.W.alike (encB b) (encB c) = true := by
  unfold encB
  simp [PySem.W.alike, PySem.W.alikeAll]
theorem encB_lt {b c : BRow} (h : SrtO.lexB b.2.2.1 c.2.2.1 = true) : PySem.W.dataLt (encB c) (encB b) = false := by
  have hl := SrtO.lexB_iff.mp h
  unfold encB
  rw [PySem.W.dataLt_tuple, PySem.W.dataLt_cons (by simp [PySem.W.alike])]
  by_cases e1 : c.2.2.1.1 = b.2.2.1.1
  · rw [if_pos (by simp [PyData.eqv, e1]), PySem.W.dataLt_cons (by simp [PySem.W.alike])]
    have e2 : ¬ c.2.2.1.2 = b.2.2.1.2 := by omega
    rw [if_neg (by simp [PyData.eqv, e2]), PySem.W.dataLt_int]
    exact decide_eq_false (by omega)
  · rw [if_neg (by simp [PyData.eqv, e1]), PySem.W.dataLt_int]
    exact decide_eq_false (by omega)
theorem each_bs {bs : List BRow} : PySem.W.EachIs (fun v (b : BRow) => v = Value.ref b.1) (bs.map fun b => Value.ref b.1) bs := by
  induction bs with
  | nil => exact .nil
  | cons b bs ih => exact .cons rfl ih
theorem each_out : ∀ {out : List Value} {bs : List BRow}, PySem.W.EachIs (fun v (b : BRow) => v = Value.ref b.1) out bs → out = bs.map fun b => Value.ref b.1
  | _, _, .nil => rfl
  | _, _, .cons h t => by rw [h, each_out t]; rfl
theorem each_rd {X : Cx} {pins : List (Addr × Obj)} {σ : L2.St} {H : Hp} {s : Shared} (I : L2.Inv X pins σ H s) : ∀ {bs : List BRow}, (∀ b ∈ bs, SqT X.K H b.1 [.int b.2.2.1.1, .int b.2.2.1.2, .ref b.2.1] ∧ SqT X.K H b.2.1 [.int b.2.2.2.1, .int b.2.2.2.2]) →
    PySem.W.EachIs (fun v b => ∃ as, Reads s.heap v (encB b) as) (bs.map fun b => Value.ref b.1) bs
  | [], _ => .nil
  | b :: bs, h => by
    obtain ⟨h1, h2⟩ := h b List.mem_cons_self
    refine .cons ?_ (each_rd I fun c hc => h c (List.mem_cons_of_mem _ hc))
    exact Dp.reads I (encB b) (.ref b.1) (.ref b.1) (.tup h1 (.cons (.int _) (.cons (.int _) (.cons (.tup h2 (.cons (.int _) (.cons (.int _) .nil))) .nil)))) rfl
theorem vals_bs : ∀ bs : List BRow, Vals (bs.map fun b => V.ref b.1) (bs.map fun b => Value.ref b.1)
  | [] => .nil
  | _ :: bs => .cons rfl (vals_bs bs)
theorem vals_uniq {bs : List BRow} : ∀ {its : List Value}, Vals (bs.map fun b => V.ref b.1) its → its = bs.map fun b => Value.ref b.1 := by
  induction bs with
  | nil => intro its h; cases h; rfl
  | cons b bs ih =>
    intro its h
    cases h with
    | cons r t =>
      rw [List.map_cons, ← ih t]
      cases r
      rfl
theorem cr_sortedTT {X : Cx} {k : Nat} (hr : Room k X.A) : CallR X (.builtin "sorted") (rSortedTT X.K) := by
  intro pins s σ H xs us Q I r h
  obtain ⟨a, bs, rfl, ha, hb, up, lb, q⟩ := h
  obtain ⟨u, rfl, rx⟩ := vals1 r
  cases rx
  obtain ⟨its, rv, p, hz⟩ := I.tuple ha
  have ei := vals_uniq rv
  subst ei
  refine sorted_dataT (enc := encB) (R := fun v b => v = Value.ref b.1) (show s.heap.IsTuple a _ from p) each_bs (each_rd I hb) (PySem.W.AllAlike.of encB_alike) (PySem.W.Sortable.tuples fun b => ⟨_, _, rfl⟩) (by rw [sizeLine_eq]; omega) (fun b _ => ?_) fun out lo eo => ?_
  · have hu := hr.units
    have : (encB b).depth ≤ 2 := by
      unfold encB
      simp [PyData.depth, PyData.depthAll]
    omega
  · have hs : bs.Pairwise fun x y => PySem.W.dataLe false encB x y = true := up.imp fun {x y} h => by
      rw [PySem.W.dataLe_eq]
      show (!PySem.W.dataLt (encB y) (encB x)) = true
      rw [encB_lt h]
      rfl
    rw [List.mergeSort_of_pairwise hs] at eo
    have e1 := each_out eo
    subst e1
    obtain ⟨n, hn⟩ := PyProof.Rows.sortedAll_at s.heap (bs.map fun b => Value.ref b.1) (bs.map fun b => Value.ref b.1).toArray
    refine ⟨.ref (s.heap.objs.size + 1), _, I.laid (t' := s.toks) (fun b o e => PyProof.Rows.sortedAll_old e) (Nat.le_succ _) (show ObjOk X.prog X.w _ _ _ (.lst (bs.map fun b => V.ref b.1)) from ⟨hz, _, n, vals_bs bs, hn⟩), rfl, q _ (I.hok.fresh (Nat.le_succ _))⟩
theorem atKey_no {κ : Type} [DecidableEq κ] {k : κ} : ∀ {xs : List (κ × Addr × Value)}, k ∉ xs.map (·.1) → PySem.atKey xs k = none
  | [], _ => by simp [PySem.atKey]
  | x :: xs, h => by
    have h1 : ¬ x.1 = k := fun z => h (by rw [← z]; exact List.mem_cons_self)
    have h2 := atKey_no (xs := xs) fun z => h (List.mem_cons_of_mem _ z)
    simp [PySem.atKey, h1] at h2 ⊢
    exact h2
theorem storedAllH_new {κ : Type} [DecidableEq κ] : ∀ (ps acc : List (κ × Addr × Value)), ((acc ++ ps).map (·.1)).Nodup → PySem.storedAllH acc ps = acc ++ ps
  | [], acc, _ => by rw [List.append_nil]; rfl
  | p :: ps, acc, h => by
    have hn : p.1 ∉ acc.map (·.1) := fun z => by
      rw [List.map_append, List.nodup_append] at h
      exact h.2.2 p.1 z p.1 (by simp) rfl
    show PySem.storedAllH (PySem.storedH acc p.1 p.2.1 p.2.2) ps = _
    rw [PySem.storedH_new (atKey_no hn), storedAllH_new ps (acc ++ [p]) (by rw [List.append_assoc]; exact h), List.append_assoc]
    rfl
theorem pairs3 {X : Cx} {pins : List (Addr × Obj)} {σ : L2.St} {H : Hp} {s : Shared} (I : L2.Inv X pins σ H s) : ∀ {ps : List Addr} {kvs : List (List Key × V)}, Paired (fun p (kv : List Key × V) => ∃ b, SqT X.K H p [.ref b, kv.2] ∧ H b = some (.tup (kv.1.map kV))) ps kvs →
    ∃ prs : List (List Key × Addr × Value), KT H kvs prs ∧ prs.length = ps.length ∧ ∀ (j : Nat) (q : List Key × Addr × Value), prs[j]? = some q → ∃ b : Addr, ps[j]? = some b ∧ s.heap.IsTuple b #[.ref q.2.1, q.2.2]
  | _, _, .nil => ⟨[], .nil, rfl, fun j q e => by simp at e⟩
  | _, _, .cons (a := p) (b := kv) h t => by
    obtain ⟨prs, r, hl, hp⟩ := pairs3 I t
    obtain ⟨b, hb, hk⟩ := h
    obtain ⟨its, rv, ht, _⟩ := I.tuple hb
    obtain ⟨u, y, ei, ru, ry⟩ := vals2 rv
    subst ei
    obtain rfl : u = Value.ref b := ru
    refine ⟨(kv.1, b, y) :: prs, .cons ⟨rfl, hk, ry⟩ r, by rw [List.length_cons, List.length_cons, hl], fun j q e => ?_⟩
    cases j with
    | zero =>
      have e' : (kv.1, b, y) = q := Option.some.inj e
      subst e'
      exact ⟨p, rfl, ht⟩
    | succ j =>
      obtain ⟨c, e1, e2⟩ := hp j q (by simpa using e)
      exact ⟨c, by simpa using e1, e2⟩
theorem kt_fst {H : Hp} : ∀ {kvs : List (List Key × V)} {ks : List (List Key × Addr × Value)}, KT H kvs ks → ks.map (·.1) = kvs.map (·.1)
  | _, _, .nil => rfl
  | _, _, .cons h t => by rw [List.map_cons, List.map_cons, kt_fst t, h.1]
theorem kt_is {P : Program} {w : World} {H : Hp} {h : Heap} (ok : HOk P w H h) : ∀ {kvs : List (List Key × V)} {ks : List (List Key × Addr × Value)}, KT H kvs ks → ∀ x ∈ ks, (tupleKind (mixKind P w)).is h x.1 x.2.1
  | _, _, .nil, x, hx => by cases hx
  | _, _, .cons h t, x, hx => by
    rcases List.mem_cons.mp hx with q | q
    · subst q
      exact key_of ok (by rw [← h.1]; exact h.2.1)
    · exact kt_is ok t x q
theorem kt_upd {H : Hp} {p : Addr} {o : HO} (n : H p = none) : ∀ {kvs : List (List Key × V)} {ks : List (List Key × Addr × Value)}, KT H kvs ks → KT (upd H p o) kvs ks
  | _, _, .nil => .nil
  | _, _, .cons h t => .cons ⟨h.1, by rw [upd_ne (ne_of_none h.2.1 n)]; exact h.2.1, h.2.2⟩ (kt_upd n t)
theorem call_dictPT {X : Cx} {k : Nat} (hcalm : X.calm = true) (hr : Room k X.A) : CallR X (.type "dict") (rDictPT X.K) := by
  intro pins s σ H xs us Q I r q
  obtain ⟨a, ps, kvs, rfl, hq, hp, hnd, q⟩ := q
  obtain ⟨u, rfl, rx⟩ := vals1 r
  cases rx
  obtain ⟨its, rv, pl, hz⟩ := I.list hq
  have ei := refs_at rv
  subst ei
  rw [List.length_map] at hz
  obtain ⟨prs, rel, hl, hpr⟩ := pairs3 I hp
  obtain ⟨o, n, ho, hc, hd, hdat⟩ := pl
  have hun := hr.units
  have l3 : kvs.length = prs.length := Paired.length rel
  have ek := kt_fst rel
  have ndp : (prs.map (·.1)).Nodup := by rw [ek]; exact hnd
  have hh1 : X.A.handled = none := I.ok.hd hcalm
  have okp : PySem.PlainSeq "list" s.heap a (ps.map Value.ref).toArray ∧ PySem.PairItems s.heap (ps.map Value.ref).toArray (fun j => ps.getD j 0) (prs.map fun x => (Value.ref x.2.1, x.2.2)) := by
    refine ⟨⟨o, n, ho, hc, hd, hdat⟩, by simp [hl], fun j k v hj => ?_⟩
    rw [List.getElem?_map] at hj
    cases hq2 : prs[j]? with
    | none => rw [hq2] at hj; cases hj
    | some x =>
      rw [hq2] at hj
      obtain ⟨b, e1, e2⟩ := hpr j x hq2
      have e3 : (Value.ref x.2.1, x.2.2) = (k, v) := Option.some.inj hj
      injection e3 with e5 e6
      subst e5 e6
      have e4 : ps.getD j 0 = b := by rw [List.getD_eq_getElem?_getD, e1]; rfl
      show (ps.map Value.ref).toArray[j]? = some (Value.ref (ps.getD j 0)) ∧ PySem.PairAt s.heap (ps.getD j 0) _ _
      rw [e4]
      exact ⟨by simp [e1], .inl e2⟩
  refine PySem.call_dict_pairsH (knd := tupleKind (mixKind X.prog X.w)) (ps := prs) (PySem.PairArg.list a (ps.map Value.ref).toArray (fun j => ps.getD j 0) (prs.map fun x => (Value.ref x.2.1, x.2.2))) hh1 (show X.A.in1.in1.units < cLine by have : X.A.in1.in1.units = X.A.units + 1 + 1 := rfl; omega) okp ?_ ?_ (by rw [List.length_map]; omega) fun h' tk hd' kp => ?_
  · refine ⟨by rw [List.length_map], fun i key v hi => ?_⟩
    have hi : (prs.map fun x => (Value.ref x.2.1, x.2.2))[i]? = some (key, v) := hi
    rw [List.getElem?_map] at hi
    cases hq2 : prs[i]? with
    | none => rw [hq2] at hi; cases hi
    | some x =>
      rw [hq2] at hi
      have e3 : (Value.ref x.2.1, x.2.2) = (key, v) := Option.some.inj hi
      injection e3 with e5 e6
      subst e5 e6
      exact ⟨x.1, x.2.1, rfl, rfl⟩
  · intro h' hk x hx
    have I2 : Inv X pins σ H { s with heap := h', toks := s.toks } := I.kept fun b o e => hk b o (Nat.ne_of_lt (Heap.lt_size e)) (by simp) e
    exact kt_is I2.hok rel x hx
  · have kp2 : ∀ b o, s.heap.get? b = some o → h'.get? b = some o := fun b o e => kp b o (by simp) e
    rw [storedAllH_new prs [] (by simpa using ndp), List.nil_append] at hd'
    obtain ⟨o2, es, ep, g1, g2, g3, g4, g5, g6⟩ := hd'
    have hm : (s.heap.objs.size == sysModules) = false := beq_eq_false_iff_ne.mpr (Nat.ne_of_gt I.big)
    have fr := I.hok.fresh (Nat.le_refl s.heap.objs.size)
    refine ⟨.ref s.heap.objs.size, _, I.laid (t' := tk) (o := .dT kvs) kp2 (Nat.le_refl _) ?_, rfl, q _ fr⟩
    refine ⟨by omega, hm, prs, kt_upd fr rel, o2, es, ep, g1, g2, g3, g4, g6⟩
theorem pe_lenSetP {X : Cx} {a : Expr} {ta : TE} {p p2 q pos : Pos} (hc : X.calm = true) (hu : X.A.units + 64 < cLine) (hg : Gl X "len") (hm : X.mg "len" = none) (hg2 : Gl X "set") (hm2 : X.mg "set" = none) (ha : PE X a ta)
    (na : starEach [a] X.env = (false, eval a X.env) :: starEach [] X.env := by rfl) : PE X (.Call (.Name "len" p) [.Call (.Name "set" p2) [a] [] q] [] pos) (tLenSetP X.K ta) := by
  refine ⟨fun pins s σ H Q I h => ?_⟩
  refine Call_ (ld_blt I hg hm PySem.boot_len ?_)
  refine PyProof.Rows.callWith_builtin1 (PyProof.Rows.args_cons ?_ rfl) rfl rfl
  refine Call_ (ld_blt I hg2 hm2 PyProof.Rows.boot_set ?_)
  refine PyProof.Rows.callWith_type1 (PyProof.Rows.args_cons (thn (ha.run pins s σ H _ I h) fun v s1 ⟨x, H1, I1, r1, q1⟩ => PyProof.Rows.args_nil ?_) na) na rfl
  obtain ⟨l, ks, rfl, hq, hk, h1, hnd, q1⟩ := q1
  cases r1
  obtain ⟨its, r, pl, hz⟩ := I1.list hq
  refine call_set_tups (P := X.prog) (w := X.w) ks (I1.ok.hd hc) pl.isList (by simpa using refs_of_vals r) (fun p hp => I1.isT (hk p hp)) h1 (by omega) fun h' tk L es ep t R g kp => ?_
  refine PyProof.Rows.args_nil ?_
  obtain ⟨o, ho, hex, hd⟩ := R.ob
  have hsz := R.size (s := { s1 with heap := h', toks := tk })
  have hL : L.length = ks.length := by
    have a1 := Cs.nodup_le R.nd (m := ks.map (·.2)) fun x hx => by
      obtain ⟨p, hp, rfl⟩ := List.mem_map.mp hx
      exact List.mem_map.mpr ⟨p, List.mem_of_mem_take (g.sub p hp), rfl⟩
    have a2 := Cs.nodup_le hnd (m := L.map (·.2)) fun x hx => by
      obtain ⟨p, hp, rfl⟩ := List.mem_map.mp hx
      exact g.all p (by rw [List.take_length]; exact hp)
    rw [List.length_map, List.length_map] at a1 a2
    omega
  have I2 : Inv X pins σ H1 { s1 with heap := h', toks := tk } := I1.kept kp
  refine call_len_set ho hex hd (R.fits (s := { s1 with heap := h', toks := tk })) (by omega) ⟨.int ks.length, H1, I2.tok _, ⟨_, by rw [hsz, hL]⟩, q1⟩
theorem En.fd_NoTie_init {K : PySem.W.Frag} {mg : Str → Option Value} (E : En K mg) : ∃ fd, FunD K d_NoTie_init.name d_NoTie_init.qual d_NoTie_init.params d_NoTie_init.body d_NoTie_init.scope [] [] (He.fAd K d_NoTie_init.at_) fd := E.d.def_ 0 (d := d_NoTie_init) rfl
theorem En.fd_is_whole {K : PySem.W.Frag} {mg : Str → Option Value} (E : En K mg) : ∃ fd, FunD K d_is_whole.name d_is_whole.qual d_is_whole.params d_is_whole.body d_is_whole.scope [] [] (He.fAd K d_is_whole.at_) fd := E.d.def_ 1 (d := d_is_whole) rfl
theorem En.fd_is_row {K : PySem.W.Frag} {mg : Str → Option Value} (E : En K mg) : ∃ fd, FunD K d_is_row.name d_is_row.qual d_is_row.params d_is_row.body d_is_row.scope [] [] (He.fAd K d_is_row.at_) fd := E.d.def_ 2 (d := d_is_row) rfl
theorem En.fd_as_tuples {K : PySem.W.Frag} {mg : Str → Option Value} (E : En K mg) : ∃ fd, FunD K d_as_tuples.name d_as_tuples.qual d_as_tuples.params d_as_tuples.body d_as_tuples.scope [] [] (He.fAd K d_as_tuples.at_) fd := E.d.def_ 3 (d := d_as_tuples) rfl
theorem En.fd_divisor {K : PySem.W.Frag} {mg : Str → Option Value} (E : En K mg) : ∃ fd, FunD K d_divisor.name d_divisor.qual d_divisor.params d_divisor.body d_divisor.scope [] [] (He.fAd K d_divisor.at_) fd := E.d.def_ 4 (d := d_divisor) rfl
theorem En.fd_is_amount {K : PySem.W.Frag} {mg : Str → Option Value} (E : En K mg) : ∃ fd, FunD K d_is_amount.name d_is_amount.qual d_is_amount.params d_is_amount.body d_is_amount.scope [] [] (He.fAd K d_is_amount.at_) fd := E.d.def_ 5 (d := d_is_amount) rfl
theorem En.fd_is_weight {K : PySem.W.Frag} {mg : Str → Option Value} (E : En K mg) : ∃ fd, FunD K d_is_weight.name d_is_weight.qual d_is_weight.params d_is_weight.body d_is_weight.scope [] [] (He.fAd K d_is_weight.at_) fd := E.d.def_ 6 (d := d_is_weight) rfl
theorem En.fd_in_least_terms {K : PySem.W.Frag} {mg : Str → Option Value} (E : En K mg) : ∃ fd, FunD K d_in_least_terms.name d_in_least_terms.qual d_in_least_terms.params d_in_least_terms.body d_in_least_terms.scope [] [] (He.fAd K d_in_least_terms.at_) fd := E.d.def_ 7 (d := d_in_least_terms) rfl
theorem En.fd_plus {K : PySem.W.Frag} {mg : Str → Option Value} (E : En K mg) : ∃ fd, FunD K d_plus.name d_plus.qual d_plus.params d_plus.body d_plus.scope [] [] (He.fAd K d_plus.at_) fd := E.d.def_ 8 (d := d_plus) rfl
theorem En.fd_is_below {K : PySem.W.Frag} {mg : Str → Option Value} (E : En K mg) : ∃ fd, FunD K d_is_below.name d_is_below.qual d_is_below.params d_is_below.body d_is_below.scope [] [] (He.fAd K d_is_below.at_) fd := E.d.def_ 9 (d := d_is_below) rfl
theorem En.fd_less {K : PySem.W.Frag} {mg : Str → Option Value} (E : En K mg) : ∃ fd, FunD K d_less.name d_less.qual d_less.params d_less.body d_less.scope [] [] (He.fAd K d_less.at_) fd := E.d.def_ 10 (d := d_less) rfl
theorem En.fd_total {K : PySem.W.Frag} {mg : Str → Option Value} (E : En K mg) : ∃ fd, FunD K d_total.name d_total.qual d_total.params d_total.body d_total.scope [] [] (He.fAd K d_total.at_) fd := E.d.def_ 11 (d := d_total) rfl
theorem En.fd_are_rising {K : PySem.W.Frag} {mg : Str → Option Value} (E : En K mg) : ∃ fd, FunD K d_are_rising.name d_are_rising.qual d_are_rising.params d_are_rising.body d_are_rising.scope [] [] (He.fAd K d_are_rising.at_) fd := E.d.def_ 12 (d := d_are_rising) rfl
theorem En.fd_is_side {K : PySem.W.Frag} {mg : Str → Option Value} (E : En K mg) : ∃ fd, FunD K d_is_side.name d_is_side.qual d_is_side.params d_is_side.body d_is_side.scope [] [] (He.fAd K d_is_side.at_) fd := E.d.def_ 13 (d := d_is_side) rfl
theorem En.fd_weight_out {K : PySem.W.Frag} {mg : Str → Option Value} (E : En K mg) : ∃ fd, FunD K d_weight_out.name d_weight_out.qual d_weight_out.params d_weight_out.body d_weight_out.scope [] [] (He.fAd K d_weight_out.at_) fd := E.d.def_ 14 (d := d_weight_out) rfl
theorem En.fd_are_ends {K : PySem.W.Frag} {mg : Str → Option Value} (E : En K mg) : ∃ fd, FunD K d_are_ends.name d_are_ends.qual d_are_ends.params d_are_ends.body d_are_ends.scope [] [] (He.fAd K d_are_ends.at_) fd := E.d.def_ 15 (d := d_are_ends) rfl
theorem En.fd_ask_ends {K : PySem.W.Frag} {mg : Str → Option Value} (E : En K mg) : ∃ fd, FunD K d_ask_ends.name d_ask_ends.qual d_ask_ends.params d_ask_ends.body d_ask_ends.scope [] [] (He.fAd K d_ask_ends.at_) fd := E.d.def_ 16 (d := d_ask_ends) rfl
theorem En.fd_is_flow_row {K : PySem.W.Frag} {mg : Str → Option Value} (E : En K mg) : ∃ fd, FunD K d_is_flow_row.name d_is_flow_row.qual d_is_flow_row.params d_is_flow_row.body d_is_flow_row.scope [] [] (He.fAd K d_is_flow_row.at_) fd := E.d.def_ 17 (d := d_is_flow_row) rfl
theorem En.fd_are_flow_rows {K : PySem.W.Frag} {mg : Str → Option Value} (E : En K mg) : ∃ fd, FunD K d_are_flow_rows.name d_are_flow_rows.qual d_are_flow_rows.params d_are_flow_rows.body d_are_flow_rows.scope [] [] (He.fAd K d_are_flow_rows.at_) fd := E.d.def_ 18 (d := d_are_flow_rows) rfl
theorem En.fd_going_out {K : PySem.W.Frag} {mg : Str → Option Value} (E : En K mg) : ∃ fd, FunD K d_going_out.name d_going_out.qual d_going_out.params d_going_out.body d_going_out.scope [] [] (He.fAd K d_going_out.at_) fd := E.d.def_ 19 (d := d_going_out) rfl
theorem En.fd_coming_in {K : PySem.W.Frag} {mg : Str → Option Value} (E : En K mg) : ∃ fd, FunD K d_coming_in.name d_coming_in.qual d_coming_in.params d_coming_in.body d_coming_in.scope [] [] (He.fAd K d_coming_in.at_) fd := E.d.def_ 20 (d := d_coming_in) rfl
theorem En.fd_is_balanced {K : PySem.W.Frag} {mg : Str → Option Value} (E : En K mg) : ∃ fd, FunD K d_is_balanced.name d_is_balanced.qual d_is_balanced.params d_is_balanced.body d_is_balanced.scope [] [] (He.fAd K d_is_balanced.at_) fd := E.d.def_ 21 (d := d_is_balanced) rfl
theorem En.fd_fits {K : PySem.W.Frag} {mg : Str → Option Value} (E : En K mg) : ∃ fd, FunD K d_fits.name d_fits.qual d_fits.params d_fits.body d_fits.scope [] [] (He.fAd K d_fits.at_) fd := E.d.def_ 22 (d := d_fits) rfl
theorem En.fd_is_flow {K : PySem.W.Frag} {mg : Str → Option Value} (E : En K mg) : ∃ fd, FunD K d_is_flow.name d_is_flow.qual d_is_flow.params d_is_flow.body d_is_flow.scope [] [] (He.fAd K d_is_flow.at_) fd := E.d.def_ 23 (d := d_is_flow) rfl
theorem En.fd_worth_of {K : PySem.W.Frag} {mg : Str → Option Value} (E : En K mg) : ∃ fd, FunD K d_worth_of.name d_worth_of.qual d_worth_of.params d_worth_of.body d_worth_of.scope [] [] (He.fAd K d_worth_of.at_) fd := E.d.def_ 24 (d := d_worth_of) rfl
theorem En.fd_lowest {K : PySem.W.Frag} {mg : Str → Option Value} (E : En K mg) : ∃ fd, FunD K d_lowest.name d_lowest.qual d_lowest.params d_lowest.body d_lowest.scope [] [] (He.fAd K d_lowest.at_) fd := E.d.def_ 25 (d := d_lowest) rfl
theorem En.fd_Rooms_init {K : PySem.W.Frag} {mg : Str → Option Value} (E : En K mg) : ∃ fd, FunD K d_Rooms_init.name d_Rooms_init.qual d_Rooms_init.params d_Rooms_init.body d_Rooms_init.scope [] [] (He.fAd K d_Rooms_init.at_) fd := E.d.def_ 26 (d := d_Rooms_init) rfl
theorem En.fd_Rooms_meet {K : PySem.W.Frag} {mg : Str → Option Value} (E : En K mg) : ∃ fd, FunD K d_Rooms_meet.name d_Rooms_meet.qual d_Rooms_meet.params d_Rooms_meet.body d_Rooms_meet.scope [] [] (He.fAd K d_Rooms_meet.at_) fd := E.d.def_ 27 (d := d_Rooms_meet) rfl
theorem En.fd_Rooms_parts {K : PySem.W.Frag} {mg : Str → Option Value} (E : En K mg) : ∃ fd, FunD K d_Rooms_parts.name d_Rooms_parts.qual d_Rooms_parts.params d_Rooms_parts.body d_Rooms_parts.scope [] [] (He.fAd K d_Rooms_parts.at_) fd := E.d.def_ 28 (d := d_Rooms_parts) rfl
theorem En.fd_Rooms_spare {K : PySem.W.Frag} {mg : Str → Option Value} (E : En K mg) : ∃ fd, FunD K d_Rooms_spare.name d_Rooms_spare.qual d_Rooms_spare.params d_Rooms_spare.body d_Rooms_spare.scope [] [] (He.fAd K d_Rooms_spare.at_) fd := E.d.def_ 29 (d := d_Rooms_spare) rfl
theorem En.fd_Rooms_put {K : PySem.W.Frag} {mg : Str → Option Value} (E : En K mg) : ∃ fd, FunD K d_Rooms_put.name d_Rooms_put.qual d_Rooms_put.params d_Rooms_put.body d_Rooms_put.scope [] [] (He.fAd K d_Rooms_put.at_) fd := E.d.def_ 30 (d := d_Rooms_put) rfl
theorem En.fd_Rooms_carry {K : PySem.W.Frag} {mg : Str → Option Value} (E : En K mg) : ∃ fd, FunD K d_Rooms_carry.name d_Rooms_carry.qual d_Rooms_carry.params d_Rooms_carry.body d_Rooms_carry.scope [] [] (He.fAd K d_Rooms_carry.at_) fd := E.d.def_ 31 (d := d_Rooms_carry) rfl
theorem En.fd_Rooms_least_room {K : PySem.W.Frag} {mg : Str → Option Value} (E : En K mg) : ∃ fd, FunD K d_Rooms_least_room.name d_Rooms_least_room.qual d_Rooms_least_room.params d_Rooms_least_room.body d_Rooms_least_room.scope [] [] (He.fAd K d_Rooms_least_room.at_) fd := E.d.def_ 32 (d := d_Rooms_least_room) rfl
theorem En.fd_Rooms_flow {K : PySem.W.Frag} {mg : Str → Option Value} (E : En K mg) : ∃ fd, FunD K d_Rooms_flow.name d_Rooms_flow.qual d_Rooms_flow.params d_Rooms_flow.body d_Rooms_flow.scope [] [] (He.fAd K d_Rooms_flow.at_) fd := E.d.def_ 33 (d := d_Rooms_flow) rfl
theorem En.fd_rooms_of {K : PySem.W.Frag} {mg : Str → Option Value} (E : En K mg) : ∃ fd, FunD K d_rooms_of.name d_rooms_of.qual d_rooms_of.params d_rooms_of.body d_rooms_of.scope [] [] (He.fAd K d_rooms_of.at_) fd := E.d.def_ 34 (d := d_rooms_of) rfl
theorem En.fd_steps_to {K : PySem.W.Frag} {mg : Str → Option Value} (E : En K mg) : ∃ fd, FunD K d_steps_to.name d_steps_to.qual d_steps_to.params d_steps_to.body d_steps_to.scope [] [] (He.fAd K d_steps_to.at_) fd := E.d.def_ 35 (d := d_steps_to) rfl
theorem En.fd_way_with {K : PySem.W.Frag} {mg : Str → Option Value} (E : En K mg) : ∃ fd, FunD K d_way_with.name d_way_with.qual d_way_with.params d_way_with.body d_way_with.scope [] [] (He.fAd K d_way_with.at_) fd := E.d.def_ 36 (d := d_way_with) rfl
theorem En.fd_filled {K : PySem.W.Frag} {mg : Str → Option Value} (E : En K mg) : ∃ fd, FunD K d_filled.name d_filled.qual d_filled.params d_filled.body d_filled.scope [] [] (He.fAd K d_filled.at_) fd := E.d.def_ 37 (d := d_filled) rfl
theorem En.fd_shortest_flow {K : PySem.W.Frag} {mg : Str → Option Value} (E : En K mg) : ∃ fd, FunD K d_shortest_flow.name d_shortest_flow.qual d_shortest_flow.params d_shortest_flow.body d_shortest_flow.scope [] [] (He.fAd K d_shortest_flow.at_) fd := E.d.def_ 38 (d := d_shortest_flow) rfl
theorem En.fd_is_between {K : PySem.W.Frag} {mg : Str → Option Value} (E : En K mg) : ∃ fd, FunD K d_is_between.name d_is_between.qual d_is_between.params d_is_between.body d_is_between.scope [] [] (He.fAd K d_is_between.at_) fd := E.d.def_ 39 (d := d_is_between) rfl
theorem En.fd_is_least_cut {K : PySem.W.Frag} {mg : Str → Option Value} (E : En K mg) : ∃ fd, FunD K d_is_least_cut.name d_is_least_cut.qual d_is_least_cut.params d_is_least_cut.body d_is_least_cut.scope [] [] (He.fAd K d_is_least_cut.at_) fd := E.d.def_ 40 (d := d_is_least_cut) rfl
theorem En.fd_first_bound {K : PySem.W.Frag} {mg : Str → Option Value} (E : En K mg) : ∃ fd, FunD K d_first_bound.name d_first_bound.qual d_first_bound.params d_first_bound.body d_first_bound.scope [] [] (He.fAd K d_first_bound.at_) fd := E.d.def_ 41 (d := d_first_bound) rfl
theorem En.fd_halved_flow {K : PySem.W.Frag} {mg : Str → Option Value} (E : En K mg) : ∃ fd, FunD K d_halved_flow.name d_halved_flow.qual d_halved_flow.params d_halved_flow.body d_halved_flow.scope [] [] (He.fAd K d_halved_flow.at_) fd := E.d.def_ 42 (d := d_halved_flow) rfl
theorem En.fd_Heights_init {K : PySem.W.Frag} {mg : Str → Option Value} (E : En K mg) : ∃ fd, FunD K d_Heights_init.name d_Heights_init.qual d_Heights_init.params d_Heights_init.body d_Heights_init.scope [] [] (He.fAd K d_Heights_init.at_) fd := E.d.def_ 43 (d := d_Heights_init) rfl
theorem En.fd_Heights_push {K : PySem.W.Frag} {mg : Str → Option Value} (E : En K mg) : ∃ fd, FunD K d_Heights_push.name d_Heights_push.qual d_Heights_push.params d_Heights_push.body d_Heights_push.scope [] [] (He.fAd K d_Heights_push.at_) fd := E.d.def_ 44 (d := d_Heights_push) rfl
theorem En.fd_Heights_lift {K : PySem.W.Frag} {mg : Str → Option Value} (E : En K mg) : ∃ fd, FunD K d_Heights_lift.name d_Heights_lift.qual d_Heights_lift.params d_Heights_lift.body d_Heights_lift.scope [] [] (He.fAd K d_Heights_lift.at_) fd := E.d.def_ 45 (d := d_Heights_lift) rfl
theorem En.fd_Heights_clear {K : PySem.W.Frag} {mg : Str → Option Value} (E : En K mg) : ∃ fd, FunD K d_Heights_clear.name d_Heights_clear.qual d_Heights_clear.params d_Heights_clear.body d_Heights_clear.scope [] [] (He.fAd K d_Heights_clear.at_) fd := E.d.def_ 46 (d := d_Heights_clear) rfl
theorem En.fd_Heights_waiting {K : PySem.W.Frag} {mg : Str → Option Value} (E : En K mg) : ∃ fd, FunD K d_Heights_waiting.name d_Heights_waiting.qual d_Heights_waiting.params d_Heights_waiting.body d_Heights_waiting.scope [] [] (He.fAd K d_Heights_waiting.at_) fd := E.d.def_ 47 (d := d_Heights_waiting) rfl
theorem En.fd_pushed_flow {K : PySem.W.Frag} {mg : Str → Option Value} (E : En K mg) : ∃ fd, FunD K d_pushed_flow.name d_pushed_flow.qual d_pushed_flow.params d_pushed_flow.body d_pushed_flow.scope [] [] (He.fAd K d_pushed_flow.at_) fd := E.d.def_ 48 (d := d_pushed_flow) rfl
theorem En.fd_Web_init {K : PySem.W.Frag} {mg : Str → Option Value} (E : En K mg) : ∃ fd, FunD K d_Web_init.name d_Web_init.qual d_Web_init.params d_Web_init.body d_Web_init.scope [] [] (He.fAd K d_Web_init.at_) fd := E.d.def_ 49 (d := d_Web_init) rfl
theorem En.fd_Web_tie {K : PySem.W.Frag} {mg : Str → Option Value} (E : En K mg) : ∃ fd, FunD K d_Web_tie.name d_Web_tie.qual d_Web_tie.params d_Web_tie.body d_Web_tie.scope [] [] (He.fAd K d_Web_tie.at_) fd := E.d.def_ 50 (d := d_Web_tie) rfl
theorem En.fd_are_places {K : PySem.W.Frag} {mg : Str → Option Value} (E : En K mg) : ∃ fd, FunD K d_are_places.name d_are_places.qual d_are_places.params d_are_places.body d_are_places.scope [] [] (He.fAd K d_are_places.at_) fd := E.d.def_ 51 (d := d_are_places) rfl
theorem En.fd_is_tie {K : PySem.W.Frag} {mg : Str → Option Value} (E : En K mg) : ∃ fd, FunD K d_is_tie.name d_is_tie.qual d_is_tie.params d_is_tie.body d_is_tie.scope [] [] (He.fAd K d_is_tie.at_) fd := E.d.def_ 52 (d := d_is_tie) rfl
theorem En.fd_wrong_tie {K : PySem.W.Frag} {mg : Str → Option Value} (E : En K mg) : ∃ fd, FunD K d_wrong_tie.name d_wrong_tie.qual d_wrong_tie.params d_wrong_tie.body d_wrong_tie.scope [] [] (He.fAd K d_wrong_tie.at_) fd := E.d.def_ 53 (d := d_wrong_tie) rfl
theorem En.fd_weights_in {K : PySem.W.Frag} {mg : Str → Option Value} (E : En K mg) : ∃ fd, FunD K d_weights_in.name d_weights_in.qual d_weights_in.params d_weights_in.body d_weights_in.scope [] [] (He.fAd K d_weights_in.at_) fd := E.d.def_ 54 (d := d_weights_in) rfl
theorem En.fd_put_weights {K : PySem.W.Frag} {mg : Str → Option Value} (E : En K mg) : ∃ fd, FunD K d_put_weights.name d_put_weights.qual d_put_weights.params d_put_weights.body d_put_weights.scope [] [] (He.fAd K d_put_weights.at_) fd := E.d.def_ 55 (d := d_put_weights) rfl
theorem En.fd_law_cell {K : PySem.W.Frag} {mg : Str → Option Value} (E : En K mg) : ∃ fd, FunD K d_law_cell.name d_law_cell.qual d_law_cell.params d_law_cell.body d_law_cell.scope [] [] (He.fAd K d_law_cell.at_) fd := E.d.def_ 56 (d := d_law_cell) rfl
theorem En.fd_law_draws {K : PySem.W.Frag} {mg : Str → Option Value} (E : En K mg) : ∃ fd, FunD K d_law_draws.name d_law_draws.qual d_law_draws.params d_law_draws.body d_law_draws.scope [] [] (He.fAd K d_law_draws.at_) fd := E.d.def_ 57 (d := d_law_draws) rfl
theorem En.fd_law_next {K : PySem.W.Frag} {mg : Str → Option Value} (E : En K mg) : ∃ fd, FunD K d_law_next.name d_law_next.qual d_law_next.params d_law_next.body d_law_next.scope [] [] (He.fAd K d_law_next.at_) fd := E.d.def_ 58 (d := d_law_next) rfl
theorem En.fd_law_weight {K : PySem.W.Frag} {mg : Str → Option Value} (E : En K mg) : ∃ fd, FunD K d_law_weight.name d_law_weight.qual d_law_weight.params d_law_weight.body d_law_weight.scope [] [] (He.fAd K d_law_weight.at_) fd := E.d.def_ 59 (d := d_law_weight) rfl
theorem En.fd_law_order {K : PySem.W.Frag} {mg : Str → Option Value} (E : En K mg) : ∃ fd, FunD K d_law_order.name d_law_order.qual d_law_order.params d_law_order.body d_law_order.scope [] [] (He.fAd K d_law_order.at_) fd := E.d.def_ 60 (d := d_law_order) rfl
theorem En.fd_law_pairs {K : PySem.W.Frag} {mg : Str → Option Value} (E : En K mg) : ∃ fd, FunD K d_law_pairs.name d_law_pairs.qual d_law_pairs.params d_law_pairs.body d_law_pairs.scope [] [] (He.fAd K d_law_pairs.at_) fd := E.d.def_ 61 (d := d_law_pairs) rfl
theorem En.fd_law_web {K : PySem.W.Frag} {mg : Str → Option Value} (E : En K mg) : ∃ fd, FunD K d_law_web.name d_law_web.qual d_law_web.params d_law_web.body d_law_web.scope [] [] (He.fAd K d_law_web.at_) fd := E.d.def_ 62 (d := d_law_web) rfl
theorem En.fd_law_rows {K : PySem.W.Frag} {mg : Str → Option Value} (E : En K mg) : ∃ fd, FunD K d_law_rows.name d_law_rows.qual d_law_rows.params d_law_rows.body d_law_rows.scope [] [] (He.fAd K d_law_rows.at_) fd := E.d.def_ 63 (d := d_law_rows) rfl
theorem En.fd_law_parts {K : PySem.W.Frag} {mg : Str → Option Value} (E : En K mg) : ∃ fd, FunD K d_law_parts.name d_law_parts.qual d_law_parts.params d_law_parts.body d_law_parts.scope [] [] (He.fAd K d_law_parts.at_) fd := E.d.def_ 64 (d := d_law_parts) rfl
theorem En.fd_law_ends {K : PySem.W.Frag} {mg : Str → Option Value} (E : En K mg) : ∃ fd, FunD K d_law_ends.name d_law_ends.qual d_law_ends.params d_law_ends.body d_law_ends.scope [] [] (He.fAd K d_law_ends.at_) fd := E.d.def_ 65 (d := d_law_ends) rfl
theorem En.fd_law_side_parts {K : PySem.W.Frag} {mg : Str → Option Value} (E : En K mg) : ∃ fd, FunD K d_law_side_parts.name d_law_side_parts.qual d_law_side_parts.params d_law_side_parts.body d_law_side_parts.scope [] [] (He.fAd K d_law_side_parts.at_) fd := E.d.def_ 66 (d := d_law_side_parts) rfl
theorem En.fd_law_sides_between {K : PySem.W.Frag} {mg : Str → Option Value} (E : En K mg) : ∃ fd, FunD K d_law_sides_between.name d_law_sides_between.qual d_law_sides_between.params d_law_sides_between.body d_law_sides_between.scope [] [] (He.fAd K d_law_sides_between.at_) fd := E.d.def_ 67 (d := d_law_sides_between) rfl
theorem En.fd_law_least_sides {K : PySem.W.Frag} {mg : Str → Option Value} (E : En K mg) : ∃ fd, FunD K d_law_least_sides.name d_law_least_sides.qual d_law_least_sides.params d_law_least_sides.body d_law_least_sides.scope [] [] (He.fAd K d_law_least_sides.at_) fd := E.d.def_ 68 (d := d_law_least_sides) rfl
theorem En.fd_law_measure {K : PySem.W.Frag} {mg : Str → Option Value} (E : En K mg) : ∃ fd, FunD K d_law_measure.name d_law_measure.qual d_law_measure.params d_law_measure.body d_law_measure.scope [] [] (He.fAd K d_law_measure.at_) fd := E.d.def_ 69 (d := d_law_measure) rfl
theorem En.fd_law_are_rows {K : PySem.W.Frag} {mg : Str → Option Value} (E : En K mg) : ∃ fd, FunD K d_law_are_rows.name d_law_are_rows.qual d_law_are_rows.params d_law_are_rows.body d_law_are_rows.scope [] [] (He.fAd K d_law_are_rows.at_) fd := E.d.def_ 70 (d := d_law_are_rows) rfl
theorem En.fd_law_worth {K : PySem.W.Frag} {mg : Str → Option Value} (E : En K mg) : ∃ fd, FunD K d_law_worth.name d_law_worth.qual d_law_worth.params d_law_worth.body d_law_worth.scope [] [] (He.fAd K d_law_worth.at_) fd := E.d.def_ 71 (d := d_law_worth) rfl
theorem En.fd_law_is_let_by {K : PySem.W.Frag} {mg : Str → Option Value} (E : En K mg) : ∃ fd, FunD K d_law_is_let_by.name d_law_is_let_by.qual d_law_is_let_by.params d_law_is_let_by.body d_law_is_let_by.scope [] [] (He.fAd K d_law_is_let_by.at_) fd := E.d.def_ 72 (d := d_law_is_let_by) rfl
theorem En.fd_law {K : PySem.W.Frag} {mg : Str → Option Value} (E : En K mg) : ∃ fd, FunD K d_law.name d_law.qual d_law.params d_law.body d_law.scope [] [] (He.fAd K d_law.at_) fd := E.d.def_ 73 (d := d_law) rfl
theorem En.g_is_whole {K : PySem.W.Frag} {mg : Str → Option Value} (E : En K mg) : mg "is_whole" = some (.ref (He.ga K "is_whole")) := E.g _ (E.d.fact 0 (f := .glo "is_whole") rfl)
theorem En.g_is_row {K : PySem.W.Frag} {mg : Str → Option Value} (E : En K mg) : mg "is_row" = some (.ref (He.ga K "is_row")) := E.g _ (E.d.fact 1 (f := .glo "is_row") rfl)
theorem En.g_as_tuples {K : PySem.W.Frag} {mg : Str → Option Value} (E : En K mg) : mg "as_tuples" = some (.ref (He.ga K "as_tuples")) := E.g _ (E.d.fact 2 (f := .glo "as_tuples") rfl)
theorem En.g_divisor {K : PySem.W.Frag} {mg : Str → Option Value} (E : En K mg) : mg "divisor" = some (.ref (He.ga K "divisor")) := E.g _ (E.d.fact 3 (f := .glo "divisor") rfl)
theorem En.g_is_amount {K : PySem.W.Frag} {mg : Str → Option Value} (E : En K mg) : mg "is_amount" = some (.ref (He.ga K "is_amount")) := E.g _ (E.d.fact 4 (f := .glo "is_amount") rfl)
theorem En.g_is_weight {K : PySem.W.Frag} {mg : Str → Option Value} (E : En K mg) : mg "is_weight" = some (.ref (He.ga K "is_weight")) := E.g _ (E.d.fact 5 (f := .glo "is_weight") rfl)
theorem En.g_in_least_terms {K : PySem.W.Frag} {mg : Str → Option Value} (E : En K mg) : mg "in_least_terms" = some (.ref (He.ga K "in_least_terms")) := E.g _ (E.d.fact 6 (f := .glo "in_least_terms") rfl)
theorem En.g_plus {K : PySem.W.Frag} {mg : Str → Option Value} (E : En K mg) : mg "plus" = some (.ref (He.ga K "plus")) := E.g _ (E.d.fact 7 (f := .glo "plus") rfl)
theorem En.g_is_below {K : PySem.W.Frag} {mg : Str → Option Value} (E : En K mg) : mg "is_below" = some (.ref (He.ga K "is_below")) := E.g _ (E.d.fact 8 (f := .glo "is_below") rfl)
theorem En.g_less {K : PySem.W.Frag} {mg : Str → Option Value} (E : En K mg) : mg "less" = some (.ref (He.ga K "less")) := E.g _ (E.d.fact 9 (f := .glo "less") rfl)
theorem En.g_total {K : PySem.W.Frag} {mg : Str → Option Value} (E : En K mg) : mg "total" = some (.ref (He.ga K "total")) := E.g _ (E.d.fact 10 (f := .glo "total") rfl)
theorem En.g_are_rising {K : PySem.W.Frag} {mg : Str → Option Value} (E : En K mg) : mg "are_rising" = some (.ref (He.ga K "are_rising")) := E.g _ (E.d.fact 11 (f := .glo "are_rising") rfl)
theorem En.g_is_side {K : PySem.W.Frag} {mg : Str → Option Value} (E : En K mg) : mg "is_side" = some (.ref (He.ga K "is_side")) := E.g _ (E.d.fact 12 (f := .glo "is_side") rfl)
theorem En.g_weight_out {K : PySem.W.Frag} {mg : Str → Option Value} (E : En K mg) : mg "weight_out" = some (.ref (He.ga K "weight_out")) := E.g _ (E.d.fact 13 (f := .glo "weight_out") rfl)
theorem En.g_are_ends {K : PySem.W.Frag} {mg : Str → Option Value} (E : En K mg) : mg "are_ends" = some (.ref (He.ga K "are_ends")) := E.g _ (E.d.fact 14 (f := .glo "are_ends") rfl)
theorem En.g_ask_ends {K : PySem.W.Frag} {mg : Str → Option Value} (E : En K mg) : mg "ask_ends" = some (.ref (He.ga K "ask_ends")) := E.g _ (E.d.fact 15 (f := .glo "ask_ends") rfl)
theorem En.g_is_flow_row {K : PySem.W.Frag} {mg : Str → Option Value} (E : En K mg) : mg "is_flow_row" = some (.ref (He.ga K "is_flow_row")) := E.g _ (E.d.fact 16 (f := .glo "is_flow_row") rfl)
theorem En.g_are_flow_rows {K : PySem.W.Frag} {mg : Str → Option Value} (E : En K mg) : mg "are_flow_rows" = some (.ref (He.ga K "are_flow_rows")) := E.g _ (E.d.fact 17 (f := .glo "are_flow_rows") rfl)
theorem En.g_going_out {K : PySem.W.Frag} {mg : Str → Option Value} (E : En K mg) : mg "going_out" = some (.ref (He.ga K "going_out")) := E.g _ (E.d.fact 18 (f := .glo "going_out") rfl)
theorem En.g_coming_in {K : PySem.W.Frag} {mg : Str → Option Value} (E : En K mg) : mg "coming_in" = some (.ref (He.ga K "coming_in")) := E.g _ (E.d.fact 19 (f := .glo "coming_in") rfl)
theorem En.g_is_balanced {K : PySem.W.Frag} {mg : Str → Option Value} (E : En K mg) : mg "is_balanced" = some (.ref (He.ga K "is_balanced")) := E.g _ (E.d.fact 20 (f := .glo "is_balanced") rfl)
theorem En.g_fits {K : PySem.W.Frag} {mg : Str → Option Value} (E : En K mg) : mg "fits" = some (.ref (He.ga K "fits")) := E.g _ (E.d.fact 21 (f := .glo "fits") rfl)
theorem En.g_is_flow {K : PySem.W.Frag} {mg : Str → Option Value} (E : En K mg) : mg "is_flow" = some (.ref (He.ga K "is_flow")) := E.g _ (E.d.fact 22 (f := .glo "is_flow") rfl)
theorem En.g_worth_of {K : PySem.W.Frag} {mg : Str → Option Value} (E : En K mg) : mg "worth_of" = some (.ref (He.ga K "worth_of")) := E.g _ (E.d.fact 23 (f := .glo "worth_of") rfl)
theorem En.g_lowest {K : PySem.W.Frag} {mg : Str → Option Value} (E : En K mg) : mg "lowest" = some (.ref (He.ga K "lowest")) := E.g _ (E.d.fact 24 (f := .glo "lowest") rfl)
theorem En.g_rooms_of {K : PySem.W.Frag} {mg : Str → Option Value} (E : En K mg) : mg "rooms_of" = some (.ref (He.ga K "rooms_of")) := E.g _ (E.d.fact 25 (f := .glo "rooms_of") rfl)
theorem En.g_steps_to {K : PySem.W.Frag} {mg : Str → Option Value} (E : En K mg) : mg "steps_to" = some (.ref (He.ga K "steps_to")) := E.g _ (E.d.fact 26 (f := .glo "steps_to") rfl)
theorem En.g_way_with {K : PySem.W.Frag} {mg : Str → Option Value} (E : En K mg) : mg "way_with" = some (.ref (He.ga K "way_with")) := E.g _ (E.d.fact 27 (f := .glo "way_with") rfl)
theorem En.g_filled {K : PySem.W.Frag} {mg : Str → Option Value} (E : En K mg) : mg "filled" = some (.ref (He.ga K "filled")) := E.g _ (E.d.fact 28 (f := .glo "filled") rfl)
theorem En.g_shortest_flow {K : PySem.W.Frag} {mg : Str → Option Value} (E : En K mg) : mg "shortest_flow" = some (.ref (He.ga K "shortest_flow")) := E.g _ (E.d.fact 29 (f := .glo "shortest_flow") rfl)
theorem En.g_is_between {K : PySem.W.Frag} {mg : Str → Option Value} (E : En K mg) : mg "is_between" = some (.ref (He.ga K "is_between")) := E.g _ (E.d.fact 30 (f := .glo "is_between") rfl)
theorem En.g_is_least_cut {K : PySem.W.Frag} {mg : Str → Option Value} (E : En K mg) : mg "is_least_cut" = some (.ref (He.ga K "is_least_cut")) := E.g _ (E.d.fact 31 (f := .glo "is_least_cut") rfl)
theorem En.g_first_bound {K : PySem.W.Frag} {mg : Str → Option Value} (E : En K mg) : mg "first_bound" = some (.ref (He.ga K "first_bound")) := E.g _ (E.d.fact 32 (f := .glo "first_bound") rfl)
theorem En.g_halved_flow {K : PySem.W.Frag} {mg : Str → Option Value} (E : En K mg) : mg "halved_flow" = some (.ref (He.ga K "halved_flow")) := E.g _ (E.d.fact 33 (f := .glo "halved_flow") rfl)
theorem En.g_pushed_flow {K : PySem.W.Frag} {mg : Str → Option Value} (E : En K mg) : mg "pushed_flow" = some (.ref (He.ga K "pushed_flow")) := E.g _ (E.d.fact 34 (f := .glo "pushed_flow") rfl)
theorem En.g_are_places {K : PySem.W.Frag} {mg : Str → Option Value} (E : En K mg) : mg "are_places" = some (.ref (He.ga K "are_places")) := E.g _ (E.d.fact 35 (f := .glo "are_places") rfl)
theorem En.g_is_tie {K : PySem.W.Frag} {mg : Str → Option Value} (E : En K mg) : mg "is_tie" = some (.ref (He.ga K "is_tie")) := E.g _ (E.d.fact 36 (f := .glo "is_tie") rfl)
theorem En.g_wrong_tie {K : PySem.W.Frag} {mg : Str → Option Value} (E : En K mg) : mg "wrong_tie" = some (.ref (He.ga K "wrong_tie")) := E.g _ (E.d.fact 37 (f := .glo "wrong_tie") rfl)
theorem En.g_weights_in {K : PySem.W.Frag} {mg : Str → Option Value} (E : En K mg) : mg "weights_in" = some (.ref (He.ga K "weights_in")) := E.g _ (E.d.fact 38 (f := .glo "weights_in") rfl)
theorem En.g_put_weights {K : PySem.W.Frag} {mg : Str → Option Value} (E : En K mg) : mg "put_weights" = some (.ref (He.ga K "put_weights")) := E.g _ (E.d.fact 39 (f := .glo "put_weights") rfl)
theorem En.g_law_cell {K : PySem.W.Frag} {mg : Str → Option Value} (E : En K mg) : mg "_law_cell" = some (.ref (He.ga K "_law_cell")) := E.g _ (E.d.fact 40 (f := .glo "_law_cell") rfl)
theorem En.g_law_draws {K : PySem.W.Frag} {mg : Str → Option Value} (E : En K mg) : mg "_law_draws" = some (.ref (He.ga K "_law_draws")) := E.g _ (E.d.fact 41 (f := .glo "_law_draws") rfl)
theorem En.g_law_next {K : PySem.W.Frag} {mg : Str → Option Value} (E : En K mg) : mg "_law_next" = some (.ref (He.ga K "_law_next")) := E.g _ (E.d.fact 42 (f := .glo "_law_next") rfl)
theorem En.g_law_weight {K : PySem.W.Frag} {mg : Str → Option Value} (E : En K mg) : mg "_law_weight" = some (.ref (He.ga K "_law_weight")) := E.g _ (E.d.fact 43 (f := .glo "_law_weight") rfl)
theorem En.g_law_order {K : PySem.W.Frag} {mg : Str → Option Value} (E : En K mg) : mg "_law_order" = some (.ref (He.ga K "_law_order")) := E.g _ (E.d.fact 44 (f := .glo "_law_order") rfl)
theorem En.g_law_pairs {K : PySem.W.Frag} {mg : Str → Option Value} (E : En K mg) : mg "_law_pairs" = some (.ref (He.ga K "_law_pairs")) := E.g _ (E.d.fact 45 (f := .glo "_law_pairs") rfl)
theorem En.g_law_web {K : PySem.W.Frag} {mg : Str → Option Value} (E : En K mg) : mg "_law_web" = some (.ref (He.ga K "_law_web")) := E.g _ (E.d.fact 46 (f := .glo "_law_web") rfl)
theorem En.g_law_rows {K : PySem.W.Frag} {mg : Str → Option Value} (E : En K mg) : mg "_law_rows" = some (.ref (He.ga K "_law_rows")) := E.g _ (E.d.fact 47 (f := .glo "_law_rows") rfl)
theorem En.g_law_parts {K : PySem.W.Frag} {mg : Str → Option Value} (E : En K mg) : mg "_law_parts" = some (.ref (He.ga K "_law_parts")) := E.g _ (E.d.fact 48 (f := .glo "_law_parts") rfl)
theorem En.g_law_ends {K : PySem.W.Frag} {mg : Str → Option Value} (E : En K mg) : mg "_law_ends" = some (.ref (He.ga K "_law_ends")) := E.g _ (E.d.fact 49 (f := .glo "_law_ends") rfl)
theorem En.g_law_side_parts {K : PySem.W.Frag} {mg : Str → Option Value} (E : En K mg) : mg "_law_side_parts" = some (.ref (He.ga K "_law_side_parts")) := E.g _ (E.d.fact 50 (f := .glo "_law_side_parts") rfl)
theorem En.g_law_sides_between {K : PySem.W.Frag} {mg : Str → Option Value} (E : En K mg) : mg "_law_sides_between" = some (.ref (He.ga K "_law_sides_between")) := E.g _ (E.d.fact 51 (f := .glo "_law_sides_between") rfl)
theorem En.g_law_least_sides {K : PySem.W.Frag} {mg : Str → Option Value} (E : En K mg) : mg "_law_least_sides" = some (.ref (He.ga K "_law_least_sides")) := E.g _ (E.d.fact 52 (f := .glo "_law_least_sides") rfl)
theorem En.g_law_measure {K : PySem.W.Frag} {mg : Str → Option Value} (E : En K mg) : mg "_law_measure" = some (.ref (He.ga K "_law_measure")) := E.g _ (E.d.fact 53 (f := .glo "_law_measure") rfl)
theorem En.g_law_are_rows {K : PySem.W.Frag} {mg : Str → Option Value} (E : En K mg) : mg "_law_are_rows" = some (.ref (He.ga K "_law_are_rows")) := E.g _ (E.d.fact 54 (f := .glo "_law_are_rows") rfl)
theorem En.g_law_worth {K : PySem.W.Frag} {mg : Str → Option Value} (E : En K mg) : mg "_law_worth" = some (.ref (He.ga K "_law_worth")) := E.g _ (E.d.fact 55 (f := .glo "_law_worth") rfl)
theorem En.g_law_is_let_by {K : PySem.W.Frag} {mg : Str → Option Value} (E : En K mg) : mg "_law_is_let_by" = some (.ref (He.ga K "_law_is_let_by")) := E.g _ (E.d.fact 56 (f := .glo "_law_is_let_by") rfl)
theorem En.g_law {K : PySem.W.Frag} {mg : Str → Option Value} (E : En K mg) : mg "law" = some (.ref (He.ga K "law")) := E.g _ (E.d.fact 57 (f := .glo "law") rfl)
theorem En.g_CutError {K : PySem.W.Frag} {mg : Str → Option Value} (E : En K mg) : mg "CutError" = some (.ref (He.ga K "CutError")) := E.g _ (E.d.fact 58 (f := .glo "CutError") rfl)
theorem En.g_NoWeight {K : PySem.W.Frag} {mg : Str → Option Value} (E : En K mg) : mg "NoWeight" = some (.ref (He.ga K "NoWeight")) := E.g _ (E.d.fact 59 (f := .glo "NoWeight") rfl)
theorem En.g_NoPlace {K : PySem.W.Frag} {mg : Str → Option Value} (E : En K mg) : mg "NoPlace" = some (.ref (He.ga K "NoPlace")) := E.g _ (E.d.fact 60 (f := .glo "NoPlace") rfl)
theorem En.g_NoTie {K : PySem.W.Frag} {mg : Str → Option Value} (E : En K mg) : mg "NoTie" = some (.ref (He.ga K "NoTie")) := E.g _ (E.d.fact 61 (f := .glo "NoTie") rfl)
theorem En.g_Rooms {K : PySem.W.Frag} {mg : Str → Option Value} (E : En K mg) : mg "Rooms" = some (.ref (He.ga K "Rooms")) := E.g _ (E.d.fact 62 (f := .glo "Rooms") rfl)
theorem En.g_Heights {K : PySem.W.Frag} {mg : Str → Option Value} (E : En K mg) : mg "Heights" = some (.ref (He.ga K "Heights")) := E.g _ (E.d.fact 63 (f := .glo "Heights") rfl)
theorem En.g_Web {K : PySem.W.Frag} {mg : Str → Option Value} (E : En K mg) : mg "Web" = some (.ref (He.ga K "Web")) := E.g _ (E.d.fact 64 (f := .glo "Web") rfl)
theorem En.g_NOUGHT {K : PySem.W.Frag} {mg : Str → Option Value} (E : En K mg) : mg "NOUGHT" = some (.ref (He.ga K "NOUGHT")) := E.g _ (E.d.fact 65 (f := .glo "NOUGHT") rfl)
theorem En.i_MOST_ABOVE {K : PySem.W.Frag} {mg : Str → Option Value} (E : En K mg) : ∃ t, mg "MOST_ABOVE" = some (.int 1000000000000 t) := E.i _ _ (E.d.fact 66 (f := .int "MOST_ABOVE" 1000000000000) rfl)
theorem En.i_BELOW {K : PySem.W.Frag} {mg : Str → Option Value} (E : En K mg) : ∃ t, mg "BELOW" = some (.int 55440 t) := E.i _ _ (E.d.fact 67 (f := .int "BELOW" 55440) rfl)
theorem En.i_MOST_PLACES {K : PySem.W.Frag} {mg : Str → Option Value} (E : En K mg) : ∃ t, mg "MOST_PLACES" = some (.int 40 t) := E.i _ _ (E.d.fact 68 (f := .int "MOST_PLACES" 40) rfl)
theorem En.f_isinstance {K : PySem.W.Frag} {mg : Str → Option Value} (E : En K mg) : mg "isinstance" = none := E.f _ (E.d.fact 69 (f := .free "isinstance") rfl)
theorem En.f_int {K : PySem.W.Frag} {mg : Str → Option Value} (E : En K mg) : mg "int" = none := E.f _ (E.d.fact 70 (f := .free "int") rfl)
theorem En.f_bool {K : PySem.W.Frag} {mg : Str → Option Value} (E : En K mg) : mg "bool" = none := E.f _ (E.d.fact 71 (f := .free "bool") rfl)
theorem En.f_list {K : PySem.W.Frag} {mg : Str → Option Value} (E : En K mg) : mg "list" = none := E.f _ (E.d.fact 72 (f := .free "list") rfl)
theorem En.f_tuple {K : PySem.W.Frag} {mg : Str → Option Value} (E : En K mg) : mg "tuple" = none := E.f _ (E.d.fact 73 (f := .free "tuple") rfl)
theorem En.f_len {K : PySem.W.Frag} {mg : Str → Option Value} (E : En K mg) : mg "len" = none := E.f _ (E.d.fact 74 (f := .free "len") rfl)
theorem En.f_dict {K : PySem.W.Frag} {mg : Str → Option Value} (E : En K mg) : mg "dict" = none := E.f _ (E.d.fact 75 (f := .free "dict") rfl)
theorem En.f_sorted {K : PySem.W.Frag} {mg : Str → Option Value} (E : En K mg) : mg "sorted" = none := E.f _ (E.d.fact 76 (f := .free "sorted") rfl)
theorem En.f_min {K : PySem.W.Frag} {mg : Str → Option Value} (E : En K mg) : mg "min" = none := E.f _ (E.d.fact 77 (f := .free "min") rfl)
theorem En.f_max {K : PySem.W.Frag} {mg : Str → Option Value} (E : En K mg) : mg "max" = none := E.f _ (E.d.fact 78 (f := .free "max") rfl)
theorem En.f_enumerate {K : PySem.W.Frag} {mg : Str → Option Value} (E : En K mg) : mg "enumerate" = none := E.f _ (E.d.fact 79 (f := .free "enumerate") rfl)
theorem En.f_range {K : PySem.W.Frag} {mg : Str → Option Value} (E : En K mg) : mg "range" = none := E.f _ (E.d.fact 80 (f := .free "range") rfl)
theorem En.f_sum {K : PySem.W.Frag} {mg : Str → Option Value} (E : En K mg) : mg "sum" = none := E.f _ (E.d.fact 81 (f := .free "sum") rfl)
theorem En.f_abs {K : PySem.W.Frag} {mg : Str → Option Value} (E : En K mg) : mg "abs" = none := E.f _ (E.d.fact 82 (f := .free "abs") rfl)
theorem En.f_set {K : PySem.W.Frag} {mg : Str → Option Value} (E : En K mg) : mg "set" = none := E.f _ (E.d.fact 83 (f := .free "set") rfl)
theorem En.f_zip {K : PySem.W.Frag} {mg : Str → Option Value} (E : En K mg) : mg "zip" = none := E.f _ (E.d.fact 84 (f := .free "zip") rfl)
theorem En.cls_Rooms {K : PySem.W.Frag} {mg : Str → Option Value} (E : En K mg) : Cls K (He.ga K "Rooms") := He.cls_ok (E.d.fact 85 (f := .cls "Rooms") rfl)
theorem En.mk_Rooms {K : PySem.W.Frag} {mg : Str → Option Value} (E : En K mg) : Mk K (He.ga K "Rooms") (He.ma K (He.ga K "Rooms") "__init__") := He.mkr_ok (E.d.fact 86 (f := .mkr "Rooms") rfl)
theorem En.na_Rooms_size {K : PySem.W.Frag} {mg : Str → Option Value} (E : En K mg) : NoAttr K (He.ga K "Rooms") "size" := He.noat_ok (E.d.fact 87 (f := .noat "Rooms" "size") rfl)
theorem En.na_Rooms_weights {K : PySem.W.Frag} {mg : Str → Option Value} (E : En K mg) : NoAttr K (He.ga K "Rooms") "weights" := He.noat_ok (E.d.fact 88 (f := .noat "Rooms" "weights") rfl)
theorem En.na_Rooms_brought {K : PySem.W.Frag} {mg : Str → Option Value} (E : En K mg) : NoAttr K (He.ga K "Rooms") "brought" := He.noat_ok (E.d.fact 89 (f := .noat "Rooms" "brought") rfl)
theorem En.na_Rooms_close {K : PySem.W.Frag} {mg : Str → Option Value} (E : En K mg) : NoAttr K (He.ga K "Rooms") "close" := He.noat_ok (E.d.fact 90 (f := .noat "Rooms" "close") rfl)
theorem En.m_Rooms_meet {K : PySem.W.Frag} {mg : Str → Option Value} (E : En K mg) : Meth K (He.ga K "Rooms") "meet" (He.ma K (He.ga K "Rooms") "meet") := He.meth_ok (E.d.fact 91 (f := .meth "Rooms" "meet") rfl)
theorem En.m_Rooms_parts {K : PySem.W.Frag} {mg : Str → Option Value} (E : En K mg) : Meth K (He.ga K "Rooms") "parts" (He.ma K (He.ga K "Rooms") "parts") := He.meth_ok (E.d.fact 92 (f := .meth "Rooms" "parts") rfl)
theorem En.m_Rooms_spare {K : PySem.W.Frag} {mg : Str → Option Value} (E : En K mg) : Meth K (He.ga K "Rooms") "spare" (He.ma K (He.ga K "Rooms") "spare") := He.meth_ok (E.d.fact 93 (f := .meth "Rooms" "spare") rfl)
theorem En.m_Rooms_put {K : PySem.W.Frag} {mg : Str → Option Value} (E : En K mg) : Meth K (He.ga K "Rooms") "put" (He.ma K (He.ga K "Rooms") "put") := He.meth_ok (E.d.fact 94 (f := .meth "Rooms" "put") rfl)
theorem En.m_Rooms_carry {K : PySem.W.Frag} {mg : Str → Option Value} (E : En K mg) : Meth K (He.ga K "Rooms") "carry" (He.ma K (He.ga K "Rooms") "carry") := He.meth_ok (E.d.fact 95 (f := .meth "Rooms" "carry") rfl)
theorem En.m_Rooms_least_room {K : PySem.W.Frag} {mg : Str → Option Value} (E : En K mg) : Meth K (He.ga K "Rooms") "least_room" (He.ma K (He.ga K "Rooms") "least_room") := He.meth_ok (E.d.fact 96 (f := .meth "Rooms" "least_room") rfl)
theorem En.m_Rooms_flow {K : PySem.W.Frag} {mg : Str → Option Value} (E : En K mg) : Meth K (He.ga K "Rooms") "flow" (He.ma K (He.ga K "Rooms") "flow") := He.meth_ok (E.d.fact 97 (f := .meth "Rooms" "flow") rfl)
theorem En.cls_Heights {K : PySem.W.Frag} {mg : Str → Option Value} (E : En K mg) : Cls K (He.ga K "Heights") := He.cls_ok (E.d.fact 98 (f := .cls "Heights") rfl)
theorem En.mk_Heights {K : PySem.W.Frag} {mg : Str → Option Value} (E : En K mg) : Mk K (He.ga K "Heights") (He.ma K (He.ga K "Heights") "__init__") := He.mkr_ok (E.d.fact 99 (f := .mkr "Heights") rfl)
theorem En.na_Heights_rooms {K : PySem.W.Frag} {mg : Str → Option Value} (E : En K mg) : NoAttr K (He.ga K "Heights") "rooms" := He.noat_ok (E.d.fact 100 (f := .noat "Heights" "rooms") rfl)
theorem En.na_Heights_ends {K : PySem.W.Frag} {mg : Str → Option Value} (E : En K mg) : NoAttr K (He.ga K "Heights") "ends" := He.noat_ok (E.d.fact 101 (f := .noat "Heights" "ends") rfl)
theorem En.na_Heights_heights {K : PySem.W.Frag} {mg : Str → Option Value} (E : En K mg) : NoAttr K (He.ga K "Heights") "heights" := He.noat_ok (E.d.fact 102 (f := .noat "Heights" "heights") rfl)
theorem En.na_Heights_too_much {K : PySem.W.Frag} {mg : Str → Option Value} (E : En K mg) : NoAttr K (He.ga K "Heights") "too_much" := He.noat_ok (E.d.fact 103 (f := .noat "Heights" "too_much") rfl)
theorem En.m_Heights_push {K : PySem.W.Frag} {mg : Str → Option Value} (E : En K mg) : Meth K (He.ga K "Heights") "push" (He.ma K (He.ga K "Heights") "push") := He.meth_ok (E.d.fact 104 (f := .meth "Heights" "push") rfl)
theorem En.m_Heights_lift {K : PySem.W.Frag} {mg : Str → Option Value} (E : En K mg) : Meth K (He.ga K "Heights") "lift" (He.ma K (He.ga K "Heights") "lift") := He.meth_ok (E.d.fact 105 (f := .meth "Heights" "lift") rfl)
theorem En.m_Heights_clear {K : PySem.W.Frag} {mg : Str → Option Value} (E : En K mg) : Meth K (He.ga K "Heights") "clear" (He.ma K (He.ga K "Heights") "clear") := He.meth_ok (E.d.fact 106 (f := .meth "Heights" "clear") rfl)
theorem En.m_Heights_waiting {K : PySem.W.Frag} {mg : Str → Option Value} (E : En K mg) : Meth K (He.ga K "Heights") "waiting" (He.ma K (He.ga K "Heights") "waiting") := He.meth_ok (E.d.fact 107 (f := .meth "Heights" "waiting") rfl)
theorem En.cls_Web {K : PySem.W.Frag} {mg : Str → Option Value} (E : En K mg) : Cls K (He.ga K "Web") := He.cls_ok (E.d.fact 108 (f := .cls "Web") rfl)
theorem En.mk_Web {K : PySem.W.Frag} {mg : Str → Option Value} (E : En K mg) : Mk K (He.ga K "Web") (He.ma K (He.ga K "Web") "__init__") := He.mkr_ok (E.d.fact 109 (f := .mkr "Web") rfl)
theorem En.na_Web_many {K : PySem.W.Frag} {mg : Str → Option Value} (E : En K mg) : NoAttr K (He.ga K "Web") "many" := He.noat_ok (E.d.fact 110 (f := .noat "Web" "many") rfl)
theorem En.na_Web_weights {K : PySem.W.Frag} {mg : Str → Option Value} (E : En K mg) : NoAttr K (He.ga K "Web") "weights" := He.noat_ok (E.d.fact 111 (f := .noat "Web" "weights") rfl)
theorem En.na_Web_ties {K : PySem.W.Frag} {mg : Str → Option Value} (E : En K mg) : NoAttr K (He.ga K "Web") "ties" := He.noat_ok (E.d.fact 112 (f := .noat "Web" "ties") rfl)
theorem En.m_Web_tie {K : PySem.W.Frag} {mg : Str → Option Value} (E : En K mg) : Meth K (He.ga K "Web") "tie" (He.ma K (He.ga K "Web") "tie") := He.meth_ok (E.d.fact 113 (f := .meth "Web" "tie") rfl)
end Cs
namespace Cs
open PySem PySem.Spec L2
/-! ### numbers: amounts in least terms -/
theorem nat_red {a b c d : Nat} (hb : 0 < b) (hd : 0 < d) (h : a * d = c * b) : a / Nat.gcd a b = c / Nat.gcd c d ∧ b / Nat.gcd a b = d / Nat.gcd c d := by
  have g1 : 0 < Nat.gcd a b := Nat.gcd_pos_of_pos_right _ hb
  have g2 : 0 < Nat.gcd c d := Nat.gcd_pos_of_pos_right _ hd
  have c1 := Nat.coprime_div_gcd_div_gcd g1
  have c2 := Nat.coprime_div_gcd_div_gcd g2
  have ea : a / Nat.gcd a b * Nat.gcd a b = a := Nat.div_mul_cancel (Nat.gcd_dvd_left a b)
  have eb : b / Nat.gcd a b * Nat.gcd a b = b := Nat.div_mul_cancel (Nat.gcd_dvd_right a b)
  have ec : c / Nat.gcd c d * Nat.gcd c d = c := Nat.div_mul_cancel (Nat.gcd_dvd_left c d)
  have ed : d / Nat.gcd c d * Nat.gcd c d = d := Nat.div_mul_cancel (Nat.gcd_dvd_right c d)
  generalize ga : a / Nat.gcd a b = a' at *
  generalize gb : b / Nat.gcd a b = b' at *
  generalize gc : c / Nat.gcd c d = c' at *
  generalize gd : d / Nat.gcd c d = d' at *
  generalize Nat.gcd a b = g at *
  generalize Nat.gcd c d = k at *
  have h2 : a' * d' = c' * b' := by
    have : (a' * d') * (g * k) = (c' * b') * (g * k) := by
      have e1 : (a' * d') * (g * k) = (a' * g) * (d' * k) := by
        rw [Nat.mul_assoc, Nat.mul_assoc]; congr 1; rw [← Nat.mul_assoc, ← Nat.mul_assoc, Nat.mul_comm d' g]
      have e2 : (c' * b') * (g * k) = (c' * k) * (b' * g) := by
        rw [Nat.mul_assoc, Nat.mul_assoc]; congr 1; rw [Nat.mul_comm g k, ← Nat.mul_assoc, ← Nat.mul_assoc, Nat.mul_comm b' k]
      rw [e1, e2, ea, ed, ec, eb, h]
    exact Nat.eq_of_mul_eq_mul_right (Nat.mul_pos g1 g2) this
  have d1 : a' ∣ c' := c1.dvd_of_dvd_mul_right ⟨d', h2.symm⟩
  have d2 : c' ∣ a' := c2.dvd_of_dvd_mul_right ⟨b', h2⟩
  have d3 : b' ∣ d' := c1.symm.dvd_of_dvd_mul_left ⟨c', by rw [h2, Nat.mul_comm]⟩
  have d4 : d' ∣ b' := c2.symm.dvd_of_dvd_mul_left ⟨a', by rw [← h2, Nat.mul_comm]⟩
  exact ⟨Nat.dvd_antisymm d1 d2, Nat.dvd_antisymm d3 d4⟩
/-- so many 55,440ths in least terms -/
def lowA (p : Nat) : Nat := p / Nat.gcd p 55440
def lowB (p : Nat) : Nat := 55440 / Nat.gcd p 55440
theorem gcdB_pos (p : Nat) : 0 < Nat.gcd p 55440 := Nat.gcd_pos_of_pos_right _ (by decide)
theorem lowB_pos (p : Nat) : 0 < lowB p := Nat.div_pos (Nat.le_of_dvd (by decide) (Nat.gcd_dvd_right p 55440)) (gcdB_pos p)
theorem lowB_le (p : Nat) : lowB p ≤ 55440 := Nat.div_le_self _ _
theorem lowB_dvd (p : Nat) : lowB p ∣ 55440 := Nat.div_dvd_of_dvd (Nat.gcd_dvd_right p 55440)
theorem low_cross (p : Nat) : lowA p * 55440 = p * lowB p := by
  unfold lowA lowB
  have ea : p / Nat.gcd p 55440 * Nat.gcd p 55440 = p := Nat.div_mul_cancel (Nat.gcd_dvd_left p 55440)
  have eb : Nat.gcd p 55440 * (55440 / Nat.gcd p 55440) = 55440 := Nat.mul_div_cancel' (Nat.gcd_dvd_right p 55440)
  calc p / Nat.gcd p 55440 * 55440 = p / Nat.gcd p 55440 * (Nat.gcd p 55440 * (55440 / Nat.gcd p 55440)) := by rw [eb]
    _ = p * (55440 / Nat.gcd p 55440) := by rw [← Nat.mul_assoc, ea]
theorem low_parts (p : Nat) : lowA p * (55440 / lowB p) = p := by
  have h := low_cross p
  have e : lowB p * (55440 / lowB p) = 55440 := Nat.mul_div_cancel' (lowB_dvd p)
  have : lowA p * (55440 / lowB p) * lowB p = p * lowB p := by rw [Nat.mul_assoc, Nat.mul_comm (55440 / lowB p), e, h]
  exact Nat.eq_of_mul_eq_mul_right (lowB_pos p) this
theorem low_cop (p : Nat) : Nat.gcd (lowA p) (lowB p) = 1 := Nat.coprime_div_gcd_div_gcd (gcdB_pos p)
theorem low_uniq {a b p : Nat} (hb : 0 < b) (h : a * 55440 = p * b) : a / Nat.gcd a b = lowA p ∧ b / Nat.gcd a b = lowB p := nat_red hb (by decide) h
theorem low_of {a b : Nat} (hb : b ∣ 55440) (hg : Nat.gcd a b = 1) : a = lowA (a * (55440 / b)) ∧ b = lowB (a * (55440 / b)) := by
  have b0 : 0 < b := Nat.pos_of_dvd_of_pos hb (by decide)
  have e : 55440 / b * b = 55440 := Nat.div_mul_cancel hb
  have := low_uniq (a := a) (b := b) (p := a * (55440 / b)) b0 (by rw [Nat.mul_assoc, e])
  rw [hg, Nat.div_one, Nat.div_one] at this
  exact this
theorem low_inj {p q : Nat} (h1 : lowA p = lowA q) (h2 : lowB p = lowB q) : p = q := by rw [← low_parts p, ← low_parts q, h1, h2]
theorem low_zero : lowA 0 = 0 ∧ lowB 0 = 1 := by decide
theorem lowA_zero {p : Nat} : lowA p = 0 ↔ p = 0 := by
  constructor
  · intro h
    rw [← low_parts p, h, Nat.zero_mul]
  · rintro rfl; decide
theorem low_lt (p q : Nat) : lowA p * lowB q < lowA q * lowB p ↔ p < q := by
  have h1 := low_cross p
  have h2 := low_cross q
  have e1 : lowA p * lowB q * 55440 = p * (lowB p * lowB q) := by rw [Nat.mul_right_comm, h1, Nat.mul_assoc]
  have e2 : lowA q * lowB p * 55440 = q * (lowB p * lowB q) := by rw [Nat.mul_right_comm, h2, Nat.mul_assoc, Nat.mul_comm (lowB q)]
  have pos : 0 < lowB p * lowB q := Nat.mul_pos (lowB_pos p) (lowB_pos q)
  constructor
  · intro h
    have : lowA p * lowB q * 55440 < lowA q * lowB p * 55440 := Nat.mul_lt_mul_of_pos_right h (by decide)
    rw [e1, e2] at this
    exact Nat.lt_of_mul_lt_mul_right this
  · intro h
    have : p * (lowB p * lowB q) < q * (lowB p * lowB q) := Nat.mul_lt_mul_of_pos_right h pos
    rw [← e1, ← e2] at this
    exact Nat.lt_of_mul_lt_mul_right this
theorem low_plus (p q : Nat) : (lowA p * lowB q + lowA q * lowB p) * 55440 = (p + q) * (lowB p * lowB q) := by
  have h1 := low_cross p
  have h2 := low_cross q
  have e1 : lowA p * lowB q * 55440 = p * (lowB p * lowB q) := by rw [Nat.mul_right_comm, h1, Nat.mul_assoc]
  have e2 : lowA q * lowB p * 55440 = q * (lowB p * lowB q) := by rw [Nat.mul_right_comm, h2, Nat.mul_assoc, Nat.mul_comm (lowB q)]
  rw [Nat.add_mul, Nat.add_mul, e1, e2]
theorem low_minus (p q : Nat) : (lowA p * lowB q - lowA q * lowB p) * 55440 = (p - q) * (lowB p * lowB q) := by
  have h1 := low_cross p
  have h2 := low_cross q
  have e1 : lowA p * lowB q * 55440 = p * (lowB p * lowB q) := by rw [Nat.mul_right_comm, h1, Nat.mul_assoc]
  have e2 : lowA q * lowB p * 55440 = q * (lowB p * lowB q) := by rw [Nat.mul_right_comm, h2, Nat.mul_assoc, Nat.mul_comm (lowB q)]
  rw [Nat.sub_mul, Nat.sub_mul, e1, e2]
/-! ### heaps -/
theorem _root_.L2.Same.seqT {K : PySem.W.Frag} {H H' : Hp} {a : Addr} {xs : List V} (e : Same H H') (h : SqT K H a xs) : SqT K H' a xs := by
  rcases h with (h | ⟨o, h⟩) | h
  · exact .inl (.inl (e _ _ h))
  · exact .inl (.inr ⟨o, e _ _ h⟩)
  · exact .inr h
theorem _root_.L2.Same.seqL {K : PySem.W.Frag} {H H' : Hp} {a : Addr} {xs : List V} (e : Same H H') (h : SqL K H a xs) : SqL K H' a xs := e.seq h
theorem _root_.L2.Same.seqS {K : PySem.W.Frag} {H H' : Hp} {a : Addr} {xs : List V} (e : Same H H') (h : SqS K H a xs) : SqS K H' a xs := h.elim (fun h => .inl (e.seqL h)) fun h => .inr (e.seqT h)
theorem sameNew {H : Hp} {p : Addr} {o : HO} (h : H p = none) : Same H (upd H p o) := fun b x e => by
  rw [upd_ne (ne_of_none e h)]
  exact e
theorem newAt {H : Hp} {Q : VK} {o : HO} (h : ∀ p H1, H p = none → Same H H1 → H1 p = some o → Q (.ref p) H1) : ∀ p, H p = none → Q (.ref p) (upd H p o) := fun p hp => h p _ hp (sameNew hp) upd_same
/-- all but p is as it was -/
def But (p : Addr) (H H' : Hp) : Prop := ∀ b o, b ≠ p → H b = some o → H' b = some o
theorem butUpd {H : Hp} {p : Addr} {o : HO} : But p H (upd H p o) := fun b x n e => by rw [upd_ne n]; exact e
theorem But.trans {p : Addr} {H H1 H2 : Hp} (a : But p H H1) (b : But p H1 H2) : But p H H2 := fun c o n h => b c o n (a c o n h)
theorem _root_.L2.Same.but {p : Addr} {H H' : Hp} (e : Same H H') : But p H H' := fun b o _ h => e b o h
/-- what stood before a thing was made, behind a change of it -/
theorem But.same {p : Addr} {H0 H H' : Hp} (b : But p H H') (e : Same H0 H) (n : H0 p = none) : Same H0 H' := fun c o h => b c o (ne_of_none h n) (e c o h)
theorem But.at {p q : Addr} {H H' : Hp} {o : HO} (b : But p H H') (n : q ≠ p) (h : H q = some o) : H' q = some o := b q o n h
theorem But.seqT {K : PySem.W.Frag} {H H' : Hp} {a p : Addr} {xs : List V} (e : But p H H') (n : a ≠ p) (h : SqT K H a xs) : SqT K H' a xs := by
  rcases h with (h | ⟨o, h⟩) | h
  · exact .inl (.inl (e _ _ n h))
  · exact .inl (.inr ⟨o, e _ _ n h⟩)
  · exact .inr h
theorem But.seqL {K : PySem.W.Frag} {H H' : Hp} {a p : Addr} {xs : List V} (e : But p H H') (n : a ≠ p) (h : SqL K H a xs) : SqL K H' a xs := by
  rcases h with (h | ⟨o, h⟩) | h
  · exact .inl (.inl (e _ _ n h))
  · exact .inl (.inr ⟨o, e _ _ n h⟩)
  · exact .inr h
/-- a tuple is no list, dict or instance that is written -/
theorem But.tupM {K : PySem.W.Frag} {H H' : Hp} {a p : Addr} {xs : List V} (e : But p H H') (m : Mut (H p)) (h : SqT K H a xs) : SqT K H' a xs := by
  rcases h with (h | ⟨o, h⟩) | h
  · exact .inl (.inl (e _ _ (fun z => by subst z; rw [h] at m; exact m) h))
  · exact .inl (.inr ⟨o, e _ _ (fun z => by subst z; rw [h] at m; exact m) h⟩)
  · exact .inr h
/-! ### readings, step by step -/
section
variable {K : PySem.W.Frag} {σ : L2.St} {H : Hp} {D : Ends} {Q : VK} {ta tb te : TE} {t u : TS} {c c' : TT} {g : TG} {i n : Nat} {v x y : V} {r : R2}
theorem go_seq {n b c : L2.St → Hp → Prop} {r : VK} (h : t ⟨u ⟨n, r, b, c⟩, r, b, c⟩ σ H) : tSeq t u ⟨n, r, b, c⟩ σ H := h
theorem go_asg (h : te σ H (fun x H1 => g x σ H1 D.nx)) : tAsg te g D σ H := h
theorem go_name {R : L2.St → Hp → Prop} {σ' : L2.St} (e : σ.set i (some v) = σ') (h : R σ' H) : gName i v σ H R := by subst e; exact h
theorem go_ret (h : te σ H D.rt) : tRet te D σ H := h
theorem go_next (h : D.nx σ H) : tNext D σ H := h
theorem go_if (h : c σ H (fun b H1 => if b = true then t D σ H1 else u D σ H1)) : tIfS c t u D σ H := h
theorem go_drop (h : te σ H (fun _ H1 => D.nx σ H1)) : tDrop te D σ H := h
theorem go_var (e : σ[i]? = some (some v)) (h : Q v H) : tVar i σ H Q := ⟨v, e, h⟩
theorem go_c (h : Q v H) : tC v σ H Q := h
theorem go_op (h : ta σ H (fun x H1 => tb σ H1 fun y H2 => r x y H2 Q)) : tOp r ta tb σ H Q := h
theorem go_un {k : V → Hp → VK → Prop} (h : ta σ H (fun x H1 => k x H1 Q)) : tUn k ta σ H Q := h
theorem go_cb {k : List V → Hp → VK → Prop} {tt : TA} (h : tt σ H (fun vs H1 => k vs H1 Q)) : tCB k tt σ H Q := h
theorem go_cons {tt : TA} {R : List V → Hp → Prop} (h : ta σ H (fun x H1 => tt σ H1 fun xs H2 => R (x :: xs) H2)) : tCons ta tt σ H R := h
theorem go_nil {R : List V → Hp → Prop} (h : R [] H) : tNil σ H R := h
theorem go_test {R : Bool → Hp → Prop} (h : te σ H (fun x H' => ∃ k, x = .bl k ∧ R k H')) : tTest te σ H R := h
theorem go_B {R : Bool → Hp → Prop} (h : te σ H (fun x H' => ∃ k, x = .bl k ∧ R k H')) : tB te σ H R := h
theorem go_not {R : Bool → Hp → Prop} (h : c σ H (fun k H1 => R (!k) H1)) : tNot c σ H R := h
theorem go_and {R : Bool → Hp → Prop} (h : c σ H (fun k H1 => if k = true then c' σ H1 R else R false H1)) : tAnd c c' σ H R := h
theorem go_or {R : Bool → Hp → Prop} (h : c σ H (fun k H1 => if k = true then R true H1 else c' σ H1 R)) : tOr c c' σ H R := h
theorem go_andV (h : ta σ H (fun x H1 => ∃ k, x = .bl k ∧ if k = true then tb σ H1 Q else Q (.bl false) H1)) : tAndV ta tb σ H Q := h
theorem go_orV (h : ta σ H (fun x H1 => ∃ k, x = .bl k ∧ if k = true then Q (.bl true) H1 else tb σ H1 Q)) : tOrV ta tb σ H Q := h
theorem go_notV (h : ta σ H (fun x H1 => ∃ k, x = .bl k ∧ Q (.bl (!k)) H1)) : tNotV ta σ H Q := h
theorem go_bl {P : Bool → Prop} {b : Bool} (h : P b) : ∃ k, V.bl b = .bl k ∧ P k := ⟨b, rfl, h⟩
theorem go_chain {r' : R2} {tc : TE} (h : ta σ H (fun x H1 => tb σ H1 fun y H2 => r x y H2 fun z H3 => ∃ k, z = .bl k ∧ (if k = true then tc σ H3 fun w' H4 => r' y w' H4 Q else Q (.bl false) H3))) : tChain r r' ta tb tc σ H Q := h
theorem go_F {sp : Sp0} {tt : TA} (h : tt σ H (fun vs H1 => vs.length = n ∧ sp vs H1 Q)) : tF n sp tt σ H Q := h
theorem go_u1 {sp : V → Hp → VK → Prop} {a : V} (h : sp a H Q) : [a].length = 1 ∧ u1 sp [a] H Q := ⟨rfl, a, rfl, h⟩
theorem go_u2 {sp : V → V → Hp → VK → Prop} {a b : V} (h : sp a b H Q) : [a, b].length = 2 ∧ u2 sp [a, b] H Q := ⟨rfl, a, b, rfl, h⟩
theorem go_u3 {sp : V → V → V → Hp → VK → Prop} {a b c : V} (h : sp a b c H Q) : [a, b, c].length = 3 ∧ u3 sp [a, b, c] H Q := ⟨rfl, a, b, c, rfl, h⟩
theorem go_u4 {sp : V → V → V → V → Hp → VK → Prop} {a b c d : V} (h : sp a b c d H Q) : [a, b, c, d].length = 4 ∧ u4 sp [a, b, c, d] H Q := ⟨rfl, a, b, c, d, rfl, h⟩
theorem go_I0 {f : Int → Int → V} {i j : Int} (h : Q (f i j) H) : rI0 f (.int i) (.int j) H Q := ⟨i, j, rfl, rfl, h⟩
theorem go_I {C : Int → Int → Prop} {f : Int → Int → V} {i j : Int} (hc : C i j) (h : Q (f i j) H) : rI C f (.int i) (.int j) H Q := ⟨i, j, rfl, rfl, hc, h⟩
theorem go_U {f : Int → V} {i : Int} (h : Q (f i) H) : rU f (.int i) H Q := ⟨i, rfl, h⟩
theorem go_eqI {i j : Int} (h : Q (.bl (decide (i = j))) H) : rEq (.int i) (.int j) H Q := ⟨rfl, by
  have e : decide (V.int i = V.int j) = decide (i = j) := by
    by_cases q : i = j
    · subst q; simp
    · have : ¬ V.int i = V.int j := fun z => q (V.int.inj z)
      rw [decide_eq_false q, decide_eq_false this]
  rw [e]; exact h⟩
theorem go_neI {i j : Int} (h : Q (.bl (!decide (i = j))) H) : rNe (.int i) (.int j) H Q := ⟨rfl, by
  have e : decide (V.int i = V.int j) = decide (i = j) := by
    by_cases q : i = j
    · subst q; simp
    · have : ¬ V.int i = V.int j := fun z => q (V.int.inj z)
      rw [decide_eq_false q, decide_eq_false this]
  rw [e]; exact h⟩
theorem go_eqB {i j : Bool} (h : Q (.bl (i == j)) H) : rEq (.bl i) (.bl j) H Q := ⟨rfl, by rw [dec_bl]; exact h⟩
theorem go_neB {i j : Bool} (h : Q (.bl (i != j)) H) : rNe (.bl i) (.bl j) H Q := ⟨rfl, by rw [dec_bl]; exact h⟩
theorem go_isN (h : Q (.bl (decide (x = .non))) H) : rIsN x .non H Q := ⟨rfl, h⟩
theorem go_notN (h : Q (.bl (!decide (x = .non))) H) : rNotN x .non H Q := ⟨rfl, h⟩
theorem go_ixT {p : Addr} {xs : List V} {k : Int} (hs : SqT K H p xs) (ha : atI xs k = some v) (h : Q v H) : rIxT K (.ref p) (.int k) H Q := ⟨p, xs, k, v, rfl, rfl, hs, ha, h⟩
theorem go_ixL {p : Addr} {xs : List V} {k : Int} (hs : SqL K H p xs) (ha : atI xs k = some v) (h : Q v H) : rIxL K (.ref p) (.int k) H Q := ⟨p, xs, k, v, rfl, rfl, hs, ha, h⟩
theorem go_ixS {p : Addr} {xs : List V} {k : Int} (hs : SqS K H p xs) (ha : atI xs k = some v) (h : Q v H) : rIxS2 K (.ref p) (.int k) H Q := ⟨p, xs, k, v, rfl, rfl, hs, ha, h⟩
theorem go_len {p : Addr} {xs : List V} (hs : SqS K H p xs) (h : Q (.int xs.length) H) : rLenQ K [.ref p] H Q := ⟨p, xs, rfl, hs, h⟩
theorem go_tup {tt : TA} (h : tt σ H (fun xs H1 => xs.length ≤ sizeLine ∧ ∀ p, H1 p = none → Q (.ref p) (upd H1 p (.tup xs)))) : tTup tt σ H Q := h
theorem go_lst {tt : TA} (h : tt σ H (fun xs H1 => xs.length ≤ sizeLine ∧ ∀ p, H1 p = none → Q (.ref p) (upd H1 p (.lst xs)))) : tLst tt σ H Q := h
theorem go_new {xs : List V} {R : Addr → Prop} (hz : xs.length ≤ sizeLine) (h : ∀ p, H p = none → R p) : xs.length ≤ sizeLine ∧ ∀ p, H p = none → R p := ⟨hz, h⟩
theorem sqS_l {p : Addr} {xs : List V} (h : SqL K H p xs) : SqS K H p xs := .inl h
theorem sqS_r {p : Addr} {xs : List V} (h : SqT K H p xs) : SqS K H p xs := .inr h
theorem go_par {i j : Nat} {tt : TA} (h : tt σ H (fun vs H1 => ∃ v w, vs = [v, w] ∧ D.nx ((σ.set i (some v)).set j (some w)) H1)) : tPar i j tt D σ H := h
theorem go_par2 {i j : Nat} {v w : V} {R : L2.St → Hp → Prop} {σ' : L2.St} (e : (σ.set i (some v)).set j (some w) = σ') (h : R σ' H) : ∃ v' w', [v, w] = [v', w'] ∧ R ((σ.set i (some v')).set j (some w')) H := ⟨v, w, rfl, by rw [e]; exact h⟩
theorem go_aug {i : Nat} {te : TE} {ti : TIp} (e : σ[i]? = some (some x)) (h : te σ H fun y H1 => ti x y H1 fun z H2 => D.nx (σ.set i (some z)) H2) : tAug i te ti D σ H := ⟨x, e, h⟩
theorem go_ipI {f : Int → Int → Int} {i j : Int} (h : Q (.int (f i j)) H) : ipI f (.int i) (.int j) H Q := ⟨i, j, rfl, rfl, h⟩
theorem go_max2 {i j : Int} (h : Q (.int (max i j)) H) : rMax2 [.int i, .int j] H Q := ⟨i, j, rfl, by
  have e : (if j > i then j else i) = max i j := by split <;> omega
  rw [e]; exact h⟩
theorem go_min2 {i j : Int} (h : Q (.int (min i j)) H) : rMin2 [.int i, .int j] H Q := ⟨i, j, rfl, by
  have e : (if j < i then j else i) = min i j := by split <;> omega
  rw [e]; exact h⟩
theorem ite_dec {p A B : Prop} [Decidable p] (h1 : p → A) (h2 : ¬ p → B) : if decide p = true then A else B := by
  by_cases h : p
  · rw [decide_eq_true h]; exact iteT (h1 h)
  · rw [decide_eq_false h]; exact iteF (h2 h)
theorem ite_ndec {p A B : Prop} [Decidable p] (h1 : ¬ p → A) (h2 : p → B) : if (!decide p) = true then A else B := by
  by_cases h : p
  · rw [decide_eq_true h]; exact iteF (h2 h)
  · rw [decide_eq_false h]; exact iteT (h1 h)
theorem go_iteNT {A B : Prop} (h : B) : if (!true) = true then A else B := by rw [Bool.not_true]; exact iteF h
theorem go_iteNF {A B : Prop} (h : A) : if (!false) = true then A else B := by rw [Bool.not_false]; exact iteT h
theorem go_isi_int {i : Int} (h : Q (.bl true) H) : rIsi K [.int i, .ty "int"] H Q := ⟨_, _, _, _, _, rfl, .ty _, .base (.int i), kit_ty (by decide +kernel), h⟩
theorem go_isi_bool {i : Int} (h : Q (.bl false) H) : rIsi K [.int i, .ty "bool"] H Q := ⟨_, _, _, _, _, rfl, .ty _, .base (.int i), kit_ty (by decide +kernel), h⟩
end
def Amt (K : PySem.W.Frag) (H : Hp) (v : V) (p : Nat) : Prop := ∃ a, v = .ref a ∧ SqT K H a [.int (lowA p : Nat), .int (lowB p : Nat)]
theorem _root_.L2.Same.amt {K : PySem.W.Frag} {H H' : Hp} {v : V} {p : Nat} (e : Same H H') (h : Amt K H v p) : Amt K H' v p := by
  obtain ⟨a, e1, h⟩ := h
  exact ⟨a, e1, e.seqT h⟩
theorem cmB (x : Int) (p : Nat) : CMul x (lowB p : Nat) := by
  have := lowB_le p
  exact .inr ⟨by omega, by omega⟩
theorem cmB2 (x : Int) (p : Nat) : CMul (lowB p : Nat) x := by
  have := lowB_le p
  exact .inl ⟨by omega, by omega⟩
theorem En.amt0 {K : PySem.W.Frag} {mg : Str → Option Value} (E : En K mg) (H : Hp) : Amt K H (.ref (He.ga K "NOUGHT")) 0 := ⟨_, rfl, by
  rw [low_zero.1, low_zero.2]
  exact E.nought H⟩
/-! ### loops and comprehensions -/
section
variable {K : PySem.W.Frag} {σ : L2.St} {H : Hp} {D : Ends} {Q : VK} {te : TE} {tb : TS} {g : TG} {a : Addr} {xs : List V} {wi : TI}
theorem go_for (h : wi σ H fun J H1 => ∃ W : Nat → Nat → L2.St → Hp → Prop, (∃ m, W 0 m σ H1) ∧ ∀ i m σ H, W i m σ H →
  (J.stop i H ∧ D.nx σ H) ∨ (J.go i H ∧ ∃ N : L2.St → Hp → Prop, (∀ σ' H', N σ' H' → ∃ m', m' < m ∧ W (i + 1) m' σ' H') ∧ ∀ x H', J.yld i H x H' → g x σ H' fun σ2 H2 => tb { D with nx := N, ct := N, bk := D.nx } σ2 H2)) : tFor wi g tb D σ H := h
theorem go_iL {R : It → Hp → Prop} (h : te σ H fun x H1 => ∃ a, x = .ref a ∧ (∃ xs, SqL K H1 a xs) ∧ R (Itl K a) H1) : iList K te σ H R := h
theorem go_iT {R : It → Hp → Prop} (h : te σ H fun x H1 => ∃ a, x = .ref a ∧ (∃ xs, SqT K H1 a xs) ∧ R (Itt K a) H1) : iTup K te σ H R := h
theorem go_iS {R : It → Hp → Prop} (h : te σ H fun x H1 => ∃ a xs, x = .ref a ∧ ((SqL K H1 a xs ∧ R (Itl K a) H1) ∨ (SqT K H1 a xs ∧ R (Itt K a) H1))) : iSeq K te σ H R := h
theorem go_iR1 {ta : TA} {R : It → Hp → Prop} (h : ta σ H fun vs H1 => ∃ j : Int, vs = [.int j] ∧ -(2 ^ 62) ≤ j ∧ j < 2 ^ 62 ∧ R (Itr 0 j.toNat) H1) : iRng1 ta σ H R := h
theorem go_iR2 {ta : TA} {R : It → Hp → Prop} (h : ta σ H fun vs H1 => ∃ i j : Int, vs = [.int i, .int j] ∧ (-(2 ^ 62) ≤ i ∧ i < 2 ^ 62 ∧ -(2 ^ 62) ≤ j ∧ j < 2 ^ 62) ∧ R (Itr i (j - i).toNat) H1) : iRng2 ta σ H R := h
theorem go_iE {ta : TA} {R : It → Hp → Prop} (h : ta σ H fun vs H1 => ∃ a xs, vs = [.ref a] ∧ SqL K H1 a xs ∧ R (Ite K a) H1) : iEnum K ta σ H R := h
theorem go_iES {ta : TA} {R : It → Hp → Prop} (h : ta σ H fun vs H1 => ∃ a xs, vs = [.ref a] ∧ ((SqL K H1 a xs ∧ R (Ite K a) H1) ∨ (SqT K H1 a xs ∧ R (IteT K a) H1))) : iEnumS K ta σ H R := h
theorem go_iZ {ta : TA} {R : It → Hp → Prop} (h : ta σ H fun vs H1 => ∃ a b xs ys, vs = [.ref a, .ref b] ∧ SqL K H1 a xs ∧ SqL K H1 b ys ∧ R (Itz K a b) H1) : iZip K ta σ H R := h
theorem go_inL {R : It → Prop} (hs : SqL K H a xs) (h : R (Itl K a)) : ∃ a', V.ref a = .ref a' ∧ (∃ xs, SqL K H a' xs) ∧ R (Itl K a') := ⟨a, rfl, ⟨xs, hs⟩, h⟩
theorem go_inT {R : It → Prop} (hs : SqT K H a xs) (h : R (Itt K a)) : ∃ a', V.ref a = .ref a' ∧ (∃ xs, SqT K H a' xs) ∧ R (Itt K a') := ⟨a, rfl, ⟨xs, hs⟩, h⟩
theorem go_inR1 {R : It → Prop} {j : Int} (h1 : -(2 ^ 62) ≤ j ∧ j < 2 ^ 62) (h : R (Itr 0 j.toNat)) : ∃ j' : Int, [V.int j] = [.int j'] ∧ -(2 ^ 62) ≤ j' ∧ j' < 2 ^ 62 ∧ R (Itr 0 j'.toNat) := ⟨j, rfl, h1.1, h1.2, h⟩
theorem go_inR2 {R : It → Prop} {i j : Int} (h1 : -(2 ^ 62) ≤ i ∧ i < 2 ^ 62 ∧ -(2 ^ 62) ≤ j ∧ j < 2 ^ 62) (h : R (Itr i (j - i).toNat)) :
    ∃ i' j' : Int, [V.int i, V.int j] = [.int i', .int j'] ∧ (-(2 ^ 62) ≤ i' ∧ i' < 2 ^ 62 ∧ -(2 ^ 62) ≤ j' ∧ j' < 2 ^ 62) ∧ R (Itr i' (j' - i').toNat) := ⟨i, j, rfl, h1, h⟩
theorem go_inE {R : It → Prop} (hs : SqL K H a xs) (h : R (Ite K a)) : ∃ a' xs, [V.ref a] = [.ref a'] ∧ SqL K H a' xs ∧ R (Ite K a') := ⟨a, xs, rfl, hs, h⟩
theorem go_inZ {R : It → Prop} {b : Addr} {ys : List V} (hs : SqL K H a xs) (hs' : SqL K H b ys) (h : R (Itz K a b)) : ∃ a' b' xs ys, [V.ref a, V.ref b] = [.ref a', .ref b'] ∧ SqL K H a' xs ∧ SqL K H b' ys ∧ R (Itz K a' b') := ⟨a, b, xs, ys, rfl, hs, hs', h⟩
theorem go_yes {R : Bool → Hp → Prop} (h : R true H) : tYes σ H R := h
theorem go_lc {tt : TT} {vs : List Nat} (h : wi σ H fun J H1 => ∀ D, H1 D = none → ∃ W : Nat → Nat → Hp → Prop, (∃ m, W 0 m (upd H1 D (.lst []))) ∧ ∀ i m H, W i m H →
  (J.stop i H ∧ Q (.ref D) H) ∨ (J.go i H ∧ ∃ Nx : Hp → Prop, (∀ H', Nx H' → ∃ m', m' < m ∧ W (i + 1) m' H') ∧ ∀ x H', J.yld i H x H' → g x (wipe σ vs) H' fun σ2 H2 => wipe σ2 vs = wipe σ vs ∧ tt σ2 H2 fun b H3 =>
    if b = true then te σ2 H3 fun y H4 => ∃ acc, H4 D = some (.lst acc) ∧ acc.length < sizeLine ∧ Nx (upd H4 D (.lst (acc ++ [y]))) else Nx H3)) : tLc wi g tt te vs σ H Q := h
end
abbrev ForW (J : It) (g : TG) (tb : TS) (D : Ends) (σ : L2.St) (H : Hp) : Prop := ∃ W : Nat → Nat → L2.St → Hp → Prop, (∃ m, W 0 m σ H) ∧ ∀ i m σ H, W i m σ H →
      (J.stop i H ∧ D.nx σ H) ∨ (J.go i H ∧ ∃ N : L2.St → Hp → Prop, (∀ σ' H', N σ' H' → ∃ m', m' < m ∧ W (i + 1) m' σ' H') ∧ ∀ x H', J.yld i H x H' → g x σ H' fun σ2 H2 => tb { D with nx := N, ct := N, bk := D.nx } σ2 H2)
def kept (n : Nat) (f : Nat → Bool) : List Nat := (List.range n).filter f
theorem kept_yes {n : Nat} {f : Nat → Bool} (h : f n = true) : kept (n + 1) f = kept n f ++ [n] := by
  unfold kept
  rw [List.range_succ, List.filter_append, List.filter_cons, if_pos h, List.filter_nil]
theorem kept_no {n : Nat} {f : Nat → Bool} (h : f n = false) : kept (n + 1) f = kept n f := by
  unfold kept
  rw [List.range_succ, List.filter_append, List.filter_cons, if_neg (by rw [h]; decide), List.filter_nil, List.append_nil]
theorem kept_len (n : Nat) (f : Nat → Bool) : (kept n f).length ≤ n := by
  have h := List.length_filter_le f (List.range n)
  rw [List.length_range] at h
  exact h
theorem kept_all {n : Nat} {f : Nat → Bool} (h : ∀ i, i < n → f i = true) : kept n f = List.range n := by
  unfold kept
  exact List.filter_eq_self.mpr fun i hi => h i (List.mem_range.mp hi)
theorem pairLen {α β : Type} {F : α → β → Prop} : ∀ {xs : List α} {ys : List β}, Paired F xs ys → xs.length = ys.length
  | _, _, .nil => rfl
  | _, _, .cons _ t => congrArg Nat.succ (pairLen t)
theorem pairMono {α β : Type} {F G : α → β → Prop} (h : ∀ a b, F a b → G a b) : ∀ {xs : List α} {ys : List β}, Paired F xs ys → Paired G xs ys
  | _, _, .nil => .nil
  | _, _, .cons r t => .cons (h _ _ r) (pairMono h t)
theorem pairGet {α β : Type} {F : α → β → Prop} : ∀ {xs : List α} {ys : List β} {i : Nat} {x : α}, Paired F xs ys → xs[i]? = some x → ∃ y, ys[i]? = some y ∧ F x y
  | _, _, i, x, .nil, h => by simp at h
  | _, _, 0, x, .cons r t, h => by simp at h; subst h; exact ⟨_, rfl, r⟩
  | _, _, i + 1, x, .cons r t, h => by simpa using pairGet (i := i) t (by simpa using h)
theorem pairGet2 {α β : Type} {F : α → β → Prop} : ∀ {xs : List α} {ys : List β} {i : Nat} {y : β}, Paired F xs ys → ys[i]? = some y → ∃ x, xs[i]? = some x ∧ F x y
  | _, _, i, x, .nil, h => by simp at h
  | _, _, 0, x, .cons r t, h => by simp at h; subst h; exact ⟨_, rfl, r⟩
  | _, _, i + 1, x, .cons r t, h => by simpa using pairGet2 (i := i) t (by simpa using h)
/-- what a comprehension's reading asks behind its iterable -/
abbrev LcW (J : It) (g : TG) (tt : TT) (te : TE) (vs : List Nat) (σ : L2.St) (H1 : Hp) (Qd : Addr → Hp → Prop) : Prop := ∀ D, H1 D = none → ∃ W : Nat → Nat → Hp → Prop, (∃ m, W 0 m (upd H1 D (.lst []))) ∧ ∀ i m H, W i m H →
      (J.stop i H ∧ Qd D H) ∨ (J.go i H ∧ ∃ Nx : Hp → Prop, (∀ H', Nx H' → ∃ m', m' < m ∧ W (i + 1) m' H') ∧ ∀ x H', J.yld i H x H' → g x (wipe σ vs) H' fun σ2 H2 => wipe σ2 vs = wipe σ vs ∧ tt σ2 H2 fun b H3 =>
        if b = true then te σ2 H3 fun y H4 => ∃ acc, H4 D = some (.lst acc) ∧ acc.length < sizeLine ∧ Nx (upd H4 D (.lst (acc ++ [y]))) else Nx H3)
/-- a comprehension that changes nothing: the new list holds, for each kept turn i, a thing of which R i holds -/
theorem lcG {J : It} {n : Nat} {G : Hp → Prop} {Y : Nat → Hp → V → Hp → Prop} (w : Walk J n G Y) {g : TG} {tt : TT} {te : TE} {vs : List Nat} {σ : L2.St} {H1 : Hp} {Qd : Addr → Hp → Prop}
    (f : Nat → Bool) (R : Addr → Nat → Hp → V → Prop) (hn : n < 16000000) (mono : ∀ D i H H' v, But D H H' → Mut (H D) → R D i H v → R D i H' v) (hG : ∀ H, Same H1 H → G H)
    (turn : ∀ D i x H H' (N : V → Hp → Prop) (N' : Hp → Prop), i < n → H1 D = none → Same H1 H → Mut (H D) → Y i H x H' → (f i = true → ∀ y H4, Same H H4 → R D i H4 y → N y H4) → (f i = false → ∀ H3, Same H H3 → N' H3) →
      g x (wipe σ vs) H' fun σ2 H2 => wipe σ2 vs = wipe σ vs ∧ tt σ2 H2 fun b H3 => if b = true then te σ2 H3 N else N' H3)
    (hd : ∀ D H ys, H1 D = none → Same H1 H → H D = some (.lst ys) → Paired (fun y k => R D k H y) ys (kept n f) → Qd D H) : LcW J g tt te vs σ H1 Qd := by
  intro D hD
  refine lc_it w (fun i H => Same H1 H ∧ ∃ ys, H D = some (.lst ys) ∧ Paired (fun y k => R D k H y) ys (kept i f)) ⟨sameNew hD, [], upd_same, .nil⟩ (fun i H _ p => hG H p.1) ?_ (fun H p => ?_)
  · rintro i x H H' hi ⟨s, ys, hy, pr⟩ y
    have mu : Mut (H D) := by rw [hy]; trivial
    refine turn D i x H H' _ _ hi hD s mu y (fun hf z H4 s4 r4 => ?_) (fun hf H3 s3 => ?_)
    · have h4 : H4 D = some (.lst ys) := s4 _ _ hy
      have mu4 : Mut (H4 D) := by rw [h4]; trivial
      have hl : ys.length ≤ i := by rw [pairLen pr]; exact kept_len i f
      refine ⟨ys, h4, by rw [sizeLine_eq]; omega, ?_, ys ++ [z], upd_same, ?_⟩
      · exact But.same butUpd (s.trans s4) hD
      · rw [kept_yes hf]
        exact PySem.Paired.snoc (pairMono (fun a b r => mono D b _ _ a butUpd mu4 (mono D b H H4 a s4.but mu r)) pr) (mono D i _ _ z butUpd mu4 r4)
    · refine ⟨s.trans s3, ys, s3 _ _ hy, ?_⟩
      rw [kept_no hf]
      exact pairMono (fun a b r => mono D b H H3 a s3.but mu r) pr
  · obtain ⟨s, ys, hy, pr⟩ := p
    exact hd D H ys hD s hy pr
section
variable {K : PySem.W.Frag} {a : Addr} {xs : List V} {g : TG} {tt : TT} {te : TE} {vs : List Nat} {σ : L2.St} {H1 : Hp} {Qd : Addr → Hp → Prop}
theorem lcL (hS : SqL K H1 a xs) (f : Nat → Bool) (R : Addr → Nat → Hp → V → Prop) (hn : xs.length < 16000000) (mono : ∀ D i H H' v, But D H H' → Mut (H D) → R D i H v → R D i H' v)
    (turn : ∀ D i x H (N : V → Hp → Prop) (N' : Hp → Prop), xs[i]? = some x → H1 D = none → Same H1 H → Mut (H D) → (f i = true → ∀ y H4, Same H H4 → R D i H4 y → N y H4) → (f i = false → ∀ H3, Same H H3 → N' H3) →
      g x (wipe σ vs) H fun σ2 H2 => wipe σ2 vs = wipe σ vs ∧ tt σ2 H2 fun b H3 => if b = true then te σ2 H3 N else N' H3)
    (hd : ∀ D H ys, H1 D = none → Same H1 H → H D = some (.lst ys) → Paired (fun y k => R D k H y) ys (kept xs.length f) → Qd D H) : LcW (Itl K a) g tt te vs σ H1 Qd :=
  lcG walk_list f R hn mono (fun H s => s.seqL hS) (fun D i x H H' N N' hi hD s mu y q1 q2 => by
      obtain ⟨rfl, hx⟩ := y
      exact turn D i x _ N N' hx hD s mu q1 q2) hd
theorem lcT (hS : SqT K H1 a xs) (f : Nat → Bool) (R : Addr → Nat → Hp → V → Prop) (hn : xs.length < 16000000) (mono : ∀ D i H H' v, But D H H' → Mut (H D) → R D i H v → R D i H' v)
    (turn : ∀ D i x H (N : V → Hp → Prop) (N' : Hp → Prop), xs[i]? = some x → H1 D = none → Same H1 H → Mut (H D) → (f i = true → ∀ y H4, Same H H4 → R D i H4 y → N y H4) → (f i = false → ∀ H3, Same H H3 → N' H3) →
      g x (wipe σ vs) H fun σ2 H2 => wipe σ2 vs = wipe σ vs ∧ tt σ2 H2 fun b H3 => if b = true then te σ2 H3 N else N' H3)
    (hd : ∀ D H ys, H1 D = none → Same H1 H → H D = some (.lst ys) → Paired (fun y k => R D k H y) ys (kept xs.length f) → Qd D H) : LcW (Itt K a) g tt te vs σ H1 Qd :=
  lcG walk_tup f R hn mono (fun H s => s.seqT hS) (fun D i x H H' N N' hi hD s mu y q1 q2 => by
      obtain ⟨rfl, hx⟩ := y
      exact turn D i x _ N N' hx hD s mu q1 q2) hd
theorem lcS (hS : SqS K H1 a xs) (f : Nat → Bool) (R : Addr → Nat → Hp → V → Prop) (hn : xs.length < 16000000) (mono : ∀ D i H H' v, But D H H' → Mut (H D) → R D i H v → R D i H' v)
    (turn : ∀ D i x H (N : V → Hp → Prop) (N' : Hp → Prop), xs[i]? = some x → H1 D = none → Same H1 H → Mut (H D) → (f i = true → ∀ y H4, Same H H4 → R D i H4 y → N y H4) → (f i = false → ∀ H3, Same H H3 → N' H3) →
      g x (wipe σ vs) H fun σ2 H2 => wipe σ2 vs = wipe σ vs ∧ tt σ2 H2 fun b H3 => if b = true then te σ2 H3 N else N' H3)
    (hd : ∀ D H ys, H1 D = none → Same H1 H → H D = some (.lst ys) → Paired (fun y k => R D k H y) ys (kept xs.length f) → Qd D H) : (SqL K H1 a xs ∧ LcW (Itl K a) g tt te vs σ H1 Qd) ∨ (SqT K H1 a xs ∧ LcW (Itt K a) g tt te vs σ H1 Qd) :=
  hS.elim (fun h => .inl ⟨h, lcL h f R hn mono turn hd⟩) fun h => .inr ⟨h, lcT h f R hn mono turn hd⟩
theorem lcR {lo : Int} {n : Nat} (f : Nat → Bool) (R : Addr → Nat → Hp → V → Prop) (hn : n < 16000000) (mono : ∀ D i H H' v, But D H H' → Mut (H D) → R D i H v → R D i H' v)
    (turn : ∀ D i H (N : V → Hp → Prop) (N' : Hp → Prop), i < n → H1 D = none → Same H1 H → Mut (H D) → (f i = true → ∀ y H4, Same H H4 → R D i H4 y → N y H4) → (f i = false → ∀ H3, Same H H3 → N' H3) →
      g (.int (lo + i)) (wipe σ vs) H fun σ2 H2 => wipe σ2 vs = wipe σ vs ∧ tt σ2 H2 fun b H3 => if b = true then te σ2 H3 N else N' H3)
    (hd : ∀ D H ys, H1 D = none → Same H1 H → H D = some (.lst ys) → Paired (fun y k => R D k H y) ys (kept n f) → Qd D H) : LcW (Itr lo n) g tt te vs σ H1 Qd :=
  lcG walk_range f R hn mono (fun H s => trivial) (fun D i x H H' N N' hi hD s mu y q1 q2 => by
      obtain ⟨rfl, rfl⟩ := y
      exact turn D i _ N N' hi hD s mu q1 q2) hd
end
theorem for_seq {K : PySem.W.Frag} {a : Addr} {xs : List V} {g : TG} {tb : TS} {D : Ends} {σ : L2.St} {H0 H : Hp} (hS : SqS K H0 a xs) (Pv : Nat → L2.St → Hp → Prop) (h0 : Pv 0 σ H) (hG : ∀ i σ' H', Pv i σ' H' → Same H0 H')
    (hs : ∀ i x σ H, xs[i]? = some x → Pv i σ H → g x σ H fun σ2 H2 => tb { D with nx := Pv (i + 1), ct := Pv (i + 1), bk := D.nx } σ2 H2) (hd : ∀ σ H, Pv xs.length σ H → D.nx σ H) :
    (SqL K H a xs ∧ ForW (Itl K a) g tb D σ H) ∨ (SqT K H a xs ∧ ForW (Itt K a) g tb D σ H) := by
  rcases hS with h | h
  · exact .inl ⟨(hG _ _ _ h0).seqL h, for_list (xs := xs) Pv h0 (fun i σ' H' _ p => (hG i σ' H' p).seqL h) hs hd⟩
  · exact .inr ⟨(hG _ _ _ h0).seqT h, for_tup (xs := xs) Pv h0 (fun i σ' H' _ p => (hG i σ' H' p).seqT h) hs hd⟩
/-- ints that count -/
def nv (ns : List Nat) : List V := ns.map fun n => V.int (n : Nat)
theorem nv_get {ns : List Nat} {i : Nat} {x : V} (h : (nv ns)[i]? = some x) : ∃ n, ns[i]? = some n ∧ x = .int n := by
  unfold nv at h
  rw [List.getElem?_map] at h
  cases e : ns[i]? with
  | none => rw [e] at h; cases h
  | some n => rw [e] at h; exact ⟨n, rfl, (Option.some.inj h).symm⟩
theorem nv_at {ns : List Nat} {i n : Nat} (h : ns[i]? = some n) : (nv ns)[i]? = some (.int n) := by
  unfold nv
  rw [List.getElem?_map, h]
  rfl
theorem nv_len (ns : List Nat) : (nv ns).length = ns.length := List.length_map _
theorem nv_flat (ns : List Nat) : (nv ns).all flatV = true := by
  unfold nv
  rw [List.all_map]
  exact List.all_eq_true.mpr fun _ _ => rfl
theorem nv_in (n : Nat) (ns : List Nat) : inV (.int n) (nv ns) = decide (n ∈ ns) := by
  unfold inV nv
  rw [List.any_map]
  induction ns with
  | nil => simp
  | cons a r ih =>
    rw [List.any_cons, ih]
    have e : ((fun y => eqV y (V.int (n : Nat))) ∘ fun n : Nat => V.int n) a = decide (n = a) := by
      show eqV (V.int (a : Nat)) (V.int (n : Nat)) = decide (n = a)
      by_cases h : n = a
      · subst h; simp [eqV]
      · rw [decide_eq_false h]
        have : ¬ ((a : Int) = (n : Int)) := fun z => h (by omega)
        simp [eqV, this]
    rw [e]
    by_cases h : n = a
    · subst h; simp
    · simp [h]
/-! ### targets, dicts, fields -/
section
variable {K : PySem.W.Frag} {σ : L2.St} {H : Hp} {D : Ends} {Q : VK} {te td ty tx tv : TE} {tb : TS} {g : TG} {a d : Addr} {xs : List V} {v x y : V} {R : L2.St → Hp → Prop} {f : Str}
theorem go_gTup {n : Nat} {t : TGs} (hs : SqT K H a xs) (hl : xs.length = n) (h : t xs σ H R) : gTup K n t (.ref a) σ H R := ⟨a, xs, rfl, hs, hl, h⟩
theorem go_gSeq {n : Nat} {t : TGs} (hs : SqS K H a xs) (hl : xs.length = n) (h : t xs σ H R) : gSeq K n t (.ref a) σ H R := ⟨a, xs, rfl, hs, hl, h⟩
theorem go_gCons {t : TG} {u : TGs} {r : List V} (h : t v σ H fun σ' H' => u r σ' H' R) : gCons t u (v :: r) σ H R := ⟨v, r, rfl, h⟩
theorem go_gNil (h : R σ H) : gNil [] σ H R := ⟨rfl, h⟩
theorem go_gSub {to ti : TE} {t : TSet} (h : to σ H fun o H1 => ti σ H1 fun i H2 => t o i v H2 fun H3 => R σ H3) : gSub to ti t v σ H R := h
theorem go_setL {k : Int} {j : Nat} {R : Hp → Prop} (hl : H a = some (.lst xs)) (hj : ixN xs.length k = some j) (h : R (upd H a (.lst (xs.set j v)))) : rSetL (.ref a) (.int k) v H R := ⟨a, xs, k, j, rfl, rfl, hl, hj, h⟩
theorem ixN_nat {n j : Nat} (h : j < n) : ixN n (j : Int) = some j := by
  unfold ixN
  rw [if_pos (Int.natCast_nonneg j), if_pos (by omega), Int.toNat_natCast]
/-- a dict with tuple keys: what it says -/
theorem go_din (h : ty σ H fun y H1 => td σ H1 fun x H2 => ∃ a o, x = .ref a ∧ DGet H2 a y o ∧ Q (.bl o.isSome) H2) : tDIn ty td σ H Q := h
theorem go_dnotin (h : ty σ H fun y H1 => td σ H1 fun x H2 => ∃ a o, x = .ref a ∧ DGet H2 a y o ∧ Q (.bl (!o.isSome)) H2) : tDNotIn ty td σ H Q := h
theorem go_dget (h : td σ H fun x H1 => ty σ H1 fun y H2 => ∃ a v, x = .ref a ∧ DGet H2 a y (some v) ∧ Q v H2) : tDGet td ty σ H Q := h
theorem go_dget2 (h : td σ H fun x H1 => ∃ a, x = .ref a ∧ IsD H1 a ∧ ty σ H1 fun y H2 => tx σ H2 fun z H3 => ∃ o, DGet H3 a y o ∧ Q (o.getD z) H3) : tDGet2 td ty tx σ H Q := h
theorem go_dput (h : tv σ H fun v H1 => td σ H1 fun x H2 => ty σ H2 fun y H3 => ∃ a H4, x = .ref a ∧ DPut H3 a y v H4 ∧ D.nx σ H4) : sDPut td ty tv D σ H := h
theorem go_newD (h : ∀ p, H p = none → Q (.ref p) (upd H p (.dT []))) : tDNewT σ H Q := h
theorem go_fld (h : te σ H fun x H1 => ∃ a C dx fs v, x = .ref a ∧ H1 a = some (.ins C dx fs) ∧ Cls K C ∧ NoAttr K C f ∧ fs.lookup f = some v ∧ Q v H1) : tFld K te f σ H Q := h
theorem go_sfld (h : tv σ H fun y H1 => te σ H1 fun x H2 => ∃ a C dx fs, x = .ref a ∧ H2 a = some (.ins C dx fs) ∧ Cls K C ∧ NoAttr K C f ∧ fs.length < 1000 ∧ D.nx σ (upd H2 a (.ins C dx (putF f y fs)))) : sFld K te tv f D σ H := h
theorem go_m {C : Addr} {m : Str} {n : Nat} {sp : Sp0} {t : TA} (h : te σ H fun x H1 => ∃ a dx fs, x = .ref a ∧ H1 a = some (.ins C dx fs) ∧ fs.lookup m = none ∧ t σ H1 fun vs H2 => (x :: vs).length = n ∧ sp (x :: vs) H2 Q) : tM C m n sp te t σ H Q := h
theorem go_bm {T : String} {r : V → List V → Hp → VK → Prop} {to : TE} {t : TA} (h : to σ H fun x H1 => tyV K T x H1 ∧ t σ H1 fun xs H2 => r x xs H2 Q) : tBM K T r to t σ H Q := h
theorem go_bm0 {T : String} {r : V → List V → Hp → VK → Prop} {to : TE} (h : to σ H fun x H1 => tyV K T x H1 ∧ r x [] H1 Q) : tBM0 K T r to σ H Q := h
end
/-- pairs as keys -/
def pkN (i j : Nat) : List Key := [.inl (i : Int), .inl (j : Int)]
theorem pkN_inj {i j i' j' : Nat} (h : pkN i j = pkN i' j') : i = i' ∧ j = j' := by
  unfold pkN at h
  simp only [List.cons.injEq, Sum.inl.injEq, and_true] at h
  omega
theorem pkN_V (i j : Nat) : (pkN i j).map kV = [.int i, .int j] := rfl
theorem DGet.pk {H : Hp} {d p : Addr} {kvs : List (List Key × V)} {i j : Nat} (hd : Rd H d (.dT kvs)) (hp : H p = some (.tup [.int (i : Nat), .int (j : Nat)])) : DGet H d (.ref p) (valV kvs (pkN i j)) := .inr ⟨kvs, pkN i j, p, hd, rfl, hp, rfl⟩
theorem DPut.pk {H : Hp} {d p : Addr} {kvs : List (List Key × V)} {i j : Nat} {v : V} (hd : H d = some (.dT kvs)) (hp : H p = some (.tup [.int (i : Nat), .int (j : Nat)])) (hl : kvs.length < sizeLine) : DPut H d (.ref p) v (upd H d (.dT (putK kvs (pkN i j) v))) := .inr ⟨kvs, pkN i j, p, hd, rfl, hp, hl, rfl⟩
theorem valV_none {κ : Type} [DecidableEq κ] {kvs : List (κ × V)} {k : κ} (h : k ∉ kvs.map (·.1)) : valV kvs k = none := by
  cases e : valV kvs k with
  | none => rfl
  | some v => exact absurd (valV_in e) h
theorem valV_mem {κ : Type} [DecidableEq κ] : ∀ {kvs : List (κ × V)} {k : κ} {v : V}, valV kvs k = some v → (k, v) ∈ kvs
  | [], _, _, h => by cases h
  | p :: r, k, v, h => by
    by_cases e : p.1 = k
    · rw [valV_pos e] at h
      cases h
      rw [← e]
      exact List.mem_cons_self
    · rw [valV_neg e] at h
      exact List.mem_cons_of_mem _ (valV_mem h)
theorem valV_of_mem {κ : Type} [DecidableEq κ] : ∀ {kvs : List (κ × V)} {k : κ} {v : V}, (kvs.map (·.1)).Nodup → (k, v) ∈ kvs → valV kvs k = some v
  | [], _, _, _, h => by cases h
  | p :: r, k, v, hn, h => by
    obtain ⟨h1, h2⟩ := List.nodup_cons.mp hn
    rcases List.mem_cons.mp h with e | h
    · rw [← e]
      exact valV_pos rfl
    · have : ¬ p.1 = k := fun z => h1 (List.mem_map.mpr ⟨(k, v), h, z.symm⟩)
      rw [valV_neg this]
      exact valV_of_mem h2 h
/-! ### enumerate over a list or a tuple -/
theorem walk_enumT {K : PySem.W.Frag} {a : Addr} {xs : List V} : Walk (IteT K a) xs.length (fun H => SqT K H a xs) (YPair (fun i => some (.int (i : Nat))) (fun i => xs[i]?)) := by
  refine ⟨fun i _ hi q => ⟨xs, xs[i], q, by simp [hi]⟩, fun _ q => ⟨xs, q, Nat.le_refl _⟩, fun i H v H' _ q y => ?_⟩
  obtain ⟨T, x, h1, h2, h3, h4⟩ := y
  exact ⟨T, .int (i : Nat), x, h1, h2, h3, rfl, h4 xs q⟩
/-- the turn's pair, as a new tuple, taken apart -/
theorem for_enumS {K : PySem.W.Frag} {a : Addr} {xs : List V} {g : TG} {tb : TS} {D : Ends} {σ : L2.St} {H0 H : Hp} (hS : SqS K H0 a xs) (Pv : Nat → L2.St → Hp → Prop) (h0 : Pv 0 σ H) (hG : ∀ i σ' H', Pv i σ' H' → Same H0 H')
    (hs : ∀ i x T σ H, xs[i]? = some x → Pv i σ H → H T = none → g (.ref T) σ (upd H T (.tup [.int (i : Nat), x])) fun σ2 H2 => tb { D with nx := Pv (i + 1), ct := Pv (i + 1), bk := D.nx } σ2 H2) (hd : ∀ σ H, Pv xs.length σ H → D.nx σ H) :
    (SqL K H a xs ∧ ForW (Ite K a) g tb D σ H) ∨ (SqT K H a xs ∧ ForW (IteT K a) g tb D σ H) := by
  rcases hS with h | h
  · refine .inl ⟨(hG _ _ _ h0).seqL h, for_it (walk_enum (xs := xs)) Pv h0 (fun i σ' H' _ p => (hG i σ' H' p).seqL h) ?_ hd⟩
    rintro i x σ' H1 H2 hi p ⟨T, u, v, rfl, hT, rfl, e1, e2⟩
    cases e1
    exact hs i v T σ' H1 e2 p hT
  · refine .inr ⟨(hG _ _ _ h0).seqT h, for_it (walk_enumT (xs := xs)) Pv h0 (fun i σ' H' _ p => (hG i σ' H' p).seqT h) ?_ hd⟩
    rintro i x σ' H1 H2 hi p ⟨T, u, v, rfl, hT, rfl, e1, e2⟩
    cases e1
    exact hs i v T σ' H1 e2 p hT
/-! ### data that are compared -/
theorem canInts : ∀ ns : List Int, PyData.canLayAll0 (ns.map PyData.int) = true
  | [] => by simp [PyData.canLayAll0]
  | x :: xs => by
    show PyData.canLayAll0 (.int x :: xs.map PyData.int) = true
    rw [PyData.canLayAll0, canInts xs]
    simp [PyData.canLay0]
theorem depInts : ∀ ns : List Int, PyData.depthAll (ns.map PyData.int) = 0
  | [] => by simp [PyData.depthAll]
  | x :: xs => by
    show PyData.depthAll (.int x :: xs.map PyData.int) = 0
    rw [PyData.depthAll, depInts xs]
    simp [PyData.depth]
theorem shTup (ns : List Int) : SeqAt.shaped (.tuple (ns.map PyData.int)) = true := by
  unfold SeqAt.shaped
  rw [PyData.canLay0, canInts, PyData.depth, depInts]
  rfl
theorem shLst (ns : List Int) : SeqAt.shaped (.list (ns.map PyData.int)) = true := by
  unfold SeqAt.shaped
  rw [PyData.canLay0, canInts, PyData.depth, depInts]
  rfl
theorem dpInts {K : PySem.W.Frag} {H : Hp} : ∀ ns : List Int, DpAll K H (ns.map V.int) (ns.map PyData.int)
  | [] => .nil
  | x :: xs => .cons (.int x) (dpInts xs)
theorem eqvInts : ∀ ns ms : List Int, PyData.eqvAll (ns.map PyData.int) (ms.map PyData.int) = decide (ns = ms)
  | [], [] => by simp [PyData.eqvAll]
  | [], y :: ys => by simp [PyData.eqvAll]
  | x :: xs, [] => by simp [PyData.eqvAll]
  | x :: xs, y :: ys => by
    show PyData.eqvAll (.int x :: xs.map PyData.int) (.int y :: ys.map PyData.int) = _
    rw [PyData.eqvAll, eqvInts xs ys, PyData.eqv]
    by_cases h : x = y
    · subst h; simp
    · simp [h]
section
variable {K : PySem.W.Frag} {H : Hp} {Q : VK} {a b : Addr}
theorem go_eqT {ns ms : List Int} (ha : SqT K H a (ns.map V.int)) (hb : SqT K H b (ms.map V.int)) (h : Q (.bl (decide (ns = ms))) H) : rEqD K (.ref a) (.ref b) H Q :=
  ⟨.tuple (ns.map PyData.int), .tuple (ms.map PyData.int), .tup ha (dpInts _), .tup hb (dpInts _), shTup _, shTup _, by rw [PyData.eqv, eqvInts]; exact h⟩
theorem go_neT {ns ms : List Int} (ha : SqT K H a (ns.map V.int)) (hb : SqT K H b (ms.map V.int)) (h : Q (.bl (!decide (ns = ms))) H) : rNeD K (.ref a) (.ref b) H Q :=
  ⟨.tuple (ns.map PyData.int), .tuple (ms.map PyData.int), .tup ha (dpInts _), .tup hb (dpInts _), shTup _, shTup _, by rw [PyData.eqv, eqvInts]; exact h⟩
theorem go_eqL {ns ms : List Int} (ha : SqL K H a (ns.map V.int)) (hb : SqL K H b (ms.map V.int)) (h : Q (.bl (decide (ns = ms))) H) : rEqD K (.ref a) (.ref b) H Q :=
  ⟨.list (ns.map PyData.int), .list (ms.map PyData.int), .lst ha (dpInts _), .lst hb (dpInts _), shLst _, shLst _, by rw [PyData.eqv, eqvInts]; exact h⟩
theorem go_neL {ns ms : List Int} (ha : SqL K H a (ns.map V.int)) (hb : SqL K H b (ms.map V.int)) (h : Q (.bl (!decide (ns = ms))) H) : rNeD K (.ref a) (.ref b) H Q :=
  ⟨.list (ns.map PyData.int), .list (ms.map PyData.int), .lst ha (dpInts _), .lst hb (dpInts _), shLst _, shLst _, by rw [PyData.eqv, eqvInts]; exact h⟩
theorem amtEq {x y : V} {p q : Nat} (hx : Amt K H x p) (hy : Amt K H y q) (h : Q (.bl (decide (p = q))) H) : rEqD K x y H Q := by
  obtain ⟨a, rfl, ha⟩ := hx
  obtain ⟨b, rfl, hb⟩ := hy
  refine go_eqT (ns := [(lowA p : Nat), (lowB p : Nat)]) (ms := [(lowA q : Nat), (lowB q : Nat)]) ha hb ?_
  have e : decide (([((lowA p : Nat) : Int), ((lowB p : Nat) : Int)] : List Int) = [((lowA q : Nat) : Int), ((lowB q : Nat) : Int)]) = decide (p = q) := by
    rw [decide_eq_decide]
    constructor
    · intro h
      simp only [List.cons.injEq, and_true] at h
      exact low_inj (by omega) (by omega)
    · rintro rfl; rfl
  rw [e]
  exact h
theorem amtNe {x y : V} {p q : Nat} (hx : Amt K H x p) (hy : Amt K H y q) (h : Q (.bl (!decide (p = q))) H) : rNeD K x y H Q := by
  obtain ⟨a, rfl, ha⟩ := hx
  obtain ⟨b, rfl, hb⟩ := hy
  refine go_neT (ns := [(lowA p : Nat), (lowB p : Nat)]) (ms := [(lowA q : Nat), (lowB q : Nat)]) ha hb ?_
  have e : decide (([((lowA p : Nat) : Int), ((lowB p : Nat) : Int)] : List Int) = [((lowA q : Nat) : Int), ((lowB q : Nat) : Int)]) = decide (p = q) := by
    rw [decide_eq_decide]
    constructor
    · intro h
      simp only [List.cons.injEq, and_true] at h
      exact low_inj (by omega) (by omega)
    · rintro rfl; rfl
  rw [e]
  exact h
end
theorem go_sl {r : V → Option Int → Option Int → Hp → VK → Prop} {te : TE} {tl th : TO} {σ : L2.St} {H : Hp} {Q : VK} (h : te σ H fun x H1 => tl σ H1 fun l H2 => th σ H2 fun u H3 => r x l u H3 Q) : tSl r te tl th σ H Q := h
theorem go_part {t : TE} {σ : L2.St} {H : Hp} {Q : Option Int → Hp → Prop} (h : t σ H fun x H1 => ∃ i, x = .int i ∧ Q (some i) H1) : tPart t σ H Q := h
theorem go_nopart {σ : L2.St} {H : Hp} {Q : Option Int → Hp → Prop} (h : Q none H) : tNoPart σ H Q := h
theorem go_mk {σ : L2.St} {H : Hp} {Q : VK} {C : Addr} {n : Nat} {sp : Sp0} {t : TA} (h : t σ H fun vs H1 => ∀ x dx, H1 x = none → H1 dx = none → dx ≠ x →
  (V.ref x :: vs).length = n ∧ sp (.ref x :: vs) (upd (upd H1 dx (.own x)) x (.ins C dx [])) (fun v H2 => v = .non ∧ Q (.ref x) H2)) : tMk C n sp t σ H Q := h
theorem go_break {D : L2.Ends} {σ : L2.St} {H : Hp} (h : D.bk σ H) : tBreak D σ H := h
theorem go_iK {td : TE} {σ : L2.St} {H : Hp} {R : It → Hp → Prop} (h : td σ H fun x H1 => ∃ d o, x = .ref d ∧ ((∃ kvs, H1 d = some (.frz o (.dK kvs)) ∧ R (Itk d o kvs) H1) ∨ ∃ kvs, H1 d = some (.frz o (.dT kvs)) ∧ R (Itkt d o kvs) H1)) : iKeys td σ H R := h
theorem go_intB {H : Hp} {Q : VK} {k : Bool} (h : Q (.int (if k then 1 else 0)) H) : rIntQ [.bl k] H Q := .inr ⟨k, rfl, h⟩
theorem go_augS {to ti te : TE} {tget : V → V → Hp → VK → Prop} {tip : TIp} {tset : TSet} {D : L2.Ends} {σ : L2.St} {H : Hp} (h : to σ H fun o H1 => ti σ H1 fun i H2 => tget o i H2 fun x H3 => te σ H3 fun y H4 => tip x y H4 fun z H5 => tset o i z H5 fun H6 => D.nx σ H6) : tAugS to ti te tget tip tset D σ H := h
end Cs
namespace Cs
open PySem PySem.Spec PyProof.Rows L2
def t_is_whole (K : PySem.W.Frag) : TS := (tRet (tAndV (tCB (rIsi K) (tCons (tVar 0) (tCons (tC (.ty "int")) tNil))) (tAndV (tNotV (tCB (rIsi K) (tCons (tVar 0) (tCons (tC (.ty "bool")) tNil)))) (tChain rLe rLe (tVar 1) (tVar 0) (tVar 2)))))
theorem sc_is_whole : FnScope ["thing", "least", "most"] ["thing", "least", "most"] (defScope s_is_whole) := ⟨rfl, rfl, rfl, by decide +kernel, rfl, by decide +kernel, by decide +kernel⟩
theorem ok_is_whole {K : PySem.W.Frag} {mg : Str → Option Value} {k : Nat} {sp : Sp0} (E : En K mg)
    (pure : ∀ vs H Q, sp vs H Q → t_is_whole K { nx := fun _ H' => Q .non H', rt := Q } (start ["thing", "least", "most"] vs) H) : Okf K mg d_is_whole ["thing", "least", "most"] (k + 1) sp := by
  refine okf_of (d := d_is_whole) (N := ["thing", "least", "most"]) (t_is_whole K ) E.fd_is_whole sc_is_whole (fun _ _ _ _ _ _ us hl => match us, hl with | [_, _, _], _ => rfl) (fun P w base cdv A outer s H Ex hr => ?_) pure
  have nd := (sc_is_whole).nd
  exact (pss_one (ps_ret (pe_and (pe_callB call_isi (by rfl) E.f_isinstance (by decide +kernel) (pa_cons (pv 0) (pa_cons (pe_bltn (v := .ty "int") rfl E.f_int (by decide +kernel) rfl) pa_nil))) (pe_and (pe_not (pe_callB call_isi (by rfl) E.f_isinstance (by decide +kernel) (pa_cons (pv 0) (pa_cons (pe_bltn (v := .ty "bool") rfl E.f_bool (by decide +kernel) rfl) pa_nil)))) (pe_one (pe_chain op_le op_le (pv 1) (pv 0) (pv 2)))))))
def t_is_row (K : PySem.W.Frag) : TS := (tRet (tCB (rIsiT K) (tCons (tVar 0) (tCons (tTup (tCons (tC (.ty "list")) (tCons (tC (.ty "tuple")) tNil))) tNil))))
theorem sc_is_row : FnScope ["thing"] ["thing"] (defScope s_is_row) := ⟨rfl, rfl, rfl, by decide +kernel, rfl, by decide +kernel, by decide +kernel⟩
theorem ok_is_row {K : PySem.W.Frag} {mg : Str → Option Value} {k : Nat} {sp : Sp0} (E : En K mg)
    (pure : ∀ vs H Q, sp vs H Q → t_is_row K { nx := fun _ H' => Q .non H', rt := Q } (start ["thing"] vs) H) : Okf K mg d_is_row ["thing"] (k + 1) sp := by
  refine okf_of (d := d_is_row) (N := ["thing"]) (t_is_row K ) E.fd_is_row sc_is_row (fun _ _ _ _ _ _ us hl => match us, hl with | [_], _ => rfl) (fun P w base cdv A outer s H Ex hr => ?_) pure
  have nd := (sc_is_row).nd
  exact (pss_one (ps_ret (pe_callB call_isiT (by rfl) E.f_isinstance (by decide +kernel) (pa_cons (pv 0) (pa_cons (pe_tup (pa_cons (pe_bltn (v := .ty "list") rfl E.f_list (by decide +kernel) rfl) (pa_cons (pe_bltn (v := .ty "tuple") rfl E.f_tuple (by decide +kernel) rfl) pa_nil))) pa_nil)))))
def t_as_tuples (K : PySem.W.Frag) (p_is_row p_as_tuples : Sp0) : TS := (tSeq (tIfS (tNot (tB (tF 1 p_is_row (tCons (tVar 0) tNil)))) (tRet (tVar 0)) tNext)
  (tRet (tCB (rTupQ K) (tCons (tLc (iSeq K (tVar 0)) (gName 1) tYes (tF 1 p_as_tuples (tCons (tVar 1) tNil)) [1]) tNil))))
theorem sc_as_tuples : FnScope ["thing", "part"] ["thing"] (defScope s_as_tuples) := ⟨rfl, rfl, rfl, by decide +kernel, rfl, by decide +kernel, by decide +kernel⟩
theorem ok_as_tuples {K : PySem.W.Frag} {mg : Str → Option Value} {k : Nat} {sp : Sp0} {p_is_row p_as_tuples : Sp0} (E : En K mg) (h_is_row : Okf K mg d_is_row ["thing"] k p_is_row) (h_as_tuples : Okf K mg d_as_tuples ["thing"] k p_as_tuples)
    (pure : ∀ vs H Q, sp vs H Q → t_as_tuples K p_is_row p_as_tuples { nx := fun _ H' => Q .non H', rt := Q } (start ["thing", "part"] vs) H) : Okf K mg d_as_tuples ["thing"] (k + 1) sp := by
  refine okf_of (d := d_as_tuples) (N := ["thing", "part"]) (t_as_tuples K p_is_row p_as_tuples) E.fd_as_tuples sc_as_tuples (fun _ _ _ _ _ _ us hl => match us, hl with | [_], _ => rfl) (fun P w base cdv A outer s H Ex hr => ?_) pure
  have nd := (sc_as_tuples).nd
  exact (pss_cons (ps_if (pt_not (pt_val (pe_f h_is_row hr rfl E.g_is_row (pa_cons (pv 0) pa_nil)) (by intro _; rfl))) (pss_one (ps_ret (pv 0))) pss_nil)
      (pss_one (ps_ret (pe_callTy call_tuple_of (by rfl) E.f_tuple (by decide +kernel) (pa_cons (pe_lc (own := [("part", 1)]) rfl nd (pi_seq (pv 0)) (blkOk_by (N := ["thing", "part"]) (sc := defScope s_as_tuples) (by decide +kernel)) (fun _ _ _ _ _ => (pg_name (i := 1) nd rfl (Or.inl rfl))) (fun _ _ _ _ _ => pts_nil) (fun _ _ _ _ _ => (pe_f h_as_tuples hr rfl E.g_as_tuples (pa_cons (pv 1) pa_nil)))) pa_nil)))))
def t_divisor (K : PySem.W.Frag) : TS := (tSeq (tWhile (tTest (tOp rGt2 (tVar 1) (tC (.int 0)))) (tPar 0 1 (tCons (tVar 1) (tCons (tOp rModu (tVar 0) (tVar 1)) tNil))))
  (tRet (tVar 0)))
theorem sc_divisor : FnScope ["one", "other"] ["one", "other"] (defScope s_divisor) := ⟨rfl, rfl, rfl, by decide +kernel, rfl, by decide +kernel, by decide +kernel⟩
theorem ok_divisor {K : PySem.W.Frag} {mg : Str → Option Value} {k : Nat} {sp : Sp0} (E : En K mg)
    (pure : ∀ vs H Q, sp vs H Q → t_divisor K { nx := fun _ H' => Q .non H', rt := Q } (start ["one", "other"] vs) H) : Okf K mg d_divisor ["one", "other"] (k + 1) sp := by
  refine okf_of (d := d_divisor) (N := ["one", "other"]) (t_divisor K ) E.fd_divisor sc_divisor (fun _ _ _ _ _ _ us hl => match us, hl with | [_, _], _ => rfl) (fun P w base cdv A outer s H Ex hr => ?_) pure
  have nd := (sc_divisor).nd
  exact (pss_cons (ps_while PassesOwn.never (pt_cmpR op_gt (pv 1) pe_int (nomark _)) (pss_one (ps_par (by rfl) nd (i := 0) (j := 1) rfl rfl (by decide) rfl rfl (pa_cons (pv 1) (pa_cons (pe_op op_mod (pv 0) (pv 1)) pa_nil)) (by rfl))))
      (pss_one (ps_ret (pv 0))))
def t_is_amount (K : PySem.W.Frag) (p_is_row p_divisor : Sp0) : TS := (tSeq (tIfS (tOr (tNot (tB (tF 1 p_is_row (tCons (tVar 0) tNil)))) (tTest (tOp rNe (tCB (rLenQ K) (tCons (tVar 0) tNil)) (tC (.int 2))))) (tRet (tC (.bl false))) tNext)
  (tSeq (tFor (iSeq K (tVar 0)) (gName 1) (tIfS (tOr (tNot (tB (tCB (rIsi K) (tCons (tVar 1) (tCons (tC (.ty "int")) tNil))))) (tB (tCB (rIsi K) (tCons (tVar 1) (tCons (tC (.ty "bool")) tNil))))) (tRet (tC (.bl false))) tNext))
  (tRet (tAndV (tOp rGe2 (tOp (rIxS2 K) (tVar 0) (tC (.int 0))) (tC (.int 0))) (tAndV (tOp rGe2 (tOp (rIxS2 K) (tVar 0) (tC (.int 1))) (tC (.int 1))) (tOp rEq (tF 2 p_divisor (tCons (tOp (rIxS2 K) (tVar 0) (tC (.int 0))) (tCons (tOp (rIxS2 K) (tVar 0) (tC (.int 1))) tNil))) (tC (.int 1))))))))
theorem sc_is_amount : FnScope ["thing", "number"] ["thing"] (defScope s_is_amount) := ⟨rfl, rfl, rfl, by decide +kernel, rfl, by decide +kernel, by decide +kernel⟩
theorem ok_is_amount {K : PySem.W.Frag} {mg : Str → Option Value} {k : Nat} {sp : Sp0} {p_is_row p_divisor : Sp0} (E : En K mg) (h_is_row : Okf K mg d_is_row ["thing"] k p_is_row) (h_divisor : Okf K mg d_divisor ["one", "other"] k p_divisor)
    (pure : ∀ vs H Q, sp vs H Q → t_is_amount K p_is_row p_divisor { nx := fun _ H' => Q .non H', rt := Q } (start ["thing", "number"] vs) H) : Okf K mg d_is_amount ["thing"] (k + 1) sp := by
  refine okf_of (d := d_is_amount) (N := ["thing", "number"]) (t_is_amount K p_is_row p_divisor) E.fd_is_amount sc_is_amount (fun _ _ _ _ _ _ us hl => match us, hl with | [_], _ => rfl) (fun P w base cdv A outer s H Ex hr => ?_) pure
  have nd := (sc_is_amount).nd
  exact (pss_cons (ps_if (PW.pt (pw_or (pt_not (pt_val (pe_f h_is_row hr rfl E.g_is_row (pa_cons (pv 0) pa_nil)) (by intro _; rfl))) (pw_or1 (pt_cmpR op_ne (pe_callB call_len_seq (by rfl) E.f_len PySem.boot_len (pa_cons (pv 0) pa_nil)) pe_int (nomark _))))) (pss_one (ps_ret pe_bl)) pss_nil)
      (pss_cons (ps_for PassesOwn.never rfl (pi_seq (pv 0)) (pg_name (i := 1) nd rfl (Or.inl rfl)) (pss_one (ps_if (PW.pt (pw_or (pt_not (pt_val (pe_callB call_isi (by rfl) E.f_isinstance (by decide +kernel) (pa_cons (pv 1) (pa_cons (pe_bltn (v := .ty "int") rfl E.f_int (by decide +kernel) rfl) pa_nil))) (by intro _; rfl))) (pw_or1 (pt_val (pe_callB call_isi (by rfl) E.f_isinstance (by decide +kernel) (pa_cons (pv 1) (pa_cons (pe_bltn (v := .ty "bool") rfl E.f_bool (by decide +kernel) rfl) pa_nil))) (by intro _; rfl))))) (pss_one (ps_ret pe_bl)) pss_nil)))
      (pss_one (ps_ret (pe_and (pe_cmpR op_ge (pe_ix ix_seq2 (pv 0) pe_int (fun _ _ => rfl)) pe_int (nomark _)) (pe_and (pe_cmpR op_ge (pe_ix ix_seq2 (pv 0) pe_int (fun _ _ => rfl)) pe_int (nomark _)) (pe_one (pe_cmpR op_eq (pe_f h_divisor hr rfl E.g_divisor (pa_cons (pe_ix ix_seq2 (pv 0) pe_int (fun _ _ => rfl)) (pa_cons (pe_ix ix_seq2 (pv 0) pe_int (fun _ _ => rfl)) pa_nil))) pe_int (nomark _)))))))))
def t_is_weight (K : PySem.W.Frag) (p_is_amount : Sp0) : TS := (tRet (tAndV (tF 1 p_is_amount (tCons (tVar 0) tNil)) (tAndV (tOp rLe (tOp (rIxS2 K) (tVar 0) (tC (.int 0))) (tC (.int 1000000000000))) (tOp rEq (tOp rModu (tC (.int 55440)) (tOp (rIxS2 K) (tVar 0) (tC (.int 1)))) (tC (.int 0))))))
theorem sc_is_weight : FnScope ["thing"] ["thing"] (defScope s_is_weight) := ⟨rfl, rfl, rfl, by decide +kernel, rfl, by decide +kernel, by decide +kernel⟩
theorem ok_is_weight {K : PySem.W.Frag} {mg : Str → Option Value} {k : Nat} {sp : Sp0} {p_is_amount : Sp0} (E : En K mg) (h_is_amount : Okf K mg d_is_amount ["thing"] k p_is_amount)
    (pure : ∀ vs H Q, sp vs H Q → t_is_weight K p_is_amount { nx := fun _ H' => Q .non H', rt := Q } (start ["thing"] vs) H) : Okf K mg d_is_weight ["thing"] (k + 1) sp := by
  refine okf_of (d := d_is_weight) (N := ["thing"]) (t_is_weight K p_is_amount) E.fd_is_weight sc_is_weight (fun _ _ _ _ _ _ us hl => match us, hl with | [_], _ => rfl) (fun P w base cdv A outer s H Ex hr => ?_) pure
  have nd := (sc_is_weight).nd
  exact (pss_one (ps_ret (pe_and (pe_f h_is_amount hr rfl E.g_is_amount (pa_cons (pv 0) pa_nil)) (pe_and (pe_cmpR op_le (pe_ix ix_seq2 (pv 0) pe_int (fun _ _ => rfl)) (pe_gi rfl E.i_MOST_ABOVE) (nomark _)) (pe_one (pe_cmpR op_eq (pe_op op_mod (pe_gi rfl E.i_BELOW) (pe_ix ix_seq2 (pv 0) pe_int (fun _ _ => rfl))) pe_int (nomark _)))))))
def t_in_least_terms (K : PySem.W.Frag) (p_divisor : Sp0) : TS := (tSeq (tAsg (tF 2 p_divisor (tCons (tVar 0) (tCons (tVar 1) tNil))) (gName 2))
  (tRet (tTup (tCons (tOp rFdiv (tVar 0) (tVar 2)) (tCons (tOp rFdiv (tVar 1) (tVar 2)) tNil)))))
theorem sc_in_least_terms : FnScope ["above", "below", "by"] ["above", "below"] (defScope s_in_least_terms) := ⟨rfl, rfl, rfl, by decide +kernel, rfl, by decide +kernel, by decide +kernel⟩
theorem ok_in_least_terms {K : PySem.W.Frag} {mg : Str → Option Value} {k : Nat} {sp : Sp0} {p_divisor : Sp0} (E : En K mg) (h_divisor : Okf K mg d_divisor ["one", "other"] k p_divisor)
    (pure : ∀ vs H Q, sp vs H Q → t_in_least_terms K p_divisor { nx := fun _ H' => Q .non H', rt := Q } (start ["above", "below", "by"] vs) H) : Okf K mg d_in_least_terms ["above", "below"] (k + 1) sp := by
  refine okf_of (d := d_in_least_terms) (N := ["above", "below", "by"]) (t_in_least_terms K p_divisor) E.fd_in_least_terms sc_in_least_terms (fun _ _ _ _ _ _ us hl => match us, hl with | [_, _], _ => rfl) (fun P w base cdv A outer s H Ex hr => ?_) pure
  have nd := (sc_in_least_terms).nd
  exact (pss_cons (ps_set (i := 2) nd rfl (Or.inl rfl) (pe_f h_divisor hr rfl E.g_divisor (pa_cons (pv 0) (pa_cons (pv 1) pa_nil))))
      (pss_one (ps_ret (pe_tup (pa_cons (pe_op op_fdivW (pv 0) (pv 2)) (pa_cons (pe_op op_fdivW (pv 1) (pv 2)) pa_nil))))))
def t_plus (K : PySem.W.Frag) (p_in_least_terms : Sp0) : TS := (tRet (tF 2 p_in_least_terms (tCons (tOp rPlus (tOp rTimes (tOp (rIxT K) (tVar 0) (tC (.int 0))) (tOp (rIxT K) (tVar 1) (tC (.int 1)))) (tOp rTimes (tOp (rIxT K) (tVar 1) (tC (.int 0))) (tOp (rIxT K) (tVar 0) (tC (.int 1))))) (tCons (tOp rTimes (tOp (rIxT K) (tVar 0) (tC (.int 1))) (tOp (rIxT K) (tVar 1) (tC (.int 1)))) tNil))))
theorem sc_plus : FnScope ["one", "other"] ["one", "other"] (defScope s_plus) := ⟨rfl, rfl, rfl, by decide +kernel, rfl, by decide +kernel, by decide +kernel⟩
theorem ok_plus {K : PySem.W.Frag} {mg : Str → Option Value} {k : Nat} {sp : Sp0} {p_in_least_terms : Sp0} (E : En K mg) (h_in_least_terms : Okf K mg d_in_least_terms ["above", "below"] k p_in_least_terms)
    (pure : ∀ vs H Q, sp vs H Q → t_plus K p_in_least_terms { nx := fun _ H' => Q .non H', rt := Q } (start ["one", "other"] vs) H) : Okf K mg d_plus ["one", "other"] (k + 1) sp := by
  refine okf_of (d := d_plus) (N := ["one", "other"]) (t_plus K p_in_least_terms) E.fd_plus sc_plus (fun _ _ _ _ _ _ us hl => match us, hl with | [_, _], _ => rfl) (fun P w base cdv A outer s H Ex hr => ?_) pure
  have nd := (sc_plus).nd
  exact (pss_one (ps_ret (pe_f h_in_least_terms hr rfl E.g_in_least_terms (pa_cons (pe_op op_add (pe_op op_mul (pe_ix ix_tup (pv 0) pe_int (fun _ _ => rfl)) (pe_ix ix_tup (pv 1) pe_int (fun _ _ => rfl))) (pe_op op_mul (pe_ix ix_tup (pv 1) pe_int (fun _ _ => rfl)) (pe_ix ix_tup (pv 0) pe_int (fun _ _ => rfl)))) (pa_cons (pe_op op_mul (pe_ix ix_tup (pv 0) pe_int (fun _ _ => rfl)) (pe_ix ix_tup (pv 1) pe_int (fun _ _ => rfl))) pa_nil)))))
def t_is_below (K : PySem.W.Frag) : TS := (tRet (tOp rLt (tOp rTimes (tOp (rIxT K) (tVar 0) (tC (.int 0))) (tOp (rIxT K) (tVar 1) (tC (.int 1)))) (tOp rTimes (tOp (rIxT K) (tVar 1) (tC (.int 0))) (tOp (rIxT K) (tVar 0) (tC (.int 1))))))
theorem sc_is_below : FnScope ["one", "other"] ["one", "other"] (defScope s_is_below) := ⟨rfl, rfl, rfl, by decide +kernel, rfl, by decide +kernel, by decide +kernel⟩
theorem ok_is_below {K : PySem.W.Frag} {mg : Str → Option Value} {k : Nat} {sp : Sp0} (E : En K mg)
    (pure : ∀ vs H Q, sp vs H Q → t_is_below K { nx := fun _ H' => Q .non H', rt := Q } (start ["one", "other"] vs) H) : Okf K mg d_is_below ["one", "other"] (k + 1) sp := by
  refine okf_of (d := d_is_below) (N := ["one", "other"]) (t_is_below K ) E.fd_is_below sc_is_below (fun _ _ _ _ _ _ us hl => match us, hl with | [_, _], _ => rfl) (fun P w base cdv A outer s H Ex hr => ?_) pure
  have nd := (sc_is_below).nd
  exact (pss_one (ps_ret (pe_cmpR op_lt (pe_op op_mul (pe_ix ix_tup (pv 0) pe_int (fun _ _ => rfl)) (pe_ix ix_tup (pv 1) pe_int (fun _ _ => rfl))) (pe_op op_mul (pe_ix ix_tup (pv 1) pe_int (fun _ _ => rfl)) (pe_ix ix_tup (pv 0) pe_int (fun _ _ => rfl))) (nomark _))))
def t_less (K : PySem.W.Frag) (p_is_below p_in_least_terms : Sp0) : TS := (tSeq (tIfS (tB (tF 2 p_is_below (tCons (tVar 0) (tCons (tVar 1) tNil)))) tNever tNext)
  (tRet (tF 2 p_in_least_terms (tCons (tOp rMinus (tOp rTimes (tOp (rIxT K) (tVar 0) (tC (.int 0))) (tOp (rIxT K) (tVar 1) (tC (.int 1)))) (tOp rTimes (tOp (rIxT K) (tVar 1) (tC (.int 0))) (tOp (rIxT K) (tVar 0) (tC (.int 1))))) (tCons (tOp rTimes (tOp (rIxT K) (tVar 0) (tC (.int 1))) (tOp (rIxT K) (tVar 1) (tC (.int 1)))) tNil)))))
theorem sc_less : FnScope ["one", "other"] ["one", "other"] (defScope s_less) := ⟨rfl, rfl, rfl, by decide +kernel, rfl, by decide +kernel, by decide +kernel⟩
theorem ok_less {K : PySem.W.Frag} {mg : Str → Option Value} {k : Nat} {sp : Sp0} {p_is_below p_in_least_terms : Sp0} (E : En K mg) (h_is_below : Okf K mg d_is_below ["one", "other"] k p_is_below) (h_in_least_terms : Okf K mg d_in_least_terms ["above", "below"] k p_in_least_terms)
    (pure : ∀ vs H Q, sp vs H Q → t_less K p_is_below p_in_least_terms { nx := fun _ H' => Q .non H', rt := Q } (start ["one", "other"] vs) H) : Okf K mg d_less ["one", "other"] (k + 1) sp := by
  refine okf_of (d := d_less) (N := ["one", "other"]) (t_less K p_is_below p_in_least_terms) E.fd_less sc_less (fun _ _ _ _ _ _ us hl => match us, hl with | [_, _], _ => rfl) (fun P w base cdv A outer s H Ex hr => ?_) pure
  have nd := (sc_less).nd
  exact (pss_cons (ps_if (pt_val (pe_f h_is_below hr rfl E.g_is_below (pa_cons (pv 0) (pa_cons (pv 1) pa_nil))) (by intro _; rfl)) (pss_one ps_never) pss_nil)
      (pss_one (ps_ret (pe_f h_in_least_terms hr rfl E.g_in_least_terms (pa_cons (pe_op op_sub (pe_op op_mul (pe_ix ix_tup (pv 0) pe_int (fun _ _ => rfl)) (pe_ix ix_tup (pv 1) pe_int (fun _ _ => rfl))) (pe_op op_mul (pe_ix ix_tup (pv 1) pe_int (fun _ _ => rfl)) (pe_ix ix_tup (pv 0) pe_int (fun _ _ => rfl)))) (pa_cons (pe_op op_mul (pe_ix ix_tup (pv 0) pe_int (fun _ _ => rfl)) (pe_ix ix_tup (pv 1) pe_int (fun _ _ => rfl))) pa_nil))))))
def t_total (K : PySem.W.Frag) (p_plus : Sp0) : TS := (tSeq (tAsg (tC (.ref (He.ga K "NOUGHT"))) (gName 1))
  (tSeq (tFor (iList K (tVar 0)) (gName 2) (tAsg (tF 2 p_plus (tCons (tVar 1) (tCons (tVar 2) tNil))) (gName 1)))
  (tRet (tVar 1))))
theorem sc_total : FnScope ["amounts", "found", "one"] ["amounts"] (defScope s_total) := ⟨rfl, rfl, rfl, by decide +kernel, rfl, by decide +kernel, by decide +kernel⟩
theorem ok_total {K : PySem.W.Frag} {mg : Str → Option Value} {k : Nat} {sp : Sp0} {p_plus : Sp0} (E : En K mg) (h_plus : Okf K mg d_plus ["one", "other"] k p_plus)
    (pure : ∀ vs H Q, sp vs H Q → t_total K p_plus { nx := fun _ H' => Q .non H', rt := Q } (start ["amounts", "found", "one"] vs) H) : Okf K mg d_total ["amounts"] (k + 1) sp := by
  refine okf_of (d := d_total) (N := ["amounts", "found", "one"]) (t_total K p_plus) E.fd_total sc_total (fun _ _ _ _ _ _ us hl => match us, hl with | [_], _ => rfl) (fun P w base cdv A outer s H Ex hr => ?_) pure
  have nd := (sc_total).nd
  exact (pss_cons (ps_set (i := 1) nd rfl (Or.inl rfl) (pe_glob rfl E.g_NOUGHT rfl))
      (pss_cons (ps_for PassesOwn.never rfl (pi_list (pv 0)) (pg_name (i := 2) nd rfl (Or.inl rfl)) (pss_one (ps_set (i := 1) nd rfl (Or.inl rfl) (pe_f h_plus hr rfl E.g_plus (pa_cons (pv 1) (pa_cons (pv 2) pa_nil))))))
      (pss_one (ps_ret (pv 1)))))
def t_are_rising (K : PySem.W.Frag) (p_is_row p_is_whole : Sp0) : TS := (tSeq (tIfS (tNot (tB (tF 1 p_is_row (tCons (tVar 1) tNil)))) (tRet (tC (.bl false))) tNext)
  (tSeq (tAsg (tC (.int 0)) (gName 2))
  (tSeq (tFor (iTup K (tVar 1)) (gName 3) (tSeq (tIfS (tNot (tB (tF 3 p_is_whole (tCons (tVar 3) (tCons (tVar 2) (tCons (tOp rMinus (tVar 0) (tC (.int 1))) tNil)))))) (tRet (tC (.bl false))) tNext)
  (tAsg (tOp rPlus (tVar 3) (tC (.int 1))) (gName 2))))
  (tRet (tC (.bl true))))))
theorem sc_are_rising : FnScope ["many", "thing", "least", "place"] ["many", "thing"] (defScope s_are_rising) := ⟨rfl, rfl, rfl, by decide +kernel, rfl, by decide +kernel, by decide +kernel⟩
theorem ok_are_rising {K : PySem.W.Frag} {mg : Str → Option Value} {k : Nat} {sp : Sp0} {p_is_row p_is_whole : Sp0} (E : En K mg) (h_is_row : Okf K mg d_is_row ["thing"] k p_is_row) (h_is_whole : Okf K mg d_is_whole ["thing", "least", "most"] k p_is_whole)
    (pure : ∀ vs H Q, sp vs H Q → t_are_rising K p_is_row p_is_whole { nx := fun _ H' => Q .non H', rt := Q } (start ["many", "thing", "least", "place"] vs) H) : Okf K mg d_are_rising ["many", "thing"] (k + 1) sp := by
  refine okf_of (d := d_are_rising) (N := ["many", "thing", "least", "place"]) (t_are_rising K p_is_row p_is_whole) E.fd_are_rising sc_are_rising (fun _ _ _ _ _ _ us hl => match us, hl with | [_, _], _ => rfl) (fun P w base cdv A outer s H Ex hr => ?_) pure
  have nd := (sc_are_rising).nd
  exact (pss_cons (ps_if (pt_not (pt_val (pe_f h_is_row hr rfl E.g_is_row (pa_cons (pv 1) pa_nil)) (by intro _; rfl))) (pss_one (ps_ret pe_bl)) pss_nil)
      (pss_cons (ps_set (i := 2) nd rfl (Or.inl rfl) pe_int)
      (pss_cons (ps_for PassesOwn.never rfl (pi_tup (pv 1)) (pg_name (i := 3) nd rfl (Or.inl rfl)) (pss_cons (ps_if (pt_not (pt_val (pe_f h_is_whole hr rfl E.g_is_whole (pa_cons (pv 3) (pa_cons (pv 2) (pa_cons (pe_op op_sub (pv 0) pe_int) pa_nil)))) (by intro _; rfl))) (pss_one (ps_ret pe_bl)) pss_nil)
      (pss_one (ps_set (i := 2) nd rfl (Or.inl rfl) (pe_op op_add (pv 3) pe_int)))))
      (pss_one (ps_ret pe_bl)))))
def t_is_side (K : PySem.W.Frag) (p_are_rising : Sp0) : TS := (tRet (tAndV (tF 2 p_are_rising (tCons (tFld K (tVar 0) "many") (tCons (tVar 1) tNil))) (tChain rLe rLt (tC (.int 1)) (tCB (rLenQ K) (tCons (tVar 1) tNil)) (tFld K (tVar 0) "many"))))
theorem sc_is_side : FnScope ["web", "side"] ["web", "side"] (defScope s_is_side) := ⟨rfl, rfl, rfl, by decide +kernel, rfl, by decide +kernel, by decide +kernel⟩
theorem ok_is_side {K : PySem.W.Frag} {mg : Str → Option Value} {k : Nat} {sp : Sp0} {p_are_rising : Sp0} (E : En K mg) (h_are_rising : Okf K mg d_are_rising ["many", "thing"] k p_are_rising)
    (pure : ∀ vs H Q, sp vs H Q → t_is_side K p_are_rising { nx := fun _ H' => Q .non H', rt := Q } (start ["web", "side"] vs) H) : Okf K mg d_is_side ["web", "side"] (k + 1) sp := by
  refine okf_of (d := d_is_side) (N := ["web", "side"]) (t_is_side K p_are_rising) E.fd_is_side sc_is_side (fun _ _ _ _ _ _ us hl => match us, hl with | [_, _], _ => rfl) (fun P w base cdv A outer s H Ex hr => ?_) pure
  have nd := (sc_is_side).nd
  exact (pss_one (ps_ret (pe_and (pe_f h_are_rising hr rfl E.g_are_rising (pa_cons (pe_fld (pv 0) rfl) (pa_cons (pv 1) pa_nil))) (pe_one (pe_chain op_le op_lt pe_int (pe_callB call_len_seq (by rfl) E.f_len PySem.boot_len (pa_cons (pv 1) pa_nil)) (pe_fld (pv 0) rfl))))))
def t_weight_out (K : PySem.W.Frag) (p_total : Sp0) : TS := (tRet (tF 1 p_total (tCons (tLc (iTup K (tFld K (tVar 0) "ties")) (gTup K 3 (gCons (gName 2) (gCons (gName 3) (gCons (gName 4) gNil)))) (tTest (tOp rNe (tOp (rIn K false) (tVar 2) (tVar 1)) (tOp (rIn K false) (tVar 3) (tVar 1)))) (tVar 4) [2, 3, 4]) tNil)))
theorem sc_weight_out : FnScope ["web", "side", "i", "j", "weight"] ["web", "side"] (defScope s_weight_out) := ⟨rfl, rfl, rfl, by decide +kernel, rfl, by decide +kernel, by decide +kernel⟩
theorem ok_weight_out {K : PySem.W.Frag} {mg : Str → Option Value} {k : Nat} {sp : Sp0} {p_total : Sp0} (E : En K mg) (h_total : Okf K mg d_total ["amounts"] k p_total)
    (pure : ∀ vs H Q, sp vs H Q → t_weight_out K p_total { nx := fun _ H' => Q .non H', rt := Q } (start ["web", "side", "i", "j", "weight"] vs) H) : Okf K mg d_weight_out ["web", "side"] (k + 1) sp := by
  refine okf_of (d := d_weight_out) (N := ["web", "side", "i", "j", "weight"]) (t_weight_out K p_total) E.fd_weight_out sc_weight_out (fun _ _ _ _ _ _ us hl => match us, hl with | [_, _], _ => rfl) (fun P w base cdv A outer s H Ex hr => ?_) pure
  have nd := (sc_weight_out).nd
  exact (pss_one (ps_ret (pe_f h_total hr rfl E.g_total (pa_cons (pe_lc (own := [("i", 2), ("j", 3), ("weight", 4)]) rfl nd (pi_tup (pe_fld (pv 0) rfl)) (blkOk_by (N := ["web", "side", "i", "j", "weight"]) (sc := defScope s_weight_out) (by decide +kernel)) (fun _ _ _ _ _ => (pg_tup rfl (pgs_cons (pg_name (i := 2) nd rfl (Or.inl rfl)) (pgs_cons (pg_name (i := 3) nd rfl (Or.inl rfl)) (pgs_cons (pg_name (i := 4) nd rfl (Or.inl rfl)) pgs_nil))))) (fun _ _ _ _ _ => (pts_one (pt_cmpR op_ne (pe_cmpR op_in_seq (pv 2) (pv 1) (by rfl)) (pe_cmpR op_in_seq (pv 3) (pv 1) (by rfl)) (nomark _)))) (fun _ _ _ _ _ => (pv 4))) pa_nil))))
def t_are_ends (K : PySem.W.Frag) (p_are_rising : Sp0) : TS := (tSeq (tIfS (tOr (tNot (tB (tF 2 p_are_rising (tCons (tFld K (tVar 0) "many") (tCons (tVar 1) tNil))))) (tNot (tB (tF 2 p_are_rising (tCons (tFld K (tVar 0) "many") (tCons (tVar 2) tNil)))))) (tRet (tC (.bl false))) tNext)
  (tRet (tAndV (tOp rGt2 (tCB (rLenQ K) (tCons (tVar 1) tNil)) (tC (.int 0))) (tAndV (tOp rGt2 (tCB (rLenQ K) (tCons (tVar 2) tNil)) (tC (.int 0))) (tOp (rEqD K) (tLc (iTup K (tVar 1)) (gName 3) (tTest (tOp (rIn K false) (tVar 3) (tVar 2))) (tVar 3) [3]) (tLst tNil))))))
theorem sc_are_ends : FnScope ["web", "froms", "tos", "place"] ["web", "froms", "tos"] (defScope s_are_ends) := ⟨rfl, rfl, rfl, by decide +kernel, rfl, by decide +kernel, by decide +kernel⟩
theorem ok_are_ends {K : PySem.W.Frag} {mg : Str → Option Value} {k : Nat} {sp : Sp0} {p_are_rising : Sp0} (E : En K mg) (h_are_rising : Okf K mg d_are_rising ["many", "thing"] k p_are_rising)
    (pure : ∀ vs H Q, sp vs H Q → t_are_ends K p_are_rising { nx := fun _ H' => Q .non H', rt := Q } (start ["web", "froms", "tos", "place"] vs) H) : Okf K mg d_are_ends ["web", "froms", "tos"] (k + 1) sp := by
  refine okf_of (d := d_are_ends) (N := ["web", "froms", "tos", "place"]) (t_are_ends K p_are_rising) E.fd_are_ends sc_are_ends (fun _ _ _ _ _ _ us hl => match us, hl with | [_, _, _], _ => rfl) (fun P w base cdv A outer s H Ex hr => ?_) pure
  have nd := (sc_are_ends).nd
  exact (pss_cons (ps_if (PW.pt (pw_or (pt_not (pt_val (pe_f h_are_rising hr rfl E.g_are_rising (pa_cons (pe_fld (pv 0) rfl) (pa_cons (pv 1) pa_nil))) (by intro _; rfl))) (pw_or1 (pt_not (pt_val (pe_f h_are_rising hr rfl E.g_are_rising (pa_cons (pe_fld (pv 0) rfl) (pa_cons (pv 2) pa_nil))) (by intro _; rfl)))))) (pss_one (ps_ret pe_bl)) pss_nil)
      (pss_one (ps_ret (pe_and (pe_cmpR op_gt (pe_callB call_len_seq (by rfl) E.f_len PySem.boot_len (pa_cons (pv 1) pa_nil)) pe_int (nomark _)) (pe_and (pe_cmpR op_gt (pe_callB call_len_seq (by rfl) E.f_len PySem.boot_len (pa_cons (pv 2) pa_nil)) pe_int (nomark _)) (pe_one (pe_cmpR (op_eqD hr.units) (pe_lc (own := [("place", 3)]) rfl nd (pi_tup (pv 1)) (blkOk_by (N := ["web", "froms", "tos", "place"]) (sc := defScope s_are_ends) (by decide +kernel)) (fun _ _ _ _ _ => (pg_name (i := 3) nd rfl (Or.inl rfl))) (fun _ _ _ _ _ => (pts_one (pt_cmpR op_in_seq (pv 3) (pv 2) (by rfl)))) (fun _ _ _ _ _ => (pv 3))) (pe_lst pa_nil) (nomark _))))))))
def t_ask_ends (K : PySem.W.Frag) (p_are_ends : Sp0) : TS := (tIfS (tNot (tB (tF 3 p_are_ends (tCons (tVar 0) (tCons (tVar 1) (tCons (tVar 2) tNil)))))) tNever tNext)
theorem sc_ask_ends : FnScope ["web", "froms", "tos"] ["web", "froms", "tos"] (defScope s_ask_ends) := ⟨rfl, rfl, rfl, by decide +kernel, rfl, by decide +kernel, by decide +kernel⟩
theorem ok_ask_ends {K : PySem.W.Frag} {mg : Str → Option Value} {k : Nat} {sp : Sp0} {p_are_ends : Sp0} (E : En K mg) (h_are_ends : Okf K mg d_are_ends ["web", "froms", "tos"] k p_are_ends)
    (pure : ∀ vs H Q, sp vs H Q → t_ask_ends K p_are_ends { nx := fun _ H' => Q .non H', rt := Q } (start ["web", "froms", "tos"] vs) H) : Okf K mg d_ask_ends ["web", "froms", "tos"] (k + 1) sp := by
  refine okf_of (d := d_ask_ends) (N := ["web", "froms", "tos"]) (t_ask_ends K p_are_ends) E.fd_ask_ends sc_ask_ends (fun _ _ _ _ _ _ us hl => match us, hl with | [_, _, _], _ => rfl) (fun P w base cdv A outer s H Ex hr => ?_) pure
  have nd := (sc_ask_ends).nd
  exact (pss_one (ps_if (pt_not (pt_val (pe_f h_are_ends hr rfl E.g_are_ends (pa_cons (pv 0) (pa_cons (pv 1) (pa_cons (pv 2) pa_nil)))) (by intro _; rfl))) (pss_one ps_never) pss_nil))
def t_is_flow_row (K : PySem.W.Frag) (p_is_row p_is_whole p_is_amount : Sp0) : TS := (tSeq (tIfS (tOr (tNot (tB (tF 1 p_is_row (tCons (tVar 1) tNil)))) (tTest (tOp rNe (tCB (rLenQ K) (tCons (tVar 1) tNil)) (tC (.int 3))))) (tRet (tC (.bl false))) tNext)
  (tSeq (tIfS (tOr (tNot (tB (tF 3 p_is_whole (tCons (tOp (rIxT K) (tVar 1) (tC (.int 0))) (tCons (tC (.int 0)) (tCons (tOp rMinus (tVar 0) (tC (.int 1))) tNil)))))) (tOr (tNot (tB (tF 3 p_is_whole (tCons (tOp (rIxT K) (tVar 1) (tC (.int 1))) (tCons (tC (.int 0)) (tCons (tOp rMinus (tVar 0) (tC (.int 1))) tNil)))))) (tTest (tOp rEq (tOp (rIxT K) (tVar 1) (tC (.int 0))) (tOp (rIxT K) (tVar 1) (tC (.int 1))))))) (tRet (tC (.bl false))) tNext)
  (tRet (tAndV (tF 1 p_is_amount (tCons (tOp (rIxT K) (tVar 1) (tC (.int 2))) tNil)) (tAndV (tOp rGt2 (tOp (rIxT K) (tOp (rIxT K) (tVar 1) (tC (.int 2))) (tC (.int 0))) (tC (.int 0))) (tOp rEq (tOp rModu (tC (.int 55440)) (tOp (rIxT K) (tOp (rIxT K) (tVar 1) (tC (.int 2))) (tC (.int 1)))) (tC (.int 0))))))))
theorem sc_is_flow_row : FnScope ["many", "row"] ["many", "row"] (defScope s_is_flow_row) := ⟨rfl, rfl, rfl, by decide +kernel, rfl, by decide +kernel, by decide +kernel⟩
theorem ok_is_flow_row {K : PySem.W.Frag} {mg : Str → Option Value} {k : Nat} {sp : Sp0} {p_is_row p_is_whole p_is_amount : Sp0} (E : En K mg) (h_is_row : Okf K mg d_is_row ["thing"] k p_is_row) (h_is_whole : Okf K mg d_is_whole ["thing", "least", "most"] k p_is_whole) (h_is_amount : Okf K mg d_is_amount ["thing"] k p_is_amount)
    (pure : ∀ vs H Q, sp vs H Q → t_is_flow_row K p_is_row p_is_whole p_is_amount { nx := fun _ H' => Q .non H', rt := Q } (start ["many", "row"] vs) H) : Okf K mg d_is_flow_row ["many", "row"] (k + 1) sp := by
  refine okf_of (d := d_is_flow_row) (N := ["many", "row"]) (t_is_flow_row K p_is_row p_is_whole p_is_amount) E.fd_is_flow_row sc_is_flow_row (fun _ _ _ _ _ _ us hl => match us, hl with | [_, _], _ => rfl) (fun P w base cdv A outer s H Ex hr => ?_) pure
  have nd := (sc_is_flow_row).nd
  exact (pss_cons (ps_if (PW.pt (pw_or (pt_not (pt_val (pe_f h_is_row hr rfl E.g_is_row (pa_cons (pv 1) pa_nil)) (by intro _; rfl))) (pw_or1 (pt_cmpR op_ne (pe_callB call_len_seq (by rfl) E.f_len PySem.boot_len (pa_cons (pv 1) pa_nil)) pe_int (nomark _))))) (pss_one (ps_ret pe_bl)) pss_nil)
      (pss_cons (ps_if (PW.pt (pw_or (pt_not (pt_val (pe_f h_is_whole hr rfl E.g_is_whole (pa_cons (pe_ix ix_tup (pv 1) pe_int (fun _ _ => rfl)) (pa_cons pe_int (pa_cons (pe_op op_sub (pv 0) pe_int) pa_nil)))) (by intro _; rfl))) (pw_or (pt_not (pt_val (pe_f h_is_whole hr rfl E.g_is_whole (pa_cons (pe_ix ix_tup (pv 1) pe_int (fun _ _ => rfl)) (pa_cons pe_int (pa_cons (pe_op op_sub (pv 0) pe_int) pa_nil)))) (by intro _; rfl))) (pw_or1 (pt_cmpR op_eq (pe_ix ix_tup (pv 1) pe_int (fun _ _ => rfl)) (pe_ix ix_tup (pv 1) pe_int (fun _ _ => rfl)) (nomark _)))))) (pss_one (ps_ret pe_bl)) pss_nil)
      (pss_one (ps_ret (pe_and (pe_f h_is_amount hr rfl E.g_is_amount (pa_cons (pe_ix ix_tup (pv 1) pe_int (fun _ _ => rfl)) pa_nil)) (pe_and (pe_cmpR op_gt (pe_ix ix_tup (pe_ix ix_tup (pv 1) pe_int (fun _ _ => rfl)) pe_int (fun _ _ => rfl)) pe_int (nomark _)) (pe_one (pe_cmpR op_eq (pe_op op_mod (pe_gi rfl E.i_BELOW) (pe_ix ix_tup (pe_ix ix_tup (pv 1) pe_int (fun _ _ => rfl)) pe_int (fun _ _ => rfl))) pe_int (nomark _)))))))))
def t_are_flow_rows (K : PySem.W.Frag) (p_is_row p_is_flow_row : Sp0) : TS := (tSeq (tIfS (tNot (tB (tF 1 p_is_row (tCons (tVar 1) tNil)))) (tRet (tC (.bl false))) tNext)
  (tSeq (tAsg tDNewT (gName 2))
  (tSeq (tAsg (tTup (tCons (tUn (rU fun i => .int (-i)) (tC (.int 1))) (tCons (tUn (rU fun i => .int (-i)) (tC (.int 1))) tNil))) (gName 3))
  (tSeq (tFor (iTup K (tVar 1)) (gName 4) (tSeq (tIfS (tOr (tNot (tB (tF 2 p_is_flow_row (tCons (tVar 0) (tCons (tVar 4) tNil))))) (tOr (tTest (tOp (rLeT K) (tTup (tCons (tOp (rIxT K) (tVar 4) (tC (.int 0))) (tCons (tOp (rIxT K) (tVar 4) (tC (.int 1))) tNil))) (tVar 3))) (tB (tDIn (tTup (tCons (tOp (rIxT K) (tVar 4) (tC (.int 1))) (tCons (tOp (rIxT K) (tVar 4) (tC (.int 0))) tNil))) (tVar 2))))) (tRet (tC (.bl false))) tNext)
  (tSeq (tAsg (tTup (tCons (tOp (rIxT K) (tVar 4) (tC (.int 0))) (tCons (tOp (rIxT K) (tVar 4) (tC (.int 1))) tNil))) (gName 3))
  (sDPut (tVar 2) (tVar 3) (tC (.bl true))))))
  (tRet (tC (.bl true)))))))
theorem sc_are_flow_rows : FnScope ["many", "flow", "known", "last", "row"] ["many", "flow"] (defScope s_are_flow_rows) := ⟨rfl, rfl, rfl, by decide +kernel, rfl, by decide +kernel, by decide +kernel⟩
theorem ok_are_flow_rows {K : PySem.W.Frag} {mg : Str → Option Value} {k : Nat} {sp : Sp0} {p_is_row p_is_flow_row : Sp0} (E : En K mg) (h_is_row : Okf K mg d_is_row ["thing"] k p_is_row) (h_is_flow_row : Okf K mg d_is_flow_row ["many", "row"] k p_is_flow_row)
    (pure : ∀ vs H Q, sp vs H Q → t_are_flow_rows K p_is_row p_is_flow_row { nx := fun _ H' => Q .non H', rt := Q } (start ["many", "flow", "known", "last", "row"] vs) H) : Okf K mg d_are_flow_rows ["many", "flow"] (k + 1) sp := by
  refine okf_of (d := d_are_flow_rows) (N := ["many", "flow", "known", "last", "row"]) (t_are_flow_rows K p_is_row p_is_flow_row) E.fd_are_flow_rows sc_are_flow_rows (fun _ _ _ _ _ _ us hl => match us, hl with | [_, _], _ => rfl) (fun P w base cdv A outer s H Ex hr => ?_) pure
  have nd := (sc_are_flow_rows).nd
  exact (pss_cons (ps_if (pt_not (pt_val (pe_f h_is_row hr rfl E.g_is_row (pa_cons (pv 1) pa_nil)) (by intro _; rfl))) (pss_one (ps_ret pe_bl)) pss_nil)
      (pss_cons (ps_set (i := 2) nd rfl (Or.inl rfl) pe_dnewT)
      (pss_cons (ps_set (i := 3) nd rfl (Or.inl rfl) (pe_tup (pa_cons (pe_un un_neg pe_int) (pa_cons (pe_un un_neg pe_int) pa_nil))))
      (pss_cons (ps_for PassesOwn.never rfl (pi_tup (pv 1)) (pg_name (i := 4) nd rfl (Or.inl rfl)) (pss_cons (ps_if (PW.pt (pw_or (pt_not (pt_val (pe_f h_is_flow_row hr rfl E.g_is_flow_row (pa_cons (pv 0) (pa_cons (pv 4) pa_nil))) (by intro _; rfl))) (pw_or (pt_cmpR (op_leT hr.units0) (pe_tup (pa_cons (pe_ix ix_tup (pv 4) pe_int (fun _ _ => rfl)) (pa_cons (pe_ix ix_tup (pv 4) pe_int (fun _ _ => rfl)) pa_nil))) (pv 3) (nomark _)) (pw_or1 (pt_cmp (pc_din (hu_of hr) (pe_tup (pa_cons (pe_ix ix_tup (pv 4) pe_int (fun _ _ => rfl)) (pa_cons (pe_ix ix_tup (pv 4) pe_int (fun _ _ => rfl)) pa_nil))) (pv 2)) rfl))))) (pss_one (ps_ret pe_bl)) pss_nil)
      (pss_cons (ps_set (i := 3) nd rfl (Or.inl rfl) (pe_tup (pa_cons (pe_ix ix_tup (pv 4) pe_int (fun _ _ => rfl)) (pa_cons (pe_ix ix_tup (pv 4) pe_int (fun _ _ => rfl)) pa_nil))))
      (pss_one (ps_dput (hu_of hr) (pv 2) (pv 3) pe_bl rfl)))))
      (pss_one (ps_ret pe_bl))))))
def t_going_out (K : PySem.W.Frag) (p_total : Sp0) : TS := (tRet (tF 1 p_total (tCons (tLc (iTup K (tVar 0)) (gTup K 3 (gCons (gName 2) (gCons (gName 3) (gCons (gName 4) gNil)))) (tAnd (tTest (tOp (rIn K false) (tVar 2) (tVar 1))) (tTest (tOp (rIn K true) (tVar 3) (tVar 1)))) (tVar 4) [2, 3, 4]) tNil)))
theorem sc_going_out : FnScope ["flow", "places", "i", "j", "amount"] ["flow", "places"] (defScope s_going_out) := ⟨rfl, rfl, rfl, by decide +kernel, rfl, by decide +kernel, by decide +kernel⟩
theorem ok_going_out {K : PySem.W.Frag} {mg : Str → Option Value} {k : Nat} {sp : Sp0} {p_total : Sp0} (E : En K mg) (h_total : Okf K mg d_total ["amounts"] k p_total)
    (pure : ∀ vs H Q, sp vs H Q → t_going_out K p_total { nx := fun _ H' => Q .non H', rt := Q } (start ["flow", "places", "i", "j", "amount"] vs) H) : Okf K mg d_going_out ["flow", "places"] (k + 1) sp := by
  refine okf_of (d := d_going_out) (N := ["flow", "places", "i", "j", "amount"]) (t_going_out K p_total) E.fd_going_out sc_going_out (fun _ _ _ _ _ _ us hl => match us, hl with | [_, _], _ => rfl) (fun P w base cdv A outer s H Ex hr => ?_) pure
  have nd := (sc_going_out).nd
  exact (pss_one (ps_ret (pe_f h_total hr rfl E.g_total (pa_cons (pe_lc (own := [("i", 2), ("j", 3), ("amount", 4)]) rfl nd (pi_tup (pv 0)) (blkOk_by (N := ["flow", "places", "i", "j", "amount"]) (sc := defScope s_going_out) (by decide +kernel)) (fun _ _ _ _ _ => (pg_tup rfl (pgs_cons (pg_name (i := 2) nd rfl (Or.inl rfl)) (pgs_cons (pg_name (i := 3) nd rfl (Or.inl rfl)) (pgs_cons (pg_name (i := 4) nd rfl (Or.inl rfl)) pgs_nil))))) (fun _ _ _ _ _ => (pts_one (PW.pt (pw_and (pt_cmpR op_in_seq (pv 2) (pv 1) (by rfl)) (pw_and1 (pt_cmpR op_notIn_seq (pv 3) (pv 1) (by rfl))))))) (fun _ _ _ _ _ => (pv 4))) pa_nil))))
def t_coming_in (K : PySem.W.Frag) (p_total : Sp0) : TS := (tRet (tF 1 p_total (tCons (tLc (iTup K (tVar 0)) (gTup K 3 (gCons (gName 2) (gCons (gName 3) (gCons (gName 4) gNil)))) (tAnd (tTest (tOp (rIn K false) (tVar 3) (tVar 1))) (tTest (tOp (rIn K true) (tVar 2) (tVar 1)))) (tVar 4) [2, 3, 4]) tNil)))
theorem sc_coming_in : FnScope ["flow", "places", "i", "j", "amount"] ["flow", "places"] (defScope s_coming_in) := ⟨rfl, rfl, rfl, by decide +kernel, rfl, by decide +kernel, by decide +kernel⟩
theorem ok_coming_in {K : PySem.W.Frag} {mg : Str → Option Value} {k : Nat} {sp : Sp0} {p_total : Sp0} (E : En K mg) (h_total : Okf K mg d_total ["amounts"] k p_total)
    (pure : ∀ vs H Q, sp vs H Q → t_coming_in K p_total { nx := fun _ H' => Q .non H', rt := Q } (start ["flow", "places", "i", "j", "amount"] vs) H) : Okf K mg d_coming_in ["flow", "places"] (k + 1) sp := by
  refine okf_of (d := d_coming_in) (N := ["flow", "places", "i", "j", "amount"]) (t_coming_in K p_total) E.fd_coming_in sc_coming_in (fun _ _ _ _ _ _ us hl => match us, hl with | [_, _], _ => rfl) (fun P w base cdv A outer s H Ex hr => ?_) pure
  have nd := (sc_coming_in).nd
  exact (pss_one (ps_ret (pe_f h_total hr rfl E.g_total (pa_cons (pe_lc (own := [("i", 2), ("j", 3), ("amount", 4)]) rfl nd (pi_tup (pv 0)) (blkOk_by (N := ["flow", "places", "i", "j", "amount"]) (sc := defScope s_coming_in) (by decide +kernel)) (fun _ _ _ _ _ => (pg_tup rfl (pgs_cons (pg_name (i := 2) nd rfl (Or.inl rfl)) (pgs_cons (pg_name (i := 3) nd rfl (Or.inl rfl)) (pgs_cons (pg_name (i := 4) nd rfl (Or.inl rfl)) pgs_nil))))) (fun _ _ _ _ _ => (pts_one (PW.pt (pw_and (pt_cmpR op_in_seq (pv 3) (pv 1) (by rfl)) (pw_and1 (pt_cmpR op_notIn_seq (pv 2) (pv 1) (by rfl))))))) (fun _ _ _ _ _ => (pv 4))) pa_nil))))
def t_is_balanced (K : PySem.W.Frag) (p_going_out p_coming_in p_is_below : Sp0) : TS := (tSeq (tFor (iRng1 (tCons (tVar 0) tNil)) (gName 4) (tIfS (tAnd (tTest (tOp (rIn K true) (tVar 4) (tVar 1))) (tTest (tOp (rIn K true) (tVar 4) (tVar 2)))) (tIfS (tTest (tOp (rNeD K) (tF 2 p_going_out (tCons (tVar 3) (tCons (tLst (tCons (tVar 4) tNil)) tNil))) (tF 2 p_coming_in (tCons (tVar 3) (tCons (tLst (tCons (tVar 4) tNil)) tNil))))) (tRet (tC (.bl false))) tNext) tNext))
  (tRet (tNotV (tF 2 p_is_below (tCons (tF 2 p_going_out (tCons (tVar 3) (tCons (tVar 1) tNil))) (tCons (tF 2 p_coming_in (tCons (tVar 3) (tCons (tVar 1) tNil))) tNil))))))
theorem sc_is_balanced : FnScope ["many", "froms", "tos", "flow", "place"] ["many", "froms", "tos", "flow"] (defScope s_is_balanced) := ⟨rfl, rfl, rfl, by decide +kernel, rfl, by decide +kernel, by decide +kernel⟩
theorem ok_is_balanced {K : PySem.W.Frag} {mg : Str → Option Value} {k : Nat} {sp : Sp0} {p_going_out p_coming_in p_is_below : Sp0} (E : En K mg) (h_going_out : Okf K mg d_going_out ["flow", "places"] k p_going_out) (h_coming_in : Okf K mg d_coming_in ["flow", "places"] k p_coming_in) (h_is_below : Okf K mg d_is_below ["one", "other"] k p_is_below)
    (pure : ∀ vs H Q, sp vs H Q → t_is_balanced K p_going_out p_coming_in p_is_below { nx := fun _ H' => Q .non H', rt := Q } (start ["many", "froms", "tos", "flow", "place"] vs) H) : Okf K mg d_is_balanced ["many", "froms", "tos", "flow"] (k + 1) sp := by
  refine okf_of (d := d_is_balanced) (N := ["many", "froms", "tos", "flow", "place"]) (t_is_balanced K p_going_out p_coming_in p_is_below) E.fd_is_balanced sc_is_balanced (fun _ _ _ _ _ _ us hl => match us, hl with | [_, _, _, _], _ => rfl) (fun P w base cdv A outer s H Ex hr => ?_) pure
  have nd := (sc_is_balanced).nd
  exact (pss_cons (ps_for PassesOwn.never rfl (pi_range1 (by rfl) E.f_range (pa_cons (pv 0) pa_nil)) (pg_name (i := 4) nd rfl (Or.inl rfl)) (pss_one (ps_if (PW.pt (pw_and (pt_cmpR op_notIn_seq (pv 4) (pv 1) (by rfl)) (pw_and1 (pt_cmpR op_notIn_seq (pv 4) (pv 2) (by rfl))))) (pss_one (ps_if (pt_cmpR (op_neD hr.units) (pe_f h_going_out hr rfl E.g_going_out (pa_cons (pv 3) (pa_cons (pe_lst (pa_cons (pv 4) pa_nil)) pa_nil))) (pe_f h_coming_in hr rfl E.g_coming_in (pa_cons (pv 3) (pa_cons (pe_lst (pa_cons (pv 4) pa_nil)) pa_nil))) (nomark _)) (pss_one (ps_ret pe_bl)) pss_nil)) pss_nil)))
      (pss_one (ps_ret (pe_not (pe_f h_is_below hr rfl E.g_is_below (pa_cons (pe_f h_going_out hr rfl E.g_going_out (pa_cons (pv 3) (pa_cons (pv 1) pa_nil))) (pa_cons (pe_f h_coming_in hr rfl E.g_coming_in (pa_cons (pv 3) (pa_cons (pv 1) pa_nil))) pa_nil)))))))
def t_fits (K : PySem.W.Frag) (p_Web_tie p_is_below : Sp0) : TS := (tRet (tOp (rEqD K) (tLc (iTup K (tVar 1)) (gName 2) (tB (tF 2 p_is_below (tCons (tM (He.ga K "Web") "tie" 3 p_Web_tie (tVar 0) (tCons (tOp (rIxT K) (tVar 2) (tC (.int 0))) (tCons (tOp (rIxT K) (tVar 2) (tC (.int 1))) tNil))) (tCons (tOp (rIxT K) (tVar 2) (tC (.int 2))) tNil)))) (tVar 2) [2]) (tLst tNil)))
theorem sc_fits : FnScope ["web", "flow", "row"] ["web", "flow"] (defScope s_fits) := ⟨rfl, rfl, rfl, by decide +kernel, rfl, by decide +kernel, by decide +kernel⟩
theorem ok_fits {K : PySem.W.Frag} {mg : Str → Option Value} {k : Nat} {sp : Sp0} {p_Web_tie p_is_below : Sp0} (E : En K mg) (h_Web_tie : Okf K mg d_Web_tie ["self", "i", "j"] k p_Web_tie) (h_is_below : Okf K mg d_is_below ["one", "other"] k p_is_below)
    (pure : ∀ vs H Q, sp vs H Q → t_fits K p_Web_tie p_is_below { nx := fun _ H' => Q .non H', rt := Q } (start ["web", "flow", "row"] vs) H) : Okf K mg d_fits ["web", "flow"] (k + 1) sp := by
  refine okf_of (d := d_fits) (N := ["web", "flow", "row"]) (t_fits K p_Web_tie p_is_below) E.fd_fits sc_fits (fun _ _ _ _ _ _ us hl => match us, hl with | [_, _], _ => rfl) (fun P w base cdv A outer s H Ex hr => ?_) pure
  have nd := (sc_fits).nd
  exact (pss_one (ps_ret (pe_cmpR (op_eqD hr.units) (pe_lc (own := [("row", 2)]) rfl nd (pi_tup (pv 1)) (blkOk_by (N := ["web", "flow", "row"]) (sc := defScope s_fits) (by decide +kernel)) (fun _ _ _ _ _ => (pg_name (i := 2) nd rfl (Or.inl rfl))) (fun _ _ _ _ _ => (pts_one (pt_val (pe_f h_is_below hr rfl E.g_is_below (pa_cons (pe_m (pv 0) E.cls_Web E.m_Web_tie h_Web_tie rfl hr (pa_cons (pe_ix ix_tup (pv 2) pe_int (fun _ _ => rfl)) (pa_cons (pe_ix ix_tup (pv 2) pe_int (fun _ _ => rfl)) pa_nil))) (pa_cons (pe_ix ix_tup (pv 2) pe_int (fun _ _ => rfl)) pa_nil))) (by intro _; rfl)))) (fun _ _ _ _ _ => (pv 2))) (pe_lst pa_nil) (nomark _))))
def t_is_flow (K : PySem.W.Frag) (p_ask_ends p_are_flow_rows p_fits p_is_balanced : Sp0) : TS := (tSeq (tDrop (tF 3 p_ask_ends (tCons (tVar 0) (tCons (tVar 1) (tCons (tVar 2) tNil)))))
  (tRet (tAndV (tF 2 p_are_flow_rows (tCons (tFld K (tVar 0) "many") (tCons (tVar 3) tNil))) (tAndV (tF 2 p_fits (tCons (tVar 0) (tCons (tVar 3) tNil))) (tF 4 p_is_balanced (tCons (tFld K (tVar 0) "many") (tCons (tVar 1) (tCons (tVar 2) (tCons (tVar 3) tNil)))))))))
theorem sc_is_flow : FnScope ["web", "froms", "tos", "flow"] ["web", "froms", "tos", "flow"] (defScope s_is_flow) := ⟨rfl, rfl, rfl, by decide +kernel, rfl, by decide +kernel, by decide +kernel⟩
theorem ok_is_flow {K : PySem.W.Frag} {mg : Str → Option Value} {k : Nat} {sp : Sp0} {p_ask_ends p_are_flow_rows p_fits p_is_balanced : Sp0} (E : En K mg) (h_ask_ends : Okf K mg d_ask_ends ["web", "froms", "tos"] k p_ask_ends) (h_are_flow_rows : Okf K mg d_are_flow_rows ["many", "flow"] k p_are_flow_rows) (h_fits : Okf K mg d_fits ["web", "flow"] k p_fits) (h_is_balanced : Okf K mg d_is_balanced ["many", "froms", "tos", "flow"] k p_is_balanced)
    (pure : ∀ vs H Q, sp vs H Q → t_is_flow K p_ask_ends p_are_flow_rows p_fits p_is_balanced { nx := fun _ H' => Q .non H', rt := Q } (start ["web", "froms", "tos", "flow"] vs) H) : Okf K mg d_is_flow ["web", "froms", "tos", "flow"] (k + 1) sp := by
  refine okf_of (d := d_is_flow) (N := ["web", "froms", "tos", "flow"]) (t_is_flow K p_ask_ends p_are_flow_rows p_fits p_is_balanced) E.fd_is_flow sc_is_flow (fun _ _ _ _ _ _ us hl => match us, hl with | [_, _, _, _], _ => rfl) (fun P w base cdv A outer s H Ex hr => ?_) pure
  have nd := (sc_is_flow).nd
  exact (pss_cons (ps_expr (pe_f h_ask_ends hr rfl E.g_ask_ends (pa_cons (pv 0) (pa_cons (pv 1) (pa_cons (pv 2) pa_nil)))))
      (pss_one (ps_ret (pe_and (pe_f h_are_flow_rows hr rfl E.g_are_flow_rows (pa_cons (pe_fld (pv 0) rfl) (pa_cons (pv 3) pa_nil))) (pe_and (pe_f h_fits hr rfl E.g_fits (pa_cons (pv 0) (pa_cons (pv 3) pa_nil))) (pe_one (pe_f h_is_balanced hr rfl E.g_is_balanced (pa_cons (pe_fld (pv 0) rfl) (pa_cons (pv 1) (pa_cons (pv 2) (pa_cons (pv 3) pa_nil)))))))))))
def t_worth_of (K : PySem.W.Frag) (p_coming_in p_going_out p_less : Sp0) : TS := (tSeq (tIfS (tTest (tOp rEq (tCB (rLenQ K) (tCons (tVar 1) tNil)) (tC (.int 0)))) (tRet (tC (.ref (He.ga K "NOUGHT")))) tNext)
  (tRet (tF 2 p_less (tCons (tF 2 p_going_out (tCons (tVar 1) (tCons (tVar 0) tNil))) (tCons (tF 2 p_coming_in (tCons (tVar 1) (tCons (tVar 0) tNil))) tNil)))))
theorem sc_worth_of : FnScope ["froms", "flow"] ["froms", "flow"] (defScope s_worth_of) := ⟨rfl, rfl, rfl, by decide +kernel, rfl, by decide +kernel, by decide +kernel⟩
theorem ok_worth_of {K : PySem.W.Frag} {mg : Str → Option Value} {k : Nat} {sp : Sp0} {p_coming_in p_going_out p_less : Sp0} (E : En K mg) (h_coming_in : Okf K mg d_coming_in ["flow", "places"] k p_coming_in) (h_going_out : Okf K mg d_going_out ["flow", "places"] k p_going_out) (h_less : Okf K mg d_less ["one", "other"] k p_less)
    (pure : ∀ vs H Q, sp vs H Q → t_worth_of K p_coming_in p_going_out p_less { nx := fun _ H' => Q .non H', rt := Q } (start ["froms", "flow"] vs) H) : Okf K mg d_worth_of ["froms", "flow"] (k + 1) sp := by
  refine okf_of (d := d_worth_of) (N := ["froms", "flow"]) (t_worth_of K p_coming_in p_going_out p_less) E.fd_worth_of sc_worth_of (fun _ _ _ _ _ _ us hl => match us, hl with | [_, _], _ => rfl) (fun P w base cdv A outer s H Ex hr => ?_) pure
  have nd := (sc_worth_of).nd
  exact (pss_cons (ps_if (pt_cmpR op_eq (pe_callB call_len_seq (by rfl) E.f_len PySem.boot_len (pa_cons (pv 1) pa_nil)) pe_int (nomark _)) (pss_one (ps_ret (pe_glob rfl E.g_NOUGHT rfl))) pss_nil)
      (pss_one (ps_ret (pe_f h_less hr rfl E.g_less (pa_cons (pe_f h_going_out hr rfl E.g_going_out (pa_cons (pv 1) (pa_cons (pv 0) pa_nil))) (pa_cons (pe_f h_coming_in hr rfl E.g_coming_in (pa_cons (pv 1) (pa_cons (pv 0) pa_nil))) pa_nil))))))
def t_lowest (K : PySem.W.Frag) (p_divisor : Sp0) : TS := (tSeq (tAsg (tF 2 p_divisor (tCons (tVar 0) (tCons (tC (.int 55440)) tNil))) (gName 1))
  (tRet (tTup (tCons (tOp rFdiv (tVar 0) (tVar 1)) (tCons (tOp rFdiv (tC (.int 55440)) (tVar 1)) tNil)))))
theorem sc_lowest : FnScope ["number", "common"] ["number"] (defScope s_lowest) := ⟨rfl, rfl, rfl, by decide +kernel, rfl, by decide +kernel, by decide +kernel⟩
theorem ok_lowest {K : PySem.W.Frag} {mg : Str → Option Value} {k : Nat} {sp : Sp0} {p_divisor : Sp0} (E : En K mg) (h_divisor : Okf K mg d_divisor ["one", "other"] k p_divisor)
    (pure : ∀ vs H Q, sp vs H Q → t_lowest K p_divisor { nx := fun _ H' => Q .non H', rt := Q } (start ["number", "common"] vs) H) : Okf K mg d_lowest ["number"] (k + 1) sp := by
  refine okf_of (d := d_lowest) (N := ["number", "common"]) (t_lowest K p_divisor) E.fd_lowest sc_lowest (fun _ _ _ _ _ _ us hl => match us, hl with | [_], _ => rfl) (fun P w base cdv A outer s H Ex hr => ?_) pure
  have nd := (sc_lowest).nd
  exact (pss_cons (ps_set (i := 1) nd rfl (Or.inl rfl) (pe_f h_divisor hr rfl E.g_divisor (pa_cons (pv 0) (pa_cons (pe_gi rfl E.i_BELOW) pa_nil))))
      (pss_one (ps_ret (pe_tup (pa_cons (pe_op op_fdivW (pv 0) (pv 1)) (pa_cons (pe_op op_fdivW (pe_gi rfl E.i_BELOW) (pv 1)) pa_nil))))))
def t_Rooms_init (K : PySem.W.Frag) (p_Rooms_parts p_Rooms_meet : Sp0) : TS := (tSeq (sFld K (tVar 0) (tFld K (tVar 1) "many") "size")
  (tSeq (sFld K (tVar 0) tDNewT "weights")
  (tSeq (sFld K (tVar 0) tDNewT "brought")
  (tSeq (sFld K (tVar 0) (tLc (iRng1 (tCons (tFld K (tVar 1) "many") tNil)) (gName 5) tYes (tLst tNil) [5]) "close")
  (tFor (iTup K (tFld K (tVar 1) "ties")) (gTup K 3 (gCons (gName 2) (gCons (gName 3) (gCons (gName 4) gNil)))) (tSeq (sDPut (tFld K (tVar 0) "weights") (tTup (tCons (tVar 2) (tCons (tVar 3) tNil))) (tM (He.ga K "Rooms") "parts" 2 p_Rooms_parts (tVar 0) (tCons (tVar 4) tNil)))
  (tSeq (sDPut (tFld K (tVar 0) "weights") (tTup (tCons (tVar 3) (tCons (tVar 2) tNil))) (tM (He.ga K "Rooms") "parts" 2 p_Rooms_parts (tVar 0) (tCons (tVar 4) tNil)))
  (tDrop (tM (He.ga K "Rooms") "meet" 3 p_Rooms_meet (tVar 0) (tCons (tVar 2) (tCons (tVar 3) tNil)))))))))))
theorem sc_Rooms_init : FnScope ["self", "web", "i", "j", "weight", "place"] ["self", "web"] (defScope s_Rooms_init) := ⟨rfl, rfl, rfl, by decide +kernel, rfl, by decide +kernel, by decide +kernel⟩
theorem ok_Rooms_init {K : PySem.W.Frag} {mg : Str → Option Value} {k : Nat} {sp : Sp0} {p_Rooms_parts p_Rooms_meet : Sp0} (E : En K mg) (h_Rooms_parts : Okf K mg d_Rooms_parts ["self", "amount"] k p_Rooms_parts) (h_Rooms_meet : Okf K mg d_Rooms_meet ["self", "i", "j"] k p_Rooms_meet)
    (pure : ∀ vs H Q, sp vs H Q → t_Rooms_init K p_Rooms_parts p_Rooms_meet { nx := fun _ H' => Q .non H', rt := Q } (start ["self", "web", "i", "j", "weight", "place"] vs) H) : Okf K mg d_Rooms_init ["self", "web"] (k + 1) sp := by
  refine okf_of (d := d_Rooms_init) (N := ["self", "web", "i", "j", "weight", "place"]) (t_Rooms_init K p_Rooms_parts p_Rooms_meet) E.fd_Rooms_init sc_Rooms_init (fun _ _ _ _ _ _ us hl => match us, hl with | [_, _], _ => rfl) (fun P w base cdv A outer s H Ex hr => ?_) pure
  have nd := (sc_Rooms_init).nd
  exact (pss_cons (ps_fld (pv 0) (pe_fld (pv 1) rfl) rfl)
      (pss_cons (ps_fld (pv 0) pe_dnewT rfl)
      (pss_cons (ps_fld (pv 0) pe_dnewT rfl)
      (pss_cons (ps_fld (pv 0) (pe_lc (own := [("place", 5)]) rfl nd (pi_range1 (by rfl) E.f_range (pa_cons (pe_fld (pv 1) rfl) pa_nil)) (blkOk_by (N := ["self", "web", "i", "j", "weight", "place"]) (sc := defScope s_Rooms_init) (by decide +kernel)) (fun _ _ _ _ _ => (pg_name (i := 5) nd rfl (Or.inl rfl))) (fun _ _ _ _ _ => pts_nil) (fun _ _ _ _ _ => (pe_lst pa_nil))) rfl)
      (pss_one (ps_for PassesOwn.never rfl (pi_tup (pe_fld (pv 1) rfl)) (pg_tup rfl (pgs_cons (pg_name (i := 2) nd rfl (Or.inl rfl)) (pgs_cons (pg_name (i := 3) nd rfl (Or.inl rfl)) (pgs_cons (pg_name (i := 4) nd rfl (Or.inl rfl)) pgs_nil)))) (pss_cons (ps_dput (hu_of hr) (pe_fld (pv 0) rfl) (pe_tup (pa_cons (pv 2) (pa_cons (pv 3) pa_nil))) (pe_m (pv 0) E.cls_Rooms E.m_Rooms_parts h_Rooms_parts rfl hr (pa_cons (pv 4) pa_nil)) rfl)
      (pss_cons (ps_dput (hu_of hr) (pe_fld (pv 0) rfl) (pe_tup (pa_cons (pv 3) (pa_cons (pv 2) pa_nil))) (pe_m (pv 0) E.cls_Rooms E.m_Rooms_parts h_Rooms_parts rfl hr (pa_cons (pv 4) pa_nil)) rfl)
      (pss_one (ps_expr (pe_m (pv 0) E.cls_Rooms E.m_Rooms_meet h_Rooms_meet rfl hr (pa_cons (pv 2) (pa_cons (pv 3) pa_nil)))))))))))))
def t_Rooms_meet (K : PySem.W.Frag) : TS := (tIfS (tTest (tOp (rIn K true) (tVar 2) (tOp (rIxL K) (tFld K (tVar 0) "close") (tVar 1)))) (tSeq (tAsg (tCB (rSortedI K) (tCons (tOp rCat (tOp (rIxL K) (tFld K (tVar 0) "close") (tVar 1)) (tLst (tCons (tVar 2) tNil))) tNil)) (gSub (tFld K (tVar 0) "close") (tVar 1) rSetL))
  (tAsg (tCB (rSortedI K) (tCons (tOp rCat (tOp (rIxL K) (tFld K (tVar 0) "close") (tVar 2)) (tLst (tCons (tVar 1) tNil))) tNil)) (gSub (tFld K (tVar 0) "close") (tVar 2) rSetL))) tNext)
theorem sc_Rooms_meet : FnScope ["self", "i", "j"] ["self", "i", "j"] (defScope s_Rooms_meet) := ⟨rfl, rfl, rfl, by decide +kernel, rfl, by decide +kernel, by decide +kernel⟩
theorem ok_Rooms_meet {K : PySem.W.Frag} {mg : Str → Option Value} {k : Nat} {sp : Sp0} (E : En K mg)
    (pure : ∀ vs H Q, sp vs H Q → t_Rooms_meet K { nx := fun _ H' => Q .non H', rt := Q } (start ["self", "i", "j"] vs) H) : Okf K mg d_Rooms_meet ["self", "i", "j"] (k + 1) sp := by
  refine okf_of (d := d_Rooms_meet) (N := ["self", "i", "j"]) (t_Rooms_meet K ) E.fd_Rooms_meet sc_Rooms_meet (fun _ _ _ _ _ _ us hl => match us, hl with | [_, _, _], _ => rfl) (fun P w base cdv A outer s H Ex hr => ?_) pure
  have nd := (sc_Rooms_meet).nd
  exact (pss_one (ps_if (pt_cmpR op_notIn_seq (pv 2) (pe_ix ix_list (pe_fld (pv 0) rfl) (pv 1) (fun _ _ => rfl)) (by rfl)) (pss_cons (ps_asg (pe_callB cr_sortedI (by rfl) E.f_sorted (by decide +kernel) (pa_cons (pe_op op_cat (pe_ix ix_list (pe_fld (pv 0) rfl) (pv 1) (fun _ _ => rfl)) (pe_lst (pa_cons (pv 2) pa_nil))) pa_nil)) (pg_sub (pe_fld (pv 0) rfl) (pv 1) set_list))
      (pss_one (ps_asg (pe_callB cr_sortedI (by rfl) E.f_sorted (by decide +kernel) (pa_cons (pe_op op_cat (pe_ix ix_list (pe_fld (pv 0) rfl) (pv 2) (fun _ _ => rfl)) (pe_lst (pa_cons (pv 1) pa_nil))) pa_nil)) (pg_sub (pe_fld (pv 0) rfl) (pv 2) set_list)))) pss_nil))
def t_Rooms_parts (K : PySem.W.Frag) : TS := (tRet (tOp rTimes (tOp (rIxT K) (tVar 1) (tC (.int 0))) (tOp rFdiv (tC (.int 55440)) (tOp (rIxT K) (tVar 1) (tC (.int 1))))))
theorem sc_Rooms_parts : FnScope ["self", "amount"] ["self", "amount"] (defScope s_Rooms_parts) := ⟨rfl, rfl, rfl, by decide +kernel, rfl, by decide +kernel, by decide +kernel⟩
theorem ok_Rooms_parts {K : PySem.W.Frag} {mg : Str → Option Value} {k : Nat} {sp : Sp0} (E : En K mg)
    (pure : ∀ vs H Q, sp vs H Q → t_Rooms_parts K { nx := fun _ H' => Q .non H', rt := Q } (start ["self", "amount"] vs) H) : Okf K mg d_Rooms_parts ["self", "amount"] (k + 1) sp := by
  refine okf_of (d := d_Rooms_parts) (N := ["self", "amount"]) (t_Rooms_parts K ) E.fd_Rooms_parts sc_Rooms_parts (fun _ _ _ _ _ _ us hl => match us, hl with | [_, _], _ => rfl) (fun P w base cdv A outer s H Ex hr => ?_) pure
  have nd := (sc_Rooms_parts).nd
  exact (pss_one (ps_ret (pe_op op_mul (pe_ix ix_tup (pv 1) pe_int (fun _ _ => rfl)) (pe_op op_fdivW (pe_gi rfl E.i_BELOW) (pe_ix ix_tup (pv 1) pe_int (fun _ _ => rfl))))))
def t_Rooms_spare (K : PySem.W.Frag) : TS := (tRet (tOp rPlus (tOp rMinus (tDGet2 (tFld K (tVar 0) "weights") (tTup (tCons (tVar 1) (tCons (tVar 2) tNil))) (tC (.int 0))) (tDGet2 (tFld K (tVar 0) "brought") (tTup (tCons (tVar 1) (tCons (tVar 2) tNil))) (tC (.int 0)))) (tDGet2 (tFld K (tVar 0) "brought") (tTup (tCons (tVar 2) (tCons (tVar 1) tNil))) (tC (.int 0)))))
theorem sc_Rooms_spare : FnScope ["self", "i", "j"] ["self", "i", "j"] (defScope s_Rooms_spare) := ⟨rfl, rfl, rfl, by decide +kernel, rfl, by decide +kernel, by decide +kernel⟩
theorem ok_Rooms_spare {K : PySem.W.Frag} {mg : Str → Option Value} {k : Nat} {sp : Sp0} (E : En K mg)
    (pure : ∀ vs H Q, sp vs H Q → t_Rooms_spare K { nx := fun _ H' => Q .non H', rt := Q } (start ["self", "i", "j"] vs) H) : Okf K mg d_Rooms_spare ["self", "i", "j"] (k + 1) sp := by
  refine okf_of (d := d_Rooms_spare) (N := ["self", "i", "j"]) (t_Rooms_spare K ) E.fd_Rooms_spare sc_Rooms_spare (fun _ _ _ _ _ _ us hl => match us, hl with | [_, _, _], _ => rfl) (fun P w base cdv A outer s H Ex hr => ?_) pure
  have nd := (sc_Rooms_spare).nd
  exact (pss_one (ps_ret (pe_op op_add (pe_op op_sub (pe_dget2 (hu_of hr) (pe_fld (pv 0) rfl) (pe_tup (pa_cons (pv 1) (pa_cons (pv 2) pa_nil))) pe_int ⟨rfl, rfl, rfl, rfl⟩) (pe_dget2 (hu_of hr) (pe_fld (pv 0) rfl) (pe_tup (pa_cons (pv 1) (pa_cons (pv 2) pa_nil))) pe_int ⟨rfl, rfl, rfl, rfl⟩)) (pe_dget2 (hu_of hr) (pe_fld (pv 0) rfl) (pe_tup (pa_cons (pv 2) (pa_cons (pv 1) pa_nil))) pe_int ⟨rfl, rfl, rfl, rfl⟩))))
def t_Rooms_put (K : PySem.W.Frag) : TS := (tSeq (tAsg (tDGet2 (tFld K (tVar 0) "brought") (tTup (tCons (tVar 2) (tCons (tVar 1) tNil))) (tC (.int 0))) (gName 4))
  (tSeq (tAsg (tOp rMinus (tOp rPlus (tDGet2 (tFld K (tVar 0) "brought") (tTup (tCons (tVar 1) (tCons (tVar 2) tNil))) (tC (.int 0))) (tVar 3)) (tVar 4)) (gName 3))
  (tSeq (sDPut (tFld K (tVar 0) "brought") (tTup (tCons (tVar 1) (tCons (tVar 2) tNil))) (tCB rMax2 (tCons (tC (.int 0)) (tCons (tVar 3) tNil))))
  (sDPut (tFld K (tVar 0) "brought") (tTup (tCons (tVar 2) (tCons (tVar 1) tNil))) (tCB rMax2 (tCons (tC (.int 0)) (tCons (tOp rMinus (tC (.int 0)) (tVar 3)) tNil)))))))
theorem sc_Rooms_put : FnScope ["self", "i", "j", "number", "back"] ["self", "i", "j", "number"] (defScope s_Rooms_put) := ⟨rfl, rfl, rfl, by decide +kernel, rfl, by decide +kernel, by decide +kernel⟩
theorem ok_Rooms_put {K : PySem.W.Frag} {mg : Str → Option Value} {k : Nat} {sp : Sp0} (E : En K mg)
    (pure : ∀ vs H Q, sp vs H Q → t_Rooms_put K { nx := fun _ H' => Q .non H', rt := Q } (start ["self", "i", "j", "number", "back"] vs) H) : Okf K mg d_Rooms_put ["self", "i", "j", "number"] (k + 1) sp := by
  refine okf_of (d := d_Rooms_put) (N := ["self", "i", "j", "number", "back"]) (t_Rooms_put K ) E.fd_Rooms_put sc_Rooms_put (fun _ _ _ _ _ _ us hl => match us, hl with | [_, _, _, _], _ => rfl) (fun P w base cdv A outer s H Ex hr => ?_) pure
  have nd := (sc_Rooms_put).nd
  exact (pss_cons (ps_set (i := 4) nd rfl (Or.inl rfl) (pe_dget2 (hu_of hr) (pe_fld (pv 0) rfl) (pe_tup (pa_cons (pv 2) (pa_cons (pv 1) pa_nil))) pe_int ⟨rfl, rfl, rfl, rfl⟩))
      (pss_cons (ps_set (i := 3) nd rfl (Or.inl rfl) (pe_op op_sub (pe_op op_add (pe_dget2 (hu_of hr) (pe_fld (pv 0) rfl) (pe_tup (pa_cons (pv 1) (pa_cons (pv 2) pa_nil))) pe_int ⟨rfl, rfl, rfl, rfl⟩) (pv 3)) (pv 4)))
      (pss_cons (ps_dput (hu_of hr) (pe_fld (pv 0) rfl) (pe_tup (pa_cons (pv 1) (pa_cons (pv 2) pa_nil))) (pe_callB (call_max2 rfl) (by rfl) E.f_max (by decide +kernel) (pa_cons pe_int (pa_cons (pv 3) pa_nil))) rfl)
      (pss_one (ps_dput (hu_of hr) (pe_fld (pv 0) rfl) (pe_tup (pa_cons (pv 2) (pa_cons (pv 1) pa_nil))) (pe_callB (call_max2 rfl) (by rfl) E.f_max (by decide +kernel) (pa_cons pe_int (pa_cons (pe_op op_sub pe_int (pv 3)) pa_nil))) rfl)))))
def t_Rooms_carry (K : PySem.W.Frag) (p_Rooms_put : Sp0) : TS := (tFor (iRng2 (tCons (tC (.int 1)) (tCons (tCB (rLenQ K) (tCons (tVar 1) tNil)) tNil))) (gName 3) (tDrop (tM (He.ga K "Rooms") "put" 4 p_Rooms_put (tVar 0) (tCons (tOp (rIxT K) (tVar 1) (tOp rMinus (tVar 3) (tC (.int 1)))) (tCons (tOp (rIxT K) (tVar 1) (tVar 3)) (tCons (tVar 2) tNil))))))
theorem sc_Rooms_carry : FnScope ["self", "way", "number", "at"] ["self", "way", "number"] (defScope s_Rooms_carry) := ⟨rfl, rfl, rfl, by decide +kernel, rfl, by decide +kernel, by decide +kernel⟩
theorem ok_Rooms_carry {K : PySem.W.Frag} {mg : Str → Option Value} {k : Nat} {sp : Sp0} {p_Rooms_put : Sp0} (E : En K mg) (h_Rooms_put : Okf K mg d_Rooms_put ["self", "i", "j", "number"] k p_Rooms_put)
    (pure : ∀ vs H Q, sp vs H Q → t_Rooms_carry K p_Rooms_put { nx := fun _ H' => Q .non H', rt := Q } (start ["self", "way", "number", "at"] vs) H) : Okf K mg d_Rooms_carry ["self", "way", "number"] (k + 1) sp := by
  refine okf_of (d := d_Rooms_carry) (N := ["self", "way", "number", "at"]) (t_Rooms_carry K p_Rooms_put) E.fd_Rooms_carry sc_Rooms_carry (fun _ _ _ _ _ _ us hl => match us, hl with | [_, _, _], _ => rfl) (fun P w base cdv A outer s H Ex hr => ?_) pure
  have nd := (sc_Rooms_carry).nd
  exact (pss_one (ps_for PassesOwn.never rfl (pi_range2 (by rfl) E.f_range (pa_cons pe_int (pa_cons (pe_callB call_len_seq (by rfl) E.f_len PySem.boot_len (pa_cons (pv 1) pa_nil)) pa_nil))) (pg_name (i := 3) nd rfl (Or.inl rfl)) (pss_one (ps_expr (pe_m (pv 0) E.cls_Rooms E.m_Rooms_put h_Rooms_put rfl hr (pa_cons (pe_ix ix_tup (pv 1) (pe_op op_sub (pv 3) pe_int) (fun _ _ => rfl)) (pa_cons (pe_ix ix_tup (pv 1) (pv 3) (fun _ _ => rfl)) (pa_cons (pv 2) pa_nil))))))))
def t_Rooms_least_room (K : PySem.W.Frag) (p_Rooms_spare : Sp0) : TS := (tRet (tCB (rMin K) (tCons (tLc (iRng2 (tCons (tC (.int 1)) (tCons (tCB (rLenQ K) (tCons (tVar 1) tNil)) tNil))) (gName 2) tYes (tM (He.ga K "Rooms") "spare" 3 p_Rooms_spare (tVar 0) (tCons (tOp (rIxT K) (tVar 1) (tOp rMinus (tVar 2) (tC (.int 1)))) (tCons (tOp (rIxT K) (tVar 1) (tVar 2)) tNil))) [2]) tNil)))
theorem sc_Rooms_least_room : FnScope ["self", "way", "at"] ["self", "way"] (defScope s_Rooms_least_room) := ⟨rfl, rfl, rfl, by decide +kernel, rfl, by decide +kernel, by decide +kernel⟩
theorem ok_Rooms_least_room {K : PySem.W.Frag} {mg : Str → Option Value} {k : Nat} {sp : Sp0} {p_Rooms_spare : Sp0} (E : En K mg) (h_Rooms_spare : Okf K mg d_Rooms_spare ["self", "i", "j"] k p_Rooms_spare)
    (pure : ∀ vs H Q, sp vs H Q → t_Rooms_least_room K p_Rooms_spare { nx := fun _ H' => Q .non H', rt := Q } (start ["self", "way", "at"] vs) H) : Okf K mg d_Rooms_least_room ["self", "way"] (k + 1) sp := by
  refine okf_of (d := d_Rooms_least_room) (N := ["self", "way", "at"]) (t_Rooms_least_room K p_Rooms_spare) E.fd_Rooms_least_room sc_Rooms_least_room (fun _ _ _ _ _ _ us hl => match us, hl with | [_, _], _ => rfl) (fun P w base cdv A outer s H Ex hr => ?_) pure
  have nd := (sc_Rooms_least_room).nd
  exact (pss_one (ps_ret (pe_callB (cr_min rfl) (by rfl) E.f_min (by decide +kernel) (pa_cons (pe_lc (own := [("at", 2)]) rfl nd (pi_range2 (by rfl) E.f_range (pa_cons pe_int (pa_cons (pe_callB call_len_seq (by rfl) E.f_len PySem.boot_len (pa_cons (pv 1) pa_nil)) pa_nil))) (blkOk_by (N := ["self", "way", "at"]) (sc := defScope s_Rooms_least_room) (by decide +kernel)) (fun _ _ _ _ _ => (pg_name (i := 2) nd rfl (Or.inl rfl))) (fun _ _ _ _ _ => pts_nil) (fun _ _ _ _ _ => (pe_m (pv 0) E.cls_Rooms E.m_Rooms_spare h_Rooms_spare rfl hr (pa_cons (pe_ix ix_tup (pv 1) (pe_op op_sub (pv 2) pe_int) (fun _ _ => rfl)) (pa_cons (pe_ix ix_tup (pv 1) (pv 2) (fun _ _ => rfl)) pa_nil))))) pa_nil))))
def t_Rooms_flow (K : PySem.W.Frag) (p_lowest : Sp0) : TS := (tSeq (tLock (tAsg (tLc (iKeys (tFld K (tVar 0) "brought")) (gName 2) (tTest (tOp rGt2 (tDGet (tFld K (tVar 0) "brought") (tVar 2)) (tC (.int 0)))) (tVar 2) [2]) (gName 1)))
  (tRet (tCB (rTupQ K) (tCons (tLc (iList K (tCB (rSortedPO K) (tCons (tVar 1) tNil))) (gTup K 2 (gCons (gName 3) (gCons (gName 4) gNil))) tYes (tTup (tCons (tVar 3) (tCons (tVar 4) (tCons (tF 1 p_lowest (tCons (tDGet (tFld K (tVar 0) "brought") (tTup (tCons (tVar 3) (tCons (tVar 4) tNil)))) tNil)) tNil)))) [3, 4]) tNil))))
theorem sc_Rooms_flow : FnScope ["self", "rows", "pair", "i", "j"] ["self"] (defScope s_Rooms_flow) := ⟨rfl, rfl, rfl, by decide +kernel, rfl, by decide +kernel, by decide +kernel⟩
theorem ok_Rooms_flow {K : PySem.W.Frag} {mg : Str → Option Value} {k : Nat} {sp : Sp0} {p_lowest : Sp0} (E : En K mg) (h_lowest : Okf K mg d_lowest ["number"] k p_lowest)
    (pure : ∀ vs H Q, sp vs H Q → t_Rooms_flow K p_lowest { nx := fun _ H' => Q .non H', rt := Q } (start ["self", "rows", "pair", "i", "j"] vs) H) : Okf K mg d_Rooms_flow ["self"] (k + 1) sp := by
  refine okf_of (d := d_Rooms_flow) (N := ["self", "rows", "pair", "i", "j"]) (t_Rooms_flow K p_lowest) E.fd_Rooms_flow sc_Rooms_flow (fun _ _ _ _ _ _ us hl => match us, hl with | [_], _ => rfl) (fun P w base cdv A outer s H Ex hr => ?_) pure
  have nd := (sc_Rooms_flow).nd
  exact (pss_cons (ps_lock (ps_setLc (i := 1) (own := [("pair", 2)]) rfl nd rfl rfl (sw_true rfl rfl rfl (by decide +kernel)) (pi_keys (pe_fld (pv 0) rfl)) (blkOk_by (N := ["self", "rows", "pair", "i", "j"]) (sc := defScope s_Rooms_flow) (by decide +kernel)) (fun _ _ _ _ _ => (pg_name (i := 2) nd rfl (Or.inl rfl))) (fun _ _ _ _ _ => (pts_one (pt_cmpR op_gt (pe_dget (hu_of hr) (pe_fld (pv 0) rfl) (pv 2) (fun _ _ => rfl)) pe_int (nomark _)))) (fun _ _ _ _ _ => (pv 2))))
      (pss_one (ps_ret (pe_callTy call_tuple_of (by rfl) E.f_tuple (by decide +kernel) (pa_cons (pe_lc (own := [("i", 3), ("j", 4)]) rfl nd (pi_list (pe_callB cr_sortedPO (by rfl) E.f_sorted (by decide +kernel) (pa_cons (pv 1) pa_nil))) (blkOk_by (N := ["self", "rows", "pair", "i", "j"]) (sc := defScope s_Rooms_flow) (by decide +kernel)) (fun _ _ _ _ _ => (pg_tup rfl (pgs_cons (pg_name (i := 3) nd rfl (Or.inl rfl)) (pgs_cons (pg_name (i := 4) nd rfl (Or.inl rfl)) pgs_nil)))) (fun _ _ _ _ _ => pts_nil) (fun _ _ _ _ _ => (pe_tup (pa_cons (pv 3) (pa_cons (pv 4) (pa_cons (pe_f h_lowest hr rfl E.g_lowest (pa_cons (pe_dget (hu_of hr) (pe_fld (pv 0) rfl) (pe_tup (pa_cons (pv 3) (pa_cons (pv 4) pa_nil))) (fun _ _ => rfl)) pa_nil)) pa_nil)))))) pa_nil)))))
def t_rooms_of (K : PySem.W.Frag) (p_Rooms_init p_Rooms_meet p_Rooms_put p_Rooms_parts : Sp0) : TS := (tSeq (tAsg (tMk (He.ga K "Rooms") 2 p_Rooms_init (tCons (tVar 0) tNil)) (gName 2))
  (tSeq (tFor (iTup K (tVar 1)) (gTup K 3 (gCons (gName 3) (gCons (gName 4) (gCons (gName 5) gNil)))) (tSeq (tDrop (tM (He.ga K "Rooms") "meet" 3 p_Rooms_meet (tVar 2) (tCons (tVar 3) (tCons (tVar 4) tNil))))
  (tDrop (tM (He.ga K "Rooms") "put" 4 p_Rooms_put (tVar 2) (tCons (tVar 3) (tCons (tVar 4) (tCons (tM (He.ga K "Rooms") "parts" 2 p_Rooms_parts (tVar 2) (tCons (tVar 5) tNil)) tNil)))))))
  (tRet (tVar 2))))
theorem sc_rooms_of : FnScope ["web", "flow", "rooms", "i", "j", "amount"] ["web", "flow"] (defScope s_rooms_of) := ⟨rfl, rfl, rfl, by decide +kernel, rfl, by decide +kernel, by decide +kernel⟩
theorem ok_rooms_of {K : PySem.W.Frag} {mg : Str → Option Value} {k : Nat} {sp : Sp0} {p_Rooms_init p_Rooms_meet p_Rooms_put p_Rooms_parts : Sp0} (E : En K mg) (h_Rooms_init : Okf K mg d_Rooms_init ["self", "web"] k p_Rooms_init) (h_Rooms_meet : Okf K mg d_Rooms_meet ["self", "i", "j"] (k + 1) p_Rooms_meet) (h_Rooms_put : Okf K mg d_Rooms_put ["self", "i", "j", "number"] (k + 1) p_Rooms_put) (h_Rooms_parts : Okf K mg d_Rooms_parts ["self", "amount"] (k + 1) p_Rooms_parts)
    (pure : ∀ vs H Q, sp vs H Q → t_rooms_of K p_Rooms_init p_Rooms_meet p_Rooms_put p_Rooms_parts { nx := fun _ H' => Q .non H', rt := Q } (start ["web", "flow", "rooms", "i", "j", "amount"] vs) H) : Okf K mg d_rooms_of ["web", "flow"] ((k + 1) + 1) sp := by
  refine okf_of (d := d_rooms_of) (N := ["web", "flow", "rooms", "i", "j", "amount"]) (t_rooms_of K p_Rooms_init p_Rooms_meet p_Rooms_put p_Rooms_parts) E.fd_rooms_of sc_rooms_of (fun _ _ _ _ _ _ us hl => match us, hl with | [_, _], _ => rfl) (fun P w base cdv A outer s H Ex hr => ?_) pure
  have nd := (sc_rooms_of).nd
  exact (pss_cons (ps_set (i := 2) nd rfl (Or.inl rfl) (pe_mk E.mk_Rooms h_Rooms_init rfl hr rfl E.g_Rooms (pa_cons (pv 0) pa_nil)))
      (pss_cons (ps_for PassesOwn.never rfl (pi_tup (pv 1)) (pg_tup rfl (pgs_cons (pg_name (i := 3) nd rfl (Or.inl rfl)) (pgs_cons (pg_name (i := 4) nd rfl (Or.inl rfl)) (pgs_cons (pg_name (i := 5) nd rfl (Or.inl rfl)) pgs_nil)))) (pss_cons (ps_expr (pe_m (pv 2) E.cls_Rooms E.m_Rooms_meet h_Rooms_meet rfl hr (pa_cons (pv 3) (pa_cons (pv 4) pa_nil))))
      (pss_one (ps_expr (pe_m (pv 2) E.cls_Rooms E.m_Rooms_put h_Rooms_put rfl hr (pa_cons (pv 3) (pa_cons (pv 4) (pa_cons (pe_m (pv 2) E.cls_Rooms E.m_Rooms_parts h_Rooms_parts rfl hr (pa_cons (pv 5) pa_nil)) pa_nil))))))))
      (pss_one (ps_ret (pv 2)))))
def t_steps_to (K : PySem.W.Frag) (p_Rooms_spare : Sp0) : TS := (tSeq (tAsg (tCB (rDictP K) (tCons (tLc (iTup K (tVar 2)) (gName 7) tYes (tTup (tCons (tVar 7) (tCons (tC (.int 0)) tNil))) [7]) tNil)) (gName 4))
  (tSeq (tAsg (tCB (rListQ K) (tCons (tVar 2) tNil)) (gName 5))
  (tSeq (tAsg (tC (.int 0)) (gName 6))
  (tSeq (tWhile (tTest (tOp rLt (tVar 6) (tCB (rLenQ K) (tCons (tVar 5) tNil)))) (tSeq (tAsg (tOp (rIxL K) (tVar 5) (tVar 6)) (gName 7))
  (tSeq (tFor (iList K (tOp (rIxL K) (tFld K (tVar 0) "close") (tVar 7))) (gName 8) (tIfS (tAnd (tB (tDNotIn (tVar 8) (tVar 4))) (tTest (tOp rGe2 (tM (He.ga K "Rooms") "spare" 3 p_Rooms_spare (tVar 0) (tCons (tVar 8) (tCons (tVar 7) tNil))) (tVar 3)))) (tSeq (sDPut (tVar 4) (tVar 8) (tOp rPlus (tDGet (tVar 4) (tVar 7)) (tC (.int 1))))
  (tIfS (tTest (tOp (rIn K true) (tVar 8) (tVar 1))) (tDrop (tBM K "list" rAppend (tVar 5) (tCons (tVar 8) tNil))) tNext)) tNext))
  (tAug 6 (tC (.int 1)) (ipI fun i j => i + j)))))
  (tRet (tVar 4))))))
theorem sc_steps_to : FnScope ["rooms", "froms", "tos", "least", "steps", "waiting", "at", "place", "other"] ["rooms", "froms", "tos", "least"] (defScope s_steps_to) := ⟨rfl, rfl, rfl, by decide +kernel, rfl, by decide +kernel, by decide +kernel⟩
theorem ok_steps_to {K : PySem.W.Frag} {mg : Str → Option Value} {k : Nat} {sp : Sp0} {p_Rooms_spare : Sp0} (E : En K mg) (h_Rooms_spare : Okf K mg d_Rooms_spare ["self", "i", "j"] k p_Rooms_spare)
    (pure : ∀ vs H Q, sp vs H Q → t_steps_to K p_Rooms_spare { nx := fun _ H' => Q .non H', rt := Q } (start ["rooms", "froms", "tos", "least", "steps", "waiting", "at", "place", "other"] vs) H) : Okf K mg d_steps_to ["rooms", "froms", "tos", "least"] (k + 1) sp := by
  refine okf_of (d := d_steps_to) (N := ["rooms", "froms", "tos", "least", "steps", "waiting", "at", "place", "other"]) (t_steps_to K p_Rooms_spare) E.fd_steps_to sc_steps_to (fun _ _ _ _ _ _ us hl => match us, hl with | [_, _, _, _], _ => rfl) (fun P w base cdv A outer s H Ex hr => ?_) pure
  have nd := (sc_steps_to).nd
  exact (pss_cons (ps_set (i := 4) nd rfl (Or.inl rfl) (pe_callTy (call_dictP rfl) (by rfl) E.f_dict (by decide +kernel) (pa_cons (pe_lc (own := [("place", 7)]) rfl nd (pi_tup (pv 2)) (blkOk_by (N := ["rooms", "froms", "tos", "least", "steps", "waiting", "at", "place", "other"]) (sc := defScope s_steps_to) (by decide +kernel)) (fun _ _ _ _ _ => (pg_name (i := 7) nd rfl (Or.inl rfl))) (fun _ _ _ _ _ => pts_nil) (fun _ _ _ _ _ => (pe_tup (pa_cons (pv 7) (pa_cons pe_int pa_nil))))) pa_nil)))
      (pss_cons (ps_set (i := 5) nd rfl (Or.inl rfl) (pe_callTy call_list_of (by rfl) E.f_list (by decide +kernel) (pa_cons (pv 2) pa_nil)))
      (pss_cons (ps_set (i := 6) nd rfl (Or.inl rfl) pe_int)
      (pss_cons (ps_while PassesOwn.never (pt_cmpR op_lt (pv 6) (pe_callB call_len_seq (by rfl) E.f_len PySem.boot_len (pa_cons (pv 5) pa_nil)) (nomark _)) (pss_cons (ps_set (i := 7) nd rfl (Or.inl rfl) (pe_ix ix_list (pv 5) (pv 6) (fun _ _ => rfl)))
      (pss_cons (ps_for PassesOwn.never rfl (pi_list (pe_ix ix_list (pe_fld (pv 0) rfl) (pv 7) (fun _ _ => rfl))) (pg_name (i := 8) nd rfl (Or.inl rfl)) (pss_one (ps_if (PW.pt (pw_and (pt_cmp (pc_dnotin (hu_of hr) (pv 8) (pv 4)) rfl) (pw_and1 (pt_cmpR op_ge (pe_m (pv 0) E.cls_Rooms E.m_Rooms_spare h_Rooms_spare rfl hr (pa_cons (pv 8) (pa_cons (pv 7) pa_nil))) (pv 3) (nomark _))))) (pss_cons (ps_dput (hu_of hr) (pv 4) (pv 8) (pe_op op_add (pe_dget (hu_of hr) (pv 4) (pv 7) (fun _ _ => rfl)) pe_int) rfl)
      (pss_one (ps_if (pt_cmpR op_notIn_seq (pv 8) (pv 1) (by rfl)) (pss_one (ps_expr (pe_bm PySem.F.plainAttrs_list PySem.F.slot_list_append PySem.F.type_list_append mt_append (pv 5) (pa_cons (pv 8) pa_nil)))) pss_nil))) pss_nil)))
      (pss_one (ps_aug (i := 6) nd rfl (Or.inl rfl) pe_int ip_add)))))
      (pss_one (ps_ret (pv 4)))))))
def t_way_with (K : PySem.W.Frag) (p_steps_to p_Rooms_spare : Sp0) : TS := (tSeq (tAsg (tF 4 p_steps_to (tCons (tVar 0) (tCons (tVar 1) (tCons (tVar 2) (tCons (tVar 3) tNil))))) (gName 4))
  (tSeq (tAsg (tLc (iTup K (tVar 1)) (gName 11) (tB (tDIn (tVar 11) (tVar 4))) (tVar 11) [11]) (gName 5))
  (tSeq (tIfS (tTest (tOp (rEqD K) (tVar 5) (tLst tNil))) (tRet (tC .non)) tNext)
  (tSeq (tAsg (tCB (rMin K) (tCons (tLc (iList K (tVar 5)) (gName 11) tYes (tDGet (tVar 4) (tVar 11)) [11]) tNil)) (gName 6))
  (tSeq (tAsg (tLst (tCons (tCB (rMin K) (tCons (tLc (iList K (tVar 5)) (gName 11) (tTest (tOp rEq (tDGet (tVar 4) (tVar 11)) (tVar 6))) (tVar 11) [11]) tNil)) tNil)) (gName 7))
  (tSeq (tWhile (tTest (tOp rGt2 (tDGet (tVar 4) (tOp (rIxL K) (tVar 7) (tUn (rU fun i => .int (-i)) (tC (.int 1))))) (tC (.int 0)))) (tSeq (tAsg (tOp rMinus (tDGet (tVar 4) (tOp (rIxL K) (tVar 7) (tUn (rU fun i => .int (-i)) (tC (.int 1))))) (tC (.int 1))) (gName 8))
  (tFor (iList K (tOp (rIxL K) (tFld K (tVar 0) "close") (tOp (rIxL K) (tVar 7) (tUn (rU fun i => .int (-i)) (tC (.int 1)))))) (gName 9) (tSeq (tAsg (tAndV (tDIn (tVar 9) (tVar 4)) (tAndV (tOp rEq (tDGet (tVar 4) (tVar 9)) (tVar 8)) (tOp (rIn K true) (tVar 9) (tVar 1)))) (gName 10))
  (tIfS (tAnd (tB (tVar 10)) (tTest (tOp rGe2 (tM (He.ga K "Rooms") "spare" 3 p_Rooms_spare (tVar 0) (tCons (tOp (rIxL K) (tVar 7) (tUn (rU fun i => .int (-i)) (tC (.int 1)))) (tCons (tVar 9) tNil))) (tVar 3)))) (tSeq (tDrop (tBM K "list" rAppend (tVar 7) (tCons (tVar 9) tNil)))
  tBreak) tNext)))))
  (tRet (tCB (rTupQ K) (tCons (tVar 7) tNil)))))))))
theorem sc_way_with : FnScope ["rooms", "froms", "tos", "least", "steps", "begins", "fewest", "way", "left", "other", "fits", "place"] ["rooms", "froms", "tos", "least"] (defScope s_way_with) := ⟨rfl, rfl, rfl, by decide +kernel, rfl, by decide +kernel, by decide +kernel⟩
theorem ok_way_with {K : PySem.W.Frag} {mg : Str → Option Value} {k : Nat} {sp : Sp0} {p_steps_to p_Rooms_spare : Sp0} (E : En K mg) (h_steps_to : Okf K mg d_steps_to ["rooms", "froms", "tos", "least"] k p_steps_to) (h_Rooms_spare : Okf K mg d_Rooms_spare ["self", "i", "j"] k p_Rooms_spare)
    (pure : ∀ vs H Q, sp vs H Q → t_way_with K p_steps_to p_Rooms_spare { nx := fun _ H' => Q .non H', rt := Q } (start ["rooms", "froms", "tos", "least", "steps", "begins", "fewest", "way", "left", "other", "fits", "place"] vs) H) : Okf K mg d_way_with ["rooms", "froms", "tos", "least"] (k + 1) sp := by
  refine okf_of (d := d_way_with) (N := ["rooms", "froms", "tos", "least", "steps", "begins", "fewest", "way", "left", "other", "fits", "place"]) (t_way_with K p_steps_to p_Rooms_spare) E.fd_way_with sc_way_with (fun _ _ _ _ _ _ us hl => match us, hl with | [_, _, _, _], _ => rfl) (fun P w base cdv A outer s H Ex hr => ?_) pure
  have nd := (sc_way_with).nd
  exact (pss_cons (ps_set (i := 4) nd rfl (Or.inr rfl) (pe_f h_steps_to hr rfl E.g_steps_to (pa_cons (pv 0) (pa_cons (pv 1) (pa_cons (pv 2) (pa_cons (pv 3) pa_nil))))))
      (pss_cons (ps_setLc (i := 5) (own := [("place", 11)]) rfl nd rfl rfl (sw_true rfl rfl rfl (by decide +kernel)) (pi_tup (pv 1)) (blkOk_by (N := ["rooms", "froms", "tos", "least", "steps", "begins", "fewest", "way", "left", "other", "fits", "place"]) (sc := defScope s_way_with) (by decide +kernel)) (fun _ _ _ _ _ => (pg_name (i := 11) nd rfl (Or.inl rfl))) (fun _ _ _ _ _ => (pts_one (pt_cmp (pc_din (hu_of hr) (pv 11) (pv 4)) rfl))) (fun _ _ _ _ _ => (pv 11)))
      (pss_cons (ps_if (pt_cmpR (op_eqD hr.units) (pv 5) (pe_lst pa_nil) (nomark _)) (pss_one (ps_ret pe_non)) pss_nil)
      (pss_cons (ps_set (i := 6) nd rfl (Or.inr rfl) (pe_callB (cr_min rfl) (by rfl) E.f_min (by decide +kernel) (pa_cons (pe_lc (own := [("place", 11)]) rfl nd (pi_list (pv 5)) (blkOk_by (N := ["rooms", "froms", "tos", "least", "steps", "begins", "fewest", "way", "left", "other", "fits", "place"]) (sc := defScope s_way_with) (by decide +kernel)) (fun _ _ _ _ _ => (pg_name (i := 11) nd rfl (Or.inl rfl))) (fun _ _ _ _ _ => pts_nil) (fun _ _ _ _ _ => (pe_dget (hu_of hr) (pv 4) (pv 11) (fun _ _ => rfl)))) pa_nil)))
      (pss_cons (ps_set (i := 7) nd rfl (Or.inl rfl) (pe_lst (pa_cons (pe_callB (cr_min rfl) (by rfl) E.f_min (by decide +kernel) (pa_cons (pe_lc (own := [("place", 11)]) rfl nd (pi_list (pv 5)) (blkOk_by (N := ["rooms", "froms", "tos", "least", "steps", "begins", "fewest", "way", "left", "other", "fits", "place"]) (sc := defScope s_way_with) (by decide +kernel)) (fun _ _ _ _ _ => (pg_name (i := 11) nd rfl (Or.inl rfl))) (fun _ _ _ _ _ => (pts_one (pt_cmpR op_eq (pe_dget (hu_of hr) (pv 4) (pv 11) (fun _ _ => rfl)) (pv 6) (nomark _)))) (fun _ _ _ _ _ => (pv 11))) pa_nil)) pa_nil)))
      (pss_cons (ps_while PassesOwn.never (pt_cmpR op_gt (pe_dget (hu_of hr) (pv 4) (pe_ix ix_list (pv 7) (pe_un un_neg pe_int) (fun _ _ => rfl)) (fun _ _ => rfl)) pe_int (nomark _)) (pss_cons (ps_set (i := 8) nd rfl (Or.inl rfl) (pe_op op_sub (pe_dget (hu_of hr) (pv 4) (pe_ix ix_list (pv 7) (pe_un un_neg pe_int) (fun _ _ => rfl)) (fun _ _ => rfl)) pe_int))
      (pss_one (ps_for PassesOwn.never rfl (pi_list (pe_ix ix_list (pe_fld (pv 0) rfl) (pe_ix ix_list (pv 7) (pe_un un_neg pe_int) (fun _ _ => rfl)) (fun _ _ => rfl))) (pg_name (i := 9) nd rfl (Or.inl rfl)) (pss_cons (ps_set (i := 10) nd rfl (Or.inl rfl) (pe_and (pe_cmp (pc_din (hu_of hr) (pv 9) (pv 4)) rfl) (pe_and (pe_cmpR op_eq (pe_dget (hu_of hr) (pv 4) (pv 9) (fun _ _ => rfl)) (pv 8) (nomark _)) (pe_one (pe_cmpR op_notIn_seq (pv 9) (pv 1) (by rfl))))))
      (pss_one (ps_if (PW.pt (pw_and (pt_val (pv 10) (by intro _; rfl)) (pw_and1 (pt_cmpR op_ge (pe_m (pv 0) E.cls_Rooms E.m_Rooms_spare h_Rooms_spare rfl hr (pa_cons (pe_ix ix_list (pv 7) (pe_un un_neg pe_int) (fun _ _ => rfl)) (pa_cons (pv 9) pa_nil))) (pv 3) (nomark _))))) (pss_cons (ps_expr (pe_bm PySem.F.plainAttrs_list PySem.F.slot_list_append PySem.F.type_list_append mt_append (pv 7) (pa_cons (pv 9) pa_nil)))
      (pss_one ps_break)) pss_nil)))))))
      (pss_one (ps_ret (pe_callTy call_tuple_of (by rfl) E.f_tuple (by decide +kernel) (pa_cons (pv 7) pa_nil))))))))))
def t_filled (K : PySem.W.Frag) (p_way_with p_Rooms_carry p_Rooms_least_room : Sp0) : TS := (tSeq (tAsg (tC (.int 0)) (gName 4))
  (tSeq (tAsg (tF 4 p_way_with (tCons (tVar 0) (tCons (tVar 1) (tCons (tVar 2) (tCons (tVar 3) tNil))))) (gName 5))
  (tSeq (tWhile (tTest (tOp rNotN (tVar 5) (tC .non))) (tSeq (tDrop (tM (He.ga K "Rooms") "carry" 3 p_Rooms_carry (tVar 0) (tCons (tVar 5) (tCons (tM (He.ga K "Rooms") "least_room" 2 p_Rooms_least_room (tVar 0) (tCons (tVar 5) tNil)) tNil))))
  (tSeq (tAug 4 (tC (.int 1)) (ipI fun i j => i + j))
  (tAsg (tF 4 p_way_with (tCons (tVar 0) (tCons (tVar 1) (tCons (tVar 2) (tCons (tVar 3) tNil))))) (gName 5)))))
  (tRet (tVar 4)))))
theorem sc_filled : FnScope ["rooms", "froms", "tos", "least", "ways", "way"] ["rooms", "froms", "tos", "least"] (defScope s_filled) := ⟨rfl, rfl, rfl, by decide +kernel, rfl, by decide +kernel, by decide +kernel⟩
theorem ok_filled {K : PySem.W.Frag} {mg : Str → Option Value} {k : Nat} {sp : Sp0} {p_way_with p_Rooms_carry p_Rooms_least_room : Sp0} (E : En K mg) (h_way_with : Okf K mg d_way_with ["rooms", "froms", "tos", "least"] k p_way_with) (h_Rooms_carry : Okf K mg d_Rooms_carry ["self", "way", "number"] k p_Rooms_carry) (h_Rooms_least_room : Okf K mg d_Rooms_least_room ["self", "way"] k p_Rooms_least_room)
    (pure : ∀ vs H Q, sp vs H Q → t_filled K p_way_with p_Rooms_carry p_Rooms_least_room { nx := fun _ H' => Q .non H', rt := Q } (start ["rooms", "froms", "tos", "least", "ways", "way"] vs) H) : Okf K mg d_filled ["rooms", "froms", "tos", "least"] (k + 1) sp := by
  refine okf_of (d := d_filled) (N := ["rooms", "froms", "tos", "least", "ways", "way"]) (t_filled K p_way_with p_Rooms_carry p_Rooms_least_room) E.fd_filled sc_filled (fun _ _ _ _ _ _ us hl => match us, hl with | [_, _, _, _], _ => rfl) (fun P w base cdv A outer s H Ex hr => ?_) pure
  have nd := (sc_filled).nd
  exact (pss_cons (ps_set (i := 4) nd rfl (Or.inl rfl) pe_int)
      (pss_cons (ps_set (i := 5) nd rfl (Or.inl rfl) (pe_f h_way_with hr rfl E.g_way_with (pa_cons (pv 0) (pa_cons (pv 1) (pa_cons (pv 2) (pa_cons (pv 3) pa_nil))))))
      (pss_cons (ps_while PassesOwn.never (pt_cmpR op_notN1 (pv 5) pe_non (nomark _)) (pss_cons (ps_expr (pe_m (pv 0) E.cls_Rooms E.m_Rooms_carry h_Rooms_carry rfl hr (pa_cons (pv 5) (pa_cons (pe_m (pv 0) E.cls_Rooms E.m_Rooms_least_room h_Rooms_least_room rfl hr (pa_cons (pv 5) pa_nil)) pa_nil))))
      (pss_cons (ps_aug (i := 4) nd rfl (Or.inl rfl) pe_int ip_add)
      (pss_one (ps_set (i := 5) nd rfl (Or.inl rfl) (pe_f h_way_with hr rfl E.g_way_with (pa_cons (pv 0) (pa_cons (pv 1) (pa_cons (pv 2) (pa_cons (pv 3) pa_nil))))))))))
      (pss_one (ps_ret (pv 4))))))
def t_shortest_flow (K : PySem.W.Frag) (p_are_ends p_rooms_of p_filled p_Rooms_flow : Sp0) : TS := (tSeq (tIfS (tNot (tB (tF 3 p_are_ends (tCons (tVar 0) (tCons (tVar 1) (tCons (tVar 2) tNil)))))) tNever tNext)
  (tSeq (tAsg (tF 2 p_rooms_of (tCons (tVar 0) (tCons (tTup tNil) tNil))) (gName 3))
  (tSeq (tAsg (tF 4 p_filled (tCons (tVar 3) (tCons (tVar 1) (tCons (tVar 2) (tCons (tC (.int 1)) tNil))))) (gName 4))
  (tRet (tTup (tCons (tM (He.ga K "Rooms") "flow" 1 p_Rooms_flow (tVar 3) tNil) (tCons (tVar 4) tNil)))))))
theorem sc_shortest_flow : FnScope ["web", "froms", "tos", "rooms", "ways"] ["web", "froms", "tos"] (defScope s_shortest_flow) := ⟨rfl, rfl, rfl, by decide +kernel, rfl, by decide +kernel, by decide +kernel⟩
theorem ok_shortest_flow {K : PySem.W.Frag} {mg : Str → Option Value} {k : Nat} {sp : Sp0} {p_are_ends p_rooms_of p_filled p_Rooms_flow : Sp0} (E : En K mg) (h_are_ends : Okf K mg d_are_ends ["web", "froms", "tos"] k p_are_ends) (h_rooms_of : Okf K mg d_rooms_of ["web", "flow"] k p_rooms_of) (h_filled : Okf K mg d_filled ["rooms", "froms", "tos", "least"] k p_filled) (h_Rooms_flow : Okf K mg d_Rooms_flow ["self"] k p_Rooms_flow)
    (pure : ∀ vs H Q, sp vs H Q → t_shortest_flow K p_are_ends p_rooms_of p_filled p_Rooms_flow { nx := fun _ H' => Q .non H', rt := Q } (start ["web", "froms", "tos", "rooms", "ways"] vs) H) : Okf K mg d_shortest_flow ["web", "froms", "tos"] (k + 1) sp := by
  refine okf_of (d := d_shortest_flow) (N := ["web", "froms", "tos", "rooms", "ways"]) (t_shortest_flow K p_are_ends p_rooms_of p_filled p_Rooms_flow) E.fd_shortest_flow sc_shortest_flow (fun _ _ _ _ _ _ us hl => match us, hl with | [_, _, _], _ => rfl) (fun P w base cdv A outer s H Ex hr => ?_) pure
  have nd := (sc_shortest_flow).nd
  exact (pss_cons (ps_if (pt_not (pt_val (pe_f h_are_ends hr rfl E.g_are_ends (pa_cons (pv 0) (pa_cons (pv 1) (pa_cons (pv 2) pa_nil)))) (by intro _; rfl))) (pss_one ps_never) pss_nil)
      (pss_cons (ps_set (i := 3) nd rfl (Or.inl rfl) (pe_f h_rooms_of hr rfl E.g_rooms_of (pa_cons (pv 0) (pa_cons (pe_tup pa_nil) pa_nil))))
      (pss_cons (ps_set (i := 4) nd rfl (Or.inl rfl) (pe_f h_filled hr rfl E.g_filled (pa_cons (pv 3) (pa_cons (pv 1) (pa_cons (pv 2) (pa_cons pe_int pa_nil))))))
      (pss_one (ps_ret (pe_tup (pa_cons (pe_m0 (pv 3) E.cls_Rooms E.m_Rooms_flow h_Rooms_flow rfl hr) (pa_cons (pv 4) pa_nil))))))))
def t_is_between (K : PySem.W.Frag) : TS := (tRet (tAndV (tOp (rEqD K) (tLc (iTup K (tVar 0)) (gName 3) (tTest (tOp (rIn K true) (tVar 3) (tVar 2))) (tVar 3) [3]) (tLst tNil)) (tOp (rEqD K) (tLc (iTup K (tVar 1)) (gName 3) (tTest (tOp (rIn K false) (tVar 3) (tVar 2))) (tVar 3) [3]) (tLst tNil))))
theorem sc_is_between : FnScope ["froms", "tos", "side", "place"] ["froms", "tos", "side"] (defScope s_is_between) := ⟨rfl, rfl, rfl, by decide +kernel, rfl, by decide +kernel, by decide +kernel⟩
theorem ok_is_between {K : PySem.W.Frag} {mg : Str → Option Value} {k : Nat} {sp : Sp0} (E : En K mg)
    (pure : ∀ vs H Q, sp vs H Q → t_is_between K { nx := fun _ H' => Q .non H', rt := Q } (start ["froms", "tos", "side", "place"] vs) H) : Okf K mg d_is_between ["froms", "tos", "side"] (k + 1) sp := by
  refine okf_of (d := d_is_between) (N := ["froms", "tos", "side", "place"]) (t_is_between K ) E.fd_is_between sc_is_between (fun _ _ _ _ _ _ us hl => match us, hl with | [_, _, _], _ => rfl) (fun P w base cdv A outer s H Ex hr => ?_) pure
  have nd := (sc_is_between).nd
  exact (pss_one (ps_ret (pe_and (pe_cmpR (op_eqD hr.units) (pe_lc (own := [("place", 3)]) rfl nd (pi_tup (pv 0)) (blkOk_by (N := ["froms", "tos", "side", "place"]) (sc := defScope s_is_between) (by decide +kernel)) (fun _ _ _ _ _ => (pg_name (i := 3) nd rfl (Or.inl rfl))) (fun _ _ _ _ _ => (pts_one (pt_cmpR op_notIn_seq (pv 3) (pv 2) (by rfl)))) (fun _ _ _ _ _ => (pv 3))) (pe_lst pa_nil) (nomark _)) (pe_one (pe_cmpR (op_eqD hr.units) (pe_lc (own := [("place", 3)]) rfl nd (pi_tup (pv 1)) (blkOk_by (N := ["froms", "tos", "side", "place"]) (sc := defScope s_is_between) (by decide +kernel)) (fun _ _ _ _ _ => (pg_name (i := 3) nd rfl (Or.inl rfl))) (fun _ _ _ _ _ => (pts_one (pt_cmpR op_in_seq (pv 3) (pv 2) (by rfl)))) (fun _ _ _ _ _ => (pv 3))) (pe_lst pa_nil) (nomark _))))))
def t_is_least_cut (K : PySem.W.Frag) (p_ask_ends p_is_row p_is_side p_is_between p_is_flow p_worth_of p_weight_out : Sp0) : TS := (tSeq (tDrop (tF 3 p_ask_ends (tCons (tVar 0) (tCons (tVar 1) (tCons (tVar 2) tNil)))))
  (tSeq (tIfS (tOr (tNot (tB (tF 1 p_is_row (tCons (tVar 3) tNil)))) (tOr (tTest (tOp rNe (tCB (rLenQ K) (tCons (tVar 3) tNil)) (tC (.int 2)))) (tNot (tB (tF 2 p_is_side (tCons (tVar 0) (tCons (tOp (rIxL K) (tVar 3) (tC (.int 1))) tNil))))))) (tRet (tC (.bl false))) tNext)
  (tSeq (tIfS (tOr (tNot (tB (tF 3 p_is_between (tCons (tVar 1) (tCons (tVar 2) (tCons (tOp (rIxL K) (tVar 3) (tC (.int 1))) tNil)))))) (tNot (tB (tF 4 p_is_flow (tCons (tVar 0) (tCons (tVar 1) (tCons (tVar 2) (tCons (tOp (rIxL K) (tVar 3) (tC (.int 0))) tNil)))))))) (tRet (tC (.bl false))) tNext)
  (tRet (tOp (rEqD K) (tF 2 p_worth_of (tCons (tVar 1) (tCons (tOp (rIxL K) (tVar 3) (tC (.int 0))) tNil))) (tF 2 p_weight_out (tCons (tVar 0) (tCons (tOp (rIxL K) (tVar 3) (tC (.int 1))) tNil))))))))
theorem sc_is_least_cut : FnScope ["web", "froms", "tos", "paper"] ["web", "froms", "tos", "paper"] (defScope s_is_least_cut) := ⟨rfl, rfl, rfl, by decide +kernel, rfl, by decide +kernel, by decide +kernel⟩
theorem ok_is_least_cut {K : PySem.W.Frag} {mg : Str → Option Value} {k : Nat} {sp : Sp0} {p_ask_ends p_is_row p_is_side p_is_between p_is_flow p_worth_of p_weight_out : Sp0} (E : En K mg) (h_ask_ends : Okf K mg d_ask_ends ["web", "froms", "tos"] k p_ask_ends) (h_is_row : Okf K mg d_is_row ["thing"] k p_is_row) (h_is_side : Okf K mg d_is_side ["web", "side"] k p_is_side) (h_is_between : Okf K mg d_is_between ["froms", "tos", "side"] k p_is_between) (h_is_flow : Okf K mg d_is_flow ["web", "froms", "tos", "flow"] k p_is_flow) (h_worth_of : Okf K mg d_worth_of ["froms", "flow"] k p_worth_of) (h_weight_out : Okf K mg d_weight_out ["web", "side"] k p_weight_out)
    (pure : ∀ vs H Q, sp vs H Q → t_is_least_cut K p_ask_ends p_is_row p_is_side p_is_between p_is_flow p_worth_of p_weight_out { nx := fun _ H' => Q .non H', rt := Q } (start ["web", "froms", "tos", "paper"] vs) H) : Okf K mg d_is_least_cut ["web", "froms", "tos", "paper"] (k + 1) sp := by
  refine okf_of (d := d_is_least_cut) (N := ["web", "froms", "tos", "paper"]) (t_is_least_cut K p_ask_ends p_is_row p_is_side p_is_between p_is_flow p_worth_of p_weight_out) E.fd_is_least_cut sc_is_least_cut (fun _ _ _ _ _ _ us hl => match us, hl with | [_, _, _, _], _ => rfl) (fun P w base cdv A outer s H Ex hr => ?_) pure
  have nd := (sc_is_least_cut).nd
  exact (pss_cons (ps_expr (pe_f h_ask_ends hr rfl E.g_ask_ends (pa_cons (pv 0) (pa_cons (pv 1) (pa_cons (pv 2) pa_nil)))))
      (pss_cons (ps_if (PW.pt (pw_or (pt_not (pt_val (pe_f h_is_row hr rfl E.g_is_row (pa_cons (pv 3) pa_nil)) (by intro _; rfl))) (pw_or (pt_cmpR op_ne (pe_callB call_len_seq (by rfl) E.f_len PySem.boot_len (pa_cons (pv 3) pa_nil)) pe_int (nomark _)) (pw_or1 (pt_not (pt_val (pe_f h_is_side hr rfl E.g_is_side (pa_cons (pv 0) (pa_cons (pe_ix ix_list (pv 3) pe_int (fun _ _ => rfl)) pa_nil))) (by intro _; rfl))))))) (pss_one (ps_ret pe_bl)) pss_nil)
      (pss_cons (ps_if (PW.pt (pw_or (pt_not (pt_val (pe_f h_is_between hr rfl E.g_is_between (pa_cons (pv 1) (pa_cons (pv 2) (pa_cons (pe_ix ix_list (pv 3) pe_int (fun _ _ => rfl)) pa_nil)))) (by intro _; rfl))) (pw_or1 (pt_not (pt_val (pe_f h_is_flow hr rfl E.g_is_flow (pa_cons (pv 0) (pa_cons (pv 1) (pa_cons (pv 2) (pa_cons (pe_ix ix_list (pv 3) pe_int (fun _ _ => rfl)) pa_nil))))) (by intro _; rfl)))))) (pss_one (ps_ret pe_bl)) pss_nil)
      (pss_one (ps_ret (pe_cmpR (op_eqD hr.units) (pe_f h_worth_of hr rfl E.g_worth_of (pa_cons (pv 1) (pa_cons (pe_ix ix_list (pv 3) pe_int (fun _ _ => rfl)) pa_nil))) (pe_f h_weight_out hr rfl E.g_weight_out (pa_cons (pv 0) (pa_cons (pe_ix ix_list (pv 3) pe_int (fun _ _ => rfl)) pa_nil))) (nomark _)))))))
def t_first_bound (K : PySem.W.Frag) : TS := (tSeq (tAsg (tCB (rMax K) (tCons (tOp rCat (tLst (tCons (tC (.int 0)) tNil)) (tListVals (tFld K (tVar 0) "weights"))) tNil)) (gName 1))
  (tSeq (tAsg (tCB rIntQ (tCons (tOp rGt2 (tVar 1) (tC (.int 0))) tNil)) (gName 2))
  (tSeq (tWhile (tTest (tChain rLt rLe (tC (.int 0)) (tOp rTimes (tC (.int 2)) (tVar 2)) (tVar 1))) (tAsg (tOp rTimes (tC (.int 2)) (tVar 2)) (gName 2)))
  (tRet (tVar 2)))))
theorem sc_first_bound : FnScope ["rooms", "greatest", "bound"] ["rooms"] (defScope s_first_bound) := ⟨rfl, rfl, rfl, by decide +kernel, rfl, by decide +kernel, by decide +kernel⟩
theorem ok_first_bound {K : PySem.W.Frag} {mg : Str → Option Value} {k : Nat} {sp : Sp0} (E : En K mg)
    (pure : ∀ vs H Q, sp vs H Q → t_first_bound K { nx := fun _ H' => Q .non H', rt := Q } (start ["rooms", "greatest", "bound"] vs) H) : Okf K mg d_first_bound ["rooms"] (k + 1) sp := by
  refine okf_of (d := d_first_bound) (N := ["rooms", "greatest", "bound"]) (t_first_bound K ) E.fd_first_bound sc_first_bound (fun _ _ _ _ _ _ us hl => match us, hl with | [_], _ => rfl) (fun P w base cdv A outer s H Ex hr => ?_) pure
  have nd := (sc_first_bound).nd
  exact (pss_cons (ps_set (i := 1) nd rfl (Or.inl rfl) (pe_callB (cr_max rfl) (by rfl) E.f_max (by decide +kernel) (pa_cons (pe_op op_cat (pe_lst (pa_cons pe_int pa_nil)) (pe_listVals rfl (by rfl) E.f_list (pe_fld (pv 0) rfl))) pa_nil)))
      (pss_cons (ps_set (i := 2) nd rfl (Or.inl rfl) (pe_callTy call_int1 (by rfl) E.f_int (by decide +kernel) (pa_cons (pe_cmpR op_gt (pv 1) pe_int (nomark _)) pa_nil)))
      (pss_cons (ps_while PassesOwn.never (pt_chain op_lt op_le pe_int (pe_op op_mul pe_int (pv 2)) (pv 1)) (pss_one (ps_set (i := 2) nd rfl (Or.inl rfl) (pe_op op_mul pe_int (pv 2)))))
      (pss_one (ps_ret (pv 2))))))
def t_halved_flow (K : PySem.W.Frag) (p_are_ends p_Rooms_init p_first_bound p_filled p_Rooms_flow : Sp0) : TS := (tSeq (tIfS (tNot (tB (tF 3 p_are_ends (tCons (tVar 0) (tCons (tVar 1) (tCons (tVar 2) tNil)))))) tNever tNext)
  (tSeq (tAsg (tMk (He.ga K "Rooms") 2 p_Rooms_init (tCons (tVar 0) tNil)) (gName 3))
  (tSeq (tAsg (tF 1 p_first_bound (tCons (tVar 3) tNil)) (gName 4))
  (tSeq (tAsg (tC (.int 0)) (gName 5))
  (tSeq (tWhile (tTest (tOp rGt2 (tVar 4) (tC (.int 0)))) (tSeq (tAug 5 (tF 4 p_filled (tCons (tVar 3) (tCons (tVar 1) (tCons (tVar 2) (tCons (tVar 4) tNil))))) (ipI fun i j => i + j))
  (tAsg (tOp rFdiv (tVar 4) (tC (.int 2))) (gName 4))))
  (tRet (tTup (tCons (tM (He.ga K "Rooms") "flow" 1 p_Rooms_flow (tVar 3) tNil) (tCons (tVar 5) tNil)))))))))
theorem sc_halved_flow : FnScope ["web", "froms", "tos", "rooms", "bound", "ways"] ["web", "froms", "tos"] (defScope s_halved_flow) := ⟨rfl, rfl, rfl, by decide +kernel, rfl, by decide +kernel, by decide +kernel⟩
theorem ok_halved_flow {K : PySem.W.Frag} {mg : Str → Option Value} {k : Nat} {sp : Sp0} {p_are_ends p_Rooms_init p_first_bound p_filled p_Rooms_flow : Sp0} (E : En K mg) (h_are_ends : Okf K mg d_are_ends ["web", "froms", "tos"] (k + 1) p_are_ends) (h_Rooms_init : Okf K mg d_Rooms_init ["self", "web"] k p_Rooms_init) (h_first_bound : Okf K mg d_first_bound ["rooms"] (k + 1) p_first_bound) (h_filled : Okf K mg d_filled ["rooms", "froms", "tos", "least"] (k + 1) p_filled) (h_Rooms_flow : Okf K mg d_Rooms_flow ["self"] (k + 1) p_Rooms_flow)
    (pure : ∀ vs H Q, sp vs H Q → t_halved_flow K p_are_ends p_Rooms_init p_first_bound p_filled p_Rooms_flow { nx := fun _ H' => Q .non H', rt := Q } (start ["web", "froms", "tos", "rooms", "bound", "ways"] vs) H) : Okf K mg d_halved_flow ["web", "froms", "tos"] ((k + 1) + 1) sp := by
  refine okf_of (d := d_halved_flow) (N := ["web", "froms", "tos", "rooms", "bound", "ways"]) (t_halved_flow K p_are_ends p_Rooms_init p_first_bound p_filled p_Rooms_flow) E.fd_halved_flow sc_halved_flow (fun _ _ _ _ _ _ us hl => match us, hl with | [_, _, _], _ => rfl) (fun P w base cdv A outer s H Ex hr => ?_) pure
  have nd := (sc_halved_flow).nd
  exact (pss_cons (ps_if (pt_not (pt_val (pe_f h_are_ends hr rfl E.g_are_ends (pa_cons (pv 0) (pa_cons (pv 1) (pa_cons (pv 2) pa_nil)))) (by intro _; rfl))) (pss_one ps_never) pss_nil)
      (pss_cons (ps_set (i := 3) nd rfl (Or.inl rfl) (pe_mk E.mk_Rooms h_Rooms_init rfl hr rfl E.g_Rooms (pa_cons (pv 0) pa_nil)))
      (pss_cons (ps_set (i := 4) nd rfl (Or.inl rfl) (pe_f h_first_bound hr rfl E.g_first_bound (pa_cons (pv 3) pa_nil)))
      (pss_cons (ps_set (i := 5) nd rfl (Or.inl rfl) pe_int)
      (pss_cons (ps_while PassesOwn.never (pt_cmpR op_gt (pv 4) pe_int (nomark _)) (pss_cons (ps_aug (i := 5) nd rfl (Or.inl rfl) (pe_f h_filled hr rfl E.g_filled (pa_cons (pv 3) (pa_cons (pv 1) (pa_cons (pv 2) (pa_cons (pv 4) pa_nil))))) ip_add)
      (pss_one (ps_set (i := 4) nd rfl (Or.inl rfl) (pe_op op_fdivW (pv 4) pe_int)))))
      (pss_one (ps_ret (pe_tup (pa_cons (pe_m0 (pv 3) E.cls_Rooms E.m_Rooms_flow h_Rooms_flow rfl hr) (pa_cons (pv 5) pa_nil))))))))))
def t_Heights_init (K : PySem.W.Frag) (p_Heights_push p_Rooms_spare : Sp0) : TS := (tSeq (sFld K (tVar 0) (tVar 1) "rooms")
  (tSeq (sFld K (tVar 0) (tOp (rCatT K) (tCB (rTupQ K) (tCons (tVar 2) tNil)) (tCB (rTupQ K) (tCons (tVar 3) tNil))) "ends")
  (tSeq (sFld K (tVar 0) (tOp rRep (tLst (tCons (tC (.int 0)) tNil)) (tFld K (tVar 1) "size")) "heights")
  (tSeq (sFld K (tVar 0) (tOp rRep (tLst (tCons (tC (.int 0)) tNil)) (tFld K (tVar 1) "size")) "too_much")
  (tSeq (tFor (iTup K (tVar 2)) (gName 4) (tAsg (tFld K (tVar 1) "size") (gSub (tFld K (tVar 0) "heights") (tVar 4) rSetL)))
  (tFor (iTup K (tVar 2)) (gName 4) (tFor (iList K (tOp (rIxL K) (tFld K (tVar 1) "close") (tVar 4))) (gName 5) (tIfS (tTest (tOp (rIn K true) (tVar 5) (tVar 2))) (tDrop (tM (He.ga K "Heights") "push" 4 p_Heights_push (tVar 0) (tCons (tVar 4) (tCons (tVar 5) (tCons (tM (He.ga K "Rooms") "spare" 3 p_Rooms_spare (tVar 1) (tCons (tVar 4) (tCons (tVar 5) tNil))) tNil))))) tNext))))))))
theorem sc_Heights_init : FnScope ["self", "rooms", "froms", "tos", "place", "other"] ["self", "rooms", "froms", "tos"] (defScope s_Heights_init) := ⟨rfl, rfl, rfl, by decide +kernel, rfl, by decide +kernel, by decide +kernel⟩
theorem ok_Heights_init {K : PySem.W.Frag} {mg : Str → Option Value} {k : Nat} {sp : Sp0} {p_Heights_push p_Rooms_spare : Sp0} (E : En K mg) (h_Heights_push : Okf K mg d_Heights_push ["self", "place", "other", "number"] k p_Heights_push) (h_Rooms_spare : Okf K mg d_Rooms_spare ["self", "i", "j"] k p_Rooms_spare)
    (pure : ∀ vs H Q, sp vs H Q → t_Heights_init K p_Heights_push p_Rooms_spare { nx := fun _ H' => Q .non H', rt := Q } (start ["self", "rooms", "froms", "tos", "place", "other"] vs) H) : Okf K mg d_Heights_init ["self", "rooms", "froms", "tos"] (k + 1) sp := by
  refine okf_of (d := d_Heights_init) (N := ["self", "rooms", "froms", "tos", "place", "other"]) (t_Heights_init K p_Heights_push p_Rooms_spare) E.fd_Heights_init sc_Heights_init (fun _ _ _ _ _ _ us hl => match us, hl with | [_, _, _, _], _ => rfl) (fun P w base cdv A outer s H Ex hr => ?_) pure
  have nd := (sc_Heights_init).nd
  exact (pss_cons (ps_fld (pv 0) (pv 1) rfl)
      (pss_cons (ps_fld (pv 0) (pe_op op_catT (pe_callTy call_tuple_of (by rfl) E.f_tuple (by decide +kernel) (pa_cons (pv 2) pa_nil)) (pe_callTy call_tuple_of (by rfl) E.f_tuple (by decide +kernel) (pa_cons (pv 3) pa_nil))) rfl)
      (pss_cons (ps_fld (pv 0) (pe_op op_rep (pe_lst (pa_cons pe_int pa_nil)) (pe_fld (pv 1) rfl)) rfl)
      (pss_cons (ps_fld (pv 0) (pe_op op_rep (pe_lst (pa_cons pe_int pa_nil)) (pe_fld (pv 1) rfl)) rfl)
      (pss_cons (ps_for PassesOwn.never rfl (pi_tup (pv 2)) (pg_name (i := 4) nd rfl (Or.inl rfl)) (pss_one (ps_asg (pe_fld (pv 1) rfl) (pg_sub (pe_fld (pv 0) rfl) (pv 4) set_list))))
      (pss_one (ps_for PassesOwn.never rfl (pi_tup (pv 2)) (pg_name (i := 4) nd rfl (Or.inl rfl)) (pss_one (ps_for PassesOwn.never rfl (pi_list (pe_ix ix_list (pe_fld (pv 1) rfl) (pv 4) (fun _ _ => rfl))) (pg_name (i := 5) nd rfl (Or.inl rfl)) (pss_one (ps_if (pt_cmpR op_notIn_seq (pv 5) (pv 2) (by rfl)) (pss_one (ps_expr (pe_m (pv 0) E.cls_Heights E.m_Heights_push h_Heights_push rfl hr (pa_cons (pv 4) (pa_cons (pv 5) (pa_cons (pe_m (pv 1) E.cls_Rooms E.m_Rooms_spare h_Rooms_spare rfl hr (pa_cons (pv 4) (pa_cons (pv 5) pa_nil))) pa_nil)))))) pss_nil)))))))))))
def t_Heights_push (K : PySem.W.Frag) (p_Rooms_put : Sp0) : TS := (tSeq (tDrop (tM (He.ga K "Rooms") "put" 4 p_Rooms_put (tFld K (tVar 0) "rooms") (tCons (tVar 1) (tCons (tVar 2) (tCons (tVar 3) tNil)))))
  (tSeq (tAugS (tFld K (tVar 0) "too_much") (tVar 1) (tVar 3) (rIxL K) (ipI fun i j => i - j) rSetL)
  (tAugS (tFld K (tVar 0) "too_much") (tVar 2) (tVar 3) (rIxL K) (ipI fun i j => i + j) rSetL)))
theorem sc_Heights_push : FnScope ["self", "place", "other", "number"] ["self", "place", "other", "number"] (defScope s_Heights_push) := ⟨rfl, rfl, rfl, by decide +kernel, rfl, by decide +kernel, by decide +kernel⟩
theorem ok_Heights_push {K : PySem.W.Frag} {mg : Str → Option Value} {k : Nat} {sp : Sp0} {p_Rooms_put : Sp0} (E : En K mg) (h_Rooms_put : Okf K mg d_Rooms_put ["self", "i", "j", "number"] k p_Rooms_put)
    (pure : ∀ vs H Q, sp vs H Q → t_Heights_push K p_Rooms_put { nx := fun _ H' => Q .non H', rt := Q } (start ["self", "place", "other", "number"] vs) H) : Okf K mg d_Heights_push ["self", "place", "other", "number"] (k + 1) sp := by
  refine okf_of (d := d_Heights_push) (N := ["self", "place", "other", "number"]) (t_Heights_push K p_Rooms_put) E.fd_Heights_push sc_Heights_push (fun _ _ _ _ _ _ us hl => match us, hl with | [_, _, _, _], _ => rfl) (fun P w base cdv A outer s H Ex hr => ?_) pure
  have nd := (sc_Heights_push).nd
  exact (pss_cons (ps_expr (pe_m (pe_fld (pv 0) rfl) E.cls_Rooms E.m_Rooms_put h_Rooms_put rfl hr (pa_cons (pv 1) (pa_cons (pv 2) (pa_cons (pv 3) pa_nil)))))
      (pss_cons (ps_augS (pe_fld (pv 0) rfl) (pv 1) get_list (pv 3) ip_sub set_list)
      (pss_one (ps_augS (pe_fld (pv 0) rfl) (pv 2) get_list (pv 3) ip_add set_list))))
def t_Heights_lift (K : PySem.W.Frag) (p_Rooms_spare : Sp0) : TS := (tSeq (tAsg (tLc (iList K (tOp (rIxL K) (tFld K (tFld K (tVar 0) "rooms") "close") (tVar 1))) (gName 3) (tTest (tOp rGt2 (tM (He.ga K "Rooms") "spare" 3 p_Rooms_spare (tFld K (tVar 0) "rooms") (tCons (tVar 1) (tCons (tVar 3) tNil))) (tC (.int 0)))) (tVar 3) [3]) (gName 2))
  (tAsg (tOp rPlus (tC (.int 1)) (tCB (rMin K) (tCons (tLc (iList K (tVar 2)) (gName 3) tYes (tOp (rIxL K) (tFld K (tVar 0) "heights") (tVar 3)) [3]) tNil))) (gSub (tFld K (tVar 0) "heights") (tVar 1) rSetL)))
theorem sc_Heights_lift : FnScope ["self", "place", "lower", "other"] ["self", "place"] (defScope s_Heights_lift) := ⟨rfl, rfl, rfl, by decide +kernel, rfl, by decide +kernel, by decide +kernel⟩
theorem ok_Heights_lift {K : PySem.W.Frag} {mg : Str → Option Value} {k : Nat} {sp : Sp0} {p_Rooms_spare : Sp0} (E : En K mg) (h_Rooms_spare : Okf K mg d_Rooms_spare ["self", "i", "j"] k p_Rooms_spare)
    (pure : ∀ vs H Q, sp vs H Q → t_Heights_lift K p_Rooms_spare { nx := fun _ H' => Q .non H', rt := Q } (start ["self", "place", "lower", "other"] vs) H) : Okf K mg d_Heights_lift ["self", "place"] (k + 1) sp := by
  refine okf_of (d := d_Heights_lift) (N := ["self", "place", "lower", "other"]) (t_Heights_lift K p_Rooms_spare) E.fd_Heights_lift sc_Heights_lift (fun _ _ _ _ _ _ us hl => match us, hl with | [_, _], _ => rfl) (fun P w base cdv A outer s H Ex hr => ?_) pure
  have nd := (sc_Heights_lift).nd
  exact (pss_cons (ps_setLc (i := 2) (own := [("other", 3)]) rfl nd rfl rfl (sw_true rfl rfl rfl (by decide +kernel)) (pi_list (pe_ix ix_list (pe_fld (pe_fld (pv 0) rfl) rfl) (pv 1) (fun _ _ => rfl))) (blkOk_by (N := ["self", "place", "lower", "other"]) (sc := defScope s_Heights_lift) (by decide +kernel)) (fun _ _ _ _ _ => (pg_name (i := 3) nd rfl (Or.inl rfl))) (fun _ _ _ _ _ => (pts_one (pt_cmpR op_gt (pe_m (pe_fld (pv 0) rfl) E.cls_Rooms E.m_Rooms_spare h_Rooms_spare rfl hr (pa_cons (pv 1) (pa_cons (pv 3) pa_nil))) pe_int (nomark _)))) (fun _ _ _ _ _ => (pv 3)))
      (pss_one (ps_asg (pe_op op_add pe_int (pe_callB (cr_min rfl) (by rfl) E.f_min (by decide +kernel) (pa_cons (pe_lc (own := [("other", 3)]) rfl nd (pi_list (pv 2)) (blkOk_by (N := ["self", "place", "lower", "other"]) (sc := defScope s_Heights_lift) (by decide +kernel)) (fun _ _ _ _ _ => (pg_name (i := 3) nd rfl (Or.inl rfl))) (fun _ _ _ _ _ => pts_nil) (fun _ _ _ _ _ => (pe_ix ix_list (pe_fld (pv 0) rfl) (pv 3) (fun _ _ => rfl)))) pa_nil))) (pg_sub (pe_fld (pv 0) rfl) (pv 1) set_list))))
def t_Heights_clear (K : PySem.W.Frag) (p_Rooms_spare p_Heights_push p_Heights_lift : Sp0) : TS := (tWhile (tTest (tOp rGt2 (tOp (rIxL K) (tFld K (tVar 0) "too_much") (tVar 1)) (tC (.int 0)))) (tSeq (tFor (iList K (tOp (rIxL K) (tFld K (tFld K (tVar 0) "rooms") "close") (tVar 1))) (gName 2) (tSeq (tAsg (tM (He.ga K "Rooms") "spare" 3 p_Rooms_spare (tFld K (tVar 0) "rooms") (tCons (tVar 1) (tCons (tVar 2) tNil))) (gName 3))
  (tIfS (tAnd (tTest (tOp rGt2 (tVar 3) (tC (.int 0)))) (tTest (tOp rEq (tOp (rIxL K) (tFld K (tVar 0) "heights") (tVar 1)) (tOp rPlus (tOp (rIxL K) (tFld K (tVar 0) "heights") (tVar 2)) (tC (.int 1)))))) (tDrop (tM (He.ga K "Heights") "push" 4 p_Heights_push (tVar 0) (tCons (tVar 1) (tCons (tVar 2) (tCons (tCB rMin2 (tCons (tVar 3) (tCons (tOp (rIxL K) (tFld K (tVar 0) "too_much") (tVar 1)) tNil))) tNil))))) tNext)))
  (tIfS (tTest (tOp rGt2 (tOp (rIxL K) (tFld K (tVar 0) "too_much") (tVar 1)) (tC (.int 0)))) (tDrop (tM (He.ga K "Heights") "lift" 2 p_Heights_lift (tVar 0) (tCons (tVar 1) tNil))) tNext)))
theorem sc_Heights_clear : FnScope ["self", "place", "other", "room"] ["self", "place"] (defScope s_Heights_clear) := ⟨rfl, rfl, rfl, by decide +kernel, rfl, by decide +kernel, by decide +kernel⟩
theorem ok_Heights_clear {K : PySem.W.Frag} {mg : Str → Option Value} {k : Nat} {sp : Sp0} {p_Rooms_spare p_Heights_push p_Heights_lift : Sp0} (E : En K mg) (h_Rooms_spare : Okf K mg d_Rooms_spare ["self", "i", "j"] k p_Rooms_spare) (h_Heights_push : Okf K mg d_Heights_push ["self", "place", "other", "number"] k p_Heights_push) (h_Heights_lift : Okf K mg d_Heights_lift ["self", "place"] k p_Heights_lift)
    (pure : ∀ vs H Q, sp vs H Q → t_Heights_clear K p_Rooms_spare p_Heights_push p_Heights_lift { nx := fun _ H' => Q .non H', rt := Q } (start ["self", "place", "other", "room"] vs) H) : Okf K mg d_Heights_clear ["self", "place"] (k + 1) sp := by
  refine okf_of (d := d_Heights_clear) (N := ["self", "place", "other", "room"]) (t_Heights_clear K p_Rooms_spare p_Heights_push p_Heights_lift) E.fd_Heights_clear sc_Heights_clear (fun _ _ _ _ _ _ us hl => match us, hl with | [_, _], _ => rfl) (fun P w base cdv A outer s H Ex hr => ?_) pure
  have nd := (sc_Heights_clear).nd
  exact (pss_one (ps_while PassesOwn.never (pt_cmpR op_gt (pe_ix ix_list (pe_fld (pv 0) rfl) (pv 1) (fun _ _ => rfl)) pe_int (nomark _)) (pss_cons (ps_for PassesOwn.never rfl (pi_list (pe_ix ix_list (pe_fld (pe_fld (pv 0) rfl) rfl) (pv 1) (fun _ _ => rfl))) (pg_name (i := 2) nd rfl (Or.inl rfl)) (pss_cons (ps_set (i := 3) nd rfl (Or.inl rfl) (pe_m (pe_fld (pv 0) rfl) E.cls_Rooms E.m_Rooms_spare h_Rooms_spare rfl hr (pa_cons (pv 1) (pa_cons (pv 2) pa_nil))))
      (pss_one (ps_if (PW.pt (pw_and (pt_cmpR op_gt (pv 3) pe_int (nomark _)) (pw_and1 (pt_cmpR op_eq (pe_ix ix_list (pe_fld (pv 0) rfl) (pv 1) (fun _ _ => rfl)) (pe_op op_add (pe_ix ix_list (pe_fld (pv 0) rfl) (pv 2) (fun _ _ => rfl)) pe_int) (nomark _))))) (pss_one (ps_expr (pe_m (pv 0) E.cls_Heights E.m_Heights_push h_Heights_push rfl hr (pa_cons (pv 1) (pa_cons (pv 2) (pa_cons (pe_callB (call_min2 rfl) (by rfl) E.f_min (by decide +kernel) (pa_cons (pv 3) (pa_cons (pe_ix ix_list (pe_fld (pv 0) rfl) (pv 1) (fun _ _ => rfl)) pa_nil))) pa_nil)))))) pss_nil))))
      (pss_one (ps_if (pt_cmpR op_gt (pe_ix ix_list (pe_fld (pv 0) rfl) (pv 1) (fun _ _ => rfl)) pe_int (nomark _)) (pss_one (ps_expr (pe_m (pv 0) E.cls_Heights E.m_Heights_lift h_Heights_lift rfl hr (pa_cons (pv 1) pa_nil)))) pss_nil)))))
def t_Heights_waiting (K : PySem.W.Frag) : TS := (tSeq (tFor (iRng1 (tCons (tFld K (tFld K (tVar 0) "rooms") "size") tNil)) (gName 1) (tIfS (tAnd (tTest (tOp rGt2 (tOp (rIxL K) (tFld K (tVar 0) "too_much") (tVar 1)) (tC (.int 0)))) (tTest (tOp (rIn K true) (tVar 1) (tFld K (tVar 0) "ends")))) (tRet (tVar 1)) tNext))
  (tRet (tC .non)))
theorem sc_Heights_waiting : FnScope ["self", "place"] ["self"] (defScope s_Heights_waiting) := ⟨rfl, rfl, rfl, by decide +kernel, rfl, by decide +kernel, by decide +kernel⟩
theorem ok_Heights_waiting {K : PySem.W.Frag} {mg : Str → Option Value} {k : Nat} {sp : Sp0} (E : En K mg)
    (pure : ∀ vs H Q, sp vs H Q → t_Heights_waiting K { nx := fun _ H' => Q .non H', rt := Q } (start ["self", "place"] vs) H) : Okf K mg d_Heights_waiting ["self"] (k + 1) sp := by
  refine okf_of (d := d_Heights_waiting) (N := ["self", "place"]) (t_Heights_waiting K ) E.fd_Heights_waiting sc_Heights_waiting (fun _ _ _ _ _ _ us hl => match us, hl with | [_], _ => rfl) (fun P w base cdv A outer s H Ex hr => ?_) pure
  have nd := (sc_Heights_waiting).nd
  exact (pss_cons (ps_for PassesOwn.never rfl (pi_range1 (by rfl) E.f_range (pa_cons (pe_fld (pe_fld (pv 0) rfl) rfl) pa_nil)) (pg_name (i := 1) nd rfl (Or.inl rfl)) (pss_one (ps_if (PW.pt (pw_and (pt_cmpR op_gt (pe_ix ix_list (pe_fld (pv 0) rfl) (pv 1) (fun _ _ => rfl)) pe_int (nomark _)) (pw_and1 (pt_cmpR op_notIn_seq (pv 1) (pe_fld (pv 0) rfl) (by rfl))))) (pss_one (ps_ret (pv 1))) pss_nil)))
      (pss_one (ps_ret pe_non)))
def t_pushed_flow (K : PySem.W.Frag) (p_are_ends p_rooms_of p_Heights_init p_Heights_waiting p_Heights_clear p_Rooms_flow : Sp0) : TS := (tSeq (tIfS (tNot (tB (tF 3 p_are_ends (tCons (tVar 0) (tCons (tVar 1) (tCons (tVar 2) tNil)))))) tNever tNext)
  (tSeq (tAsg (tF 2 p_rooms_of (tCons (tVar 0) (tCons (tTup tNil) tNil))) (gName 3))
  (tSeq (tAsg (tMk (He.ga K "Heights") 4 p_Heights_init (tCons (tVar 3) (tCons (tVar 1) (tCons (tVar 2) tNil)))) (gName 4))
  (tSeq (tAsg (tM (He.ga K "Heights") "waiting" 1 p_Heights_waiting (tVar 4) tNil) (gName 5))
  (tSeq (tWhile (tTest (tOp rNotN (tVar 5) (tC .non))) (tSeq (tDrop (tM (He.ga K "Heights") "clear" 2 p_Heights_clear (tVar 4) (tCons (tVar 5) tNil)))
  (tAsg (tM (He.ga K "Heights") "waiting" 1 p_Heights_waiting (tVar 4) tNil) (gName 5))))
  (tRet (tM (He.ga K "Rooms") "flow" 1 p_Rooms_flow (tVar 3) tNil)))))))
theorem sc_pushed_flow : FnScope ["web", "froms", "tos", "rooms", "heights", "place"] ["web", "froms", "tos"] (defScope s_pushed_flow) := ⟨rfl, rfl, rfl, by decide +kernel, rfl, by decide +kernel, by decide +kernel⟩
theorem ok_pushed_flow {K : PySem.W.Frag} {mg : Str → Option Value} {k : Nat} {sp : Sp0} {p_are_ends p_rooms_of p_Heights_init p_Heights_waiting p_Heights_clear p_Rooms_flow : Sp0} (E : En K mg) (h_are_ends : Okf K mg d_are_ends ["web", "froms", "tos"] (k + 1) p_are_ends) (h_rooms_of : Okf K mg d_rooms_of ["web", "flow"] (k + 1) p_rooms_of) (h_Heights_init : Okf K mg d_Heights_init ["self", "rooms", "froms", "tos"] k p_Heights_init) (h_Heights_waiting : Okf K mg d_Heights_waiting ["self"] (k + 1) p_Heights_waiting) (h_Heights_clear : Okf K mg d_Heights_clear ["self", "place"] (k + 1) p_Heights_clear) (h_Rooms_flow : Okf K mg d_Rooms_flow ["self"] (k + 1) p_Rooms_flow)
    (pure : ∀ vs H Q, sp vs H Q → t_pushed_flow K p_are_ends p_rooms_of p_Heights_init p_Heights_waiting p_Heights_clear p_Rooms_flow { nx := fun _ H' => Q .non H', rt := Q } (start ["web", "froms", "tos", "rooms", "heights", "place"] vs) H) : Okf K mg d_pushed_flow ["web", "froms", "tos"] ((k + 1) + 1) sp := by
  refine okf_of (d := d_pushed_flow) (N := ["web", "froms", "tos", "rooms", "heights", "place"]) (t_pushed_flow K p_are_ends p_rooms_of p_Heights_init p_Heights_waiting p_Heights_clear p_Rooms_flow) E.fd_pushed_flow sc_pushed_flow (fun _ _ _ _ _ _ us hl => match us, hl with | [_, _, _], _ => rfl) (fun P w base cdv A outer s H Ex hr => ?_) pure
  have nd := (sc_pushed_flow).nd
  exact (pss_cons (ps_if (pt_not (pt_val (pe_f h_are_ends hr rfl E.g_are_ends (pa_cons (pv 0) (pa_cons (pv 1) (pa_cons (pv 2) pa_nil)))) (by intro _; rfl))) (pss_one ps_never) pss_nil)
      (pss_cons (ps_set (i := 3) nd rfl (Or.inl rfl) (pe_f h_rooms_of hr rfl E.g_rooms_of (pa_cons (pv 0) (pa_cons (pe_tup pa_nil) pa_nil))))
      (pss_cons (ps_set (i := 4) nd rfl (Or.inl rfl) (pe_mk E.mk_Heights h_Heights_init rfl hr rfl E.g_Heights (pa_cons (pv 3) (pa_cons (pv 1) (pa_cons (pv 2) pa_nil)))))
      (pss_cons (ps_set (i := 5) nd rfl (Or.inl rfl) (pe_m0 (pv 4) E.cls_Heights E.m_Heights_waiting h_Heights_waiting rfl hr))
      (pss_cons (ps_while PassesOwn.never (pt_cmpR op_notN1 (pv 5) pe_non (nomark _)) (pss_cons (ps_expr (pe_m (pv 4) E.cls_Heights E.m_Heights_clear h_Heights_clear rfl hr (pa_cons (pv 5) pa_nil)))
      (pss_one (ps_set (i := 5) nd rfl (Or.inl rfl) (pe_m0 (pv 4) E.cls_Heights E.m_Heights_waiting h_Heights_waiting rfl hr)))))
      (pss_one (ps_ret (pe_m0 (pv 3) E.cls_Rooms E.m_Rooms_flow h_Rooms_flow rfl hr))))))))
def t_Web_init (K : PySem.W.Frag) (p_is_whole p_wrong_tie p_weights_in p_put_weights : Sp0) : TS := (tSeq (tIfS (tNot (tB (tF 3 p_is_whole (tCons (tVar 1) (tCons (tC (.int 1)) (tCons (tC (.int 40)) tNil)))))) tNever tNext)
  (tSeq (tAsg (tF 2 p_wrong_tie (tCons (tVar 1) (tCons (tVar 2) tNil))) (gName 3))
  (tSeq (tIfS (tTest (tOp rNotN (tVar 3) (tC .non))) tNever tNext)
  (tSeq (sFld K (tVar 0) (tVar 1) "many")
  (tSeq (sFld K (tVar 0) tDNewT "weights")
  (tSeq (sFld K (tVar 0) (tTup tNil) "ties")
  (tDrop (tF 2 p_put_weights (tCons (tVar 0) (tCons (tF 1 p_weights_in (tCons (tVar 2) tNil)) tNil))))))))))
theorem sc_Web_init : FnScope ["self", "many", "ties", "at"] ["self", "many", "ties"] (defScope s_Web_init) := ⟨rfl, rfl, rfl, by decide +kernel, rfl, by decide +kernel, by decide +kernel⟩
theorem ok_Web_init {K : PySem.W.Frag} {mg : Str → Option Value} {k : Nat} {sp : Sp0} {p_is_whole p_wrong_tie p_weights_in p_put_weights : Sp0} (E : En K mg) (h_is_whole : Okf K mg d_is_whole ["thing", "least", "most"] k p_is_whole) (h_wrong_tie : Okf K mg d_wrong_tie ["many", "ties"] k p_wrong_tie) (h_weights_in : Okf K mg d_weights_in ["ties"] k p_weights_in) (h_put_weights : Okf K mg d_put_weights ["web", "weights"] k p_put_weights)
    (pure : ∀ vs H Q, sp vs H Q → t_Web_init K p_is_whole p_wrong_tie p_weights_in p_put_weights { nx := fun _ H' => Q .non H', rt := Q } (start ["self", "many", "ties", "at"] vs) H) : Okf K mg d_Web_init ["self", "many", "ties"] (k + 1) sp := by
  refine okf_of (d := d_Web_init) (N := ["self", "many", "ties", "at"]) (t_Web_init K p_is_whole p_wrong_tie p_weights_in p_put_weights) E.fd_Web_init sc_Web_init (fun _ _ _ _ _ _ us hl => match us, hl with | [_, _, _], _ => rfl) (fun P w base cdv A outer s H Ex hr => ?_) pure
  have nd := (sc_Web_init).nd
  exact (pss_cons (ps_if (pt_not (pt_val (pe_f h_is_whole hr rfl E.g_is_whole (pa_cons (pv 1) (pa_cons pe_int (pa_cons (pe_gi rfl E.i_MOST_PLACES) pa_nil)))) (by intro _; rfl))) (pss_one ps_never) pss_nil)
      (pss_cons (ps_set (i := 3) nd rfl (Or.inl rfl) (pe_f h_wrong_tie hr rfl E.g_wrong_tie (pa_cons (pv 1) (pa_cons (pv 2) pa_nil))))
      (pss_cons (ps_if (pt_cmpR op_notN1 (pv 3) pe_non (nomark _)) (pss_one ps_never) pss_nil)
      (pss_cons (ps_fld (pv 0) (pv 1) rfl)
      (pss_cons (ps_fld (pv 0) pe_dnewT rfl)
      (pss_cons (ps_fld (pv 0) (pe_tup pa_nil) rfl)
      (pss_one (ps_expr (pe_f h_put_weights hr rfl E.g_put_weights (pa_cons (pv 0) (pa_cons (pe_f h_weights_in hr rfl E.g_weights_in (pa_cons (pv 2) pa_nil)) pa_nil)))))))))))
def t_Web_tie (K : PySem.W.Frag) : TS := (tRet (tDGet2 (tFld K (tVar 0) "weights") (tTup (tCons (tCB rMin2 (tCons (tVar 1) (tCons (tVar 2) tNil))) (tCons (tCB rMax2 (tCons (tVar 1) (tCons (tVar 2) tNil))) tNil))) (tC (.ref (He.ga K "NOUGHT")))))
theorem sc_Web_tie : FnScope ["self", "i", "j"] ["self", "i", "j"] (defScope s_Web_tie) := ⟨rfl, rfl, rfl, by decide +kernel, rfl, by decide +kernel, by decide +kernel⟩
theorem ok_Web_tie {K : PySem.W.Frag} {mg : Str → Option Value} {k : Nat} {sp : Sp0} (E : En K mg)
    (pure : ∀ vs H Q, sp vs H Q → t_Web_tie K { nx := fun _ H' => Q .non H', rt := Q } (start ["self", "i", "j"] vs) H) : Okf K mg d_Web_tie ["self", "i", "j"] (k + 1) sp := by
  refine okf_of (d := d_Web_tie) (N := ["self", "i", "j"]) (t_Web_tie K ) E.fd_Web_tie sc_Web_tie (fun _ _ _ _ _ _ us hl => match us, hl with | [_, _, _], _ => rfl) (fun P w base cdv A outer s H Ex hr => ?_) pure
  have nd := (sc_Web_tie).nd
  exact (pss_one (ps_ret (pe_dget2 (hu_of hr) (pe_fld (pv 0) rfl) (pe_tup (pa_cons (pe_callB (call_min2 rfl) (by rfl) E.f_min (by decide +kernel) (pa_cons (pv 1) (pa_cons (pv 2) pa_nil))) (pa_cons (pe_callB (call_max2 rfl) (by rfl) E.f_max (by decide +kernel) (pa_cons (pv 1) (pa_cons (pv 2) pa_nil))) pa_nil))) (pe_glob rfl E.g_NOUGHT rfl) ⟨rfl, rfl, rfl, rfl⟩)))
def t_are_places (K : PySem.W.Frag) (p_is_whole : Sp0) : TS := (tRet (tAndV (tF 3 p_is_whole (tCons (tVar 1) (tCons (tC (.int 0)) (tCons (tOp rMinus (tVar 0) (tC (.int 1))) tNil)))) (tAndV (tF 3 p_is_whole (tCons (tVar 2) (tCons (tC (.int 0)) (tCons (tOp rMinus (tVar 0) (tC (.int 1))) tNil)))) (tOp rNe (tVar 1) (tVar 2)))))
theorem sc_are_places : FnScope ["many", "i", "j"] ["many", "i", "j"] (defScope s_are_places) := ⟨rfl, rfl, rfl, by decide +kernel, rfl, by decide +kernel, by decide +kernel⟩
theorem ok_are_places {K : PySem.W.Frag} {mg : Str → Option Value} {k : Nat} {sp : Sp0} {p_is_whole : Sp0} (E : En K mg) (h_is_whole : Okf K mg d_is_whole ["thing", "least", "most"] k p_is_whole)
    (pure : ∀ vs H Q, sp vs H Q → t_are_places K p_is_whole { nx := fun _ H' => Q .non H', rt := Q } (start ["many", "i", "j"] vs) H) : Okf K mg d_are_places ["many", "i", "j"] (k + 1) sp := by
  refine okf_of (d := d_are_places) (N := ["many", "i", "j"]) (t_are_places K p_is_whole) E.fd_are_places sc_are_places (fun _ _ _ _ _ _ us hl => match us, hl with | [_, _, _], _ => rfl) (fun P w base cdv A outer s H Ex hr => ?_) pure
  have nd := (sc_are_places).nd
  exact (pss_one (ps_ret (pe_and (pe_f h_is_whole hr rfl E.g_is_whole (pa_cons (pv 1) (pa_cons pe_int (pa_cons (pe_op op_sub (pv 0) pe_int) pa_nil)))) (pe_and (pe_f h_is_whole hr rfl E.g_is_whole (pa_cons (pv 2) (pa_cons pe_int (pa_cons (pe_op op_sub (pv 0) pe_int) pa_nil)))) (pe_one (pe_cmpR op_ne (pv 1) (pv 2) (nomark _)))))))
def t_is_tie (K : PySem.W.Frag) (p_is_row p_are_places p_is_weight : Sp0) : TS := (tSeq (tIfS (tOr (tNot (tB (tF 1 p_is_row (tCons (tVar 1) tNil)))) (tOr (tTest (tOp rNe (tCB (rLenQ K) (tCons (tVar 1) tNil)) (tC (.int 3)))) (tNot (tB (tF 3 p_are_places (tCons (tVar 0) (tCons (tOp (rIxS2 K) (tVar 1) (tC (.int 0))) (tCons (tOp (rIxS2 K) (tVar 1) (tC (.int 1))) tNil)))))))) (tRet (tC (.bl false))) tNext)
  (tRet (tAndV (tOp rLt (tOp (rIxS2 K) (tVar 1) (tC (.int 0))) (tOp (rIxS2 K) (tVar 1) (tC (.int 1)))) (tF 1 p_is_weight (tCons (tOp (rIxS2 K) (tVar 1) (tC (.int 2))) tNil)))))
theorem sc_is_tie : FnScope ["many", "thing"] ["many", "thing"] (defScope s_is_tie) := ⟨rfl, rfl, rfl, by decide +kernel, rfl, by decide +kernel, by decide +kernel⟩
theorem ok_is_tie {K : PySem.W.Frag} {mg : Str → Option Value} {k : Nat} {sp : Sp0} {p_is_row p_are_places p_is_weight : Sp0} (E : En K mg) (h_is_row : Okf K mg d_is_row ["thing"] k p_is_row) (h_are_places : Okf K mg d_are_places ["many", "i", "j"] k p_are_places) (h_is_weight : Okf K mg d_is_weight ["thing"] k p_is_weight)
    (pure : ∀ vs H Q, sp vs H Q → t_is_tie K p_is_row p_are_places p_is_weight { nx := fun _ H' => Q .non H', rt := Q } (start ["many", "thing"] vs) H) : Okf K mg d_is_tie ["many", "thing"] (k + 1) sp := by
  refine okf_of (d := d_is_tie) (N := ["many", "thing"]) (t_is_tie K p_is_row p_are_places p_is_weight) E.fd_is_tie sc_is_tie (fun _ _ _ _ _ _ us hl => match us, hl with | [_, _], _ => rfl) (fun P w base cdv A outer s H Ex hr => ?_) pure
  have nd := (sc_is_tie).nd
  exact (pss_cons (ps_if (PW.pt (pw_or (pt_not (pt_val (pe_f h_is_row hr rfl E.g_is_row (pa_cons (pv 1) pa_nil)) (by intro _; rfl))) (pw_or (pt_cmpR op_ne (pe_callB call_len_seq (by rfl) E.f_len PySem.boot_len (pa_cons (pv 1) pa_nil)) pe_int (nomark _)) (pw_or1 (pt_not (pt_val (pe_f h_are_places hr rfl E.g_are_places (pa_cons (pv 0) (pa_cons (pe_ix ix_seq2 (pv 1) pe_int (fun _ _ => rfl)) (pa_cons (pe_ix ix_seq2 (pv 1) pe_int (fun _ _ => rfl)) pa_nil)))) (by intro _; rfl))))))) (pss_one (ps_ret pe_bl)) pss_nil)
      (pss_one (ps_ret (pe_and (pe_cmpR op_lt (pe_ix ix_seq2 (pv 1) pe_int (fun _ _ => rfl)) (pe_ix ix_seq2 (pv 1) pe_int (fun _ _ => rfl)) (nomark _)) (pe_one (pe_f h_is_weight hr rfl E.g_is_weight (pa_cons (pe_ix ix_seq2 (pv 1) pe_int (fun _ _ => rfl)) pa_nil)))))))
def t_wrong_tie (K : PySem.W.Frag) (p_is_row p_is_tie : Sp0) : TS := (tSeq (tIfS (tNot (tB (tF 1 p_is_row (tCons (tVar 1) tNil)))) (tRet (tC (.int 0))) tNext)
  (tSeq (tAsg tDNewT (gName 2))
  (tSeq (tFor (iEnumS K (tCons (tVar 1) tNil)) (gTup K 2 (gCons (gName 3) (gCons (gName 4) gNil))) (tSeq (tIfS (tOr (tNot (tB (tF 2 p_is_tie (tCons (tVar 0) (tCons (tVar 4) tNil))))) (tB (tDIn (tTup (tCons (tOp (rIxS2 K) (tVar 4) (tC (.int 0))) (tCons (tOp (rIxS2 K) (tVar 4) (tC (.int 1))) tNil))) (tVar 2)))) (tRet (tVar 3)) tNext)
  (sDPut (tVar 2) (tTup (tCons (tOp (rIxS2 K) (tVar 4) (tC (.int 0))) (tCons (tOp (rIxS2 K) (tVar 4) (tC (.int 1))) tNil))) (tC (.bl true)))))
  (tRet (tC .non)))))
theorem sc_wrong_tie : FnScope ["many", "ties", "known", "at", "thing"] ["many", "ties"] (defScope s_wrong_tie) := ⟨rfl, rfl, rfl, by decide +kernel, rfl, by decide +kernel, by decide +kernel⟩
theorem ok_wrong_tie {K : PySem.W.Frag} {mg : Str → Option Value} {k : Nat} {sp : Sp0} {p_is_row p_is_tie : Sp0} (E : En K mg) (h_is_row : Okf K mg d_is_row ["thing"] k p_is_row) (h_is_tie : Okf K mg d_is_tie ["many", "thing"] k p_is_tie)
    (pure : ∀ vs H Q, sp vs H Q → t_wrong_tie K p_is_row p_is_tie { nx := fun _ H' => Q .non H', rt := Q } (start ["many", "ties", "known", "at", "thing"] vs) H) : Okf K mg d_wrong_tie ["many", "ties"] (k + 1) sp := by
  refine okf_of (d := d_wrong_tie) (N := ["many", "ties", "known", "at", "thing"]) (t_wrong_tie K p_is_row p_is_tie) E.fd_wrong_tie sc_wrong_tie (fun _ _ _ _ _ _ us hl => match us, hl with | [_, _], _ => rfl) (fun P w base cdv A outer s H Ex hr => ?_) pure
  have nd := (sc_wrong_tie).nd
  exact (pss_cons (ps_if (pt_not (pt_val (pe_f h_is_row hr rfl E.g_is_row (pa_cons (pv 1) pa_nil)) (by intro _; rfl))) (pss_one (ps_ret pe_int)) pss_nil)
      (pss_cons (ps_set (i := 2) nd rfl (Or.inl rfl) pe_dnewT)
      (pss_cons (ps_for PassesOwn.never rfl (pi_enumS (by rfl) E.f_enumerate (pa_cons (pv 1) pa_nil)) (pg_tup rfl (pgs_cons (pg_name (i := 3) nd rfl (Or.inl rfl)) (pgs_cons (pg_name (i := 4) nd rfl (Or.inl rfl)) pgs_nil))) (pss_cons (ps_if (PW.pt (pw_or (pt_not (pt_val (pe_f h_is_tie hr rfl E.g_is_tie (pa_cons (pv 0) (pa_cons (pv 4) pa_nil))) (by intro _; rfl))) (pw_or1 (pt_cmp (pc_din (hu_of hr) (pe_tup (pa_cons (pe_ix ix_seq2 (pv 4) pe_int (fun _ _ => rfl)) (pa_cons (pe_ix ix_seq2 (pv 4) pe_int (fun _ _ => rfl)) pa_nil))) (pv 2)) rfl)))) (pss_one (ps_ret (pv 3))) pss_nil)
      (pss_one (ps_dput (hu_of hr) (pv 2) (pe_tup (pa_cons (pe_ix ix_seq2 (pv 4) pe_int (fun _ _ => rfl)) (pa_cons (pe_ix ix_seq2 (pv 4) pe_int (fun _ _ => rfl)) pa_nil))) pe_bl rfl))))
      (pss_one (ps_ret pe_non)))))
def t_weights_in (K : PySem.W.Frag) (p_as_tuples : Sp0) : TS := (tRet (tCB (rDictPT K) (tCons (tLc (iSeq K (tVar 0)) (gSeq K 3 (gCons (gName 1) (gCons (gName 2) (gCons (gName 3) gNil)))) tYes (tTup (tCons (tTup (tCons (tVar 1) (tCons (tVar 2) tNil))) (tCons (tF 1 p_as_tuples (tCons (tVar 3) tNil)) tNil))) [1, 2, 3]) tNil)))
theorem sc_weights_in : FnScope ["ties", "i", "j", "weight"] ["ties"] (defScope s_weights_in) := ⟨rfl, rfl, rfl, by decide +kernel, rfl, by decide +kernel, by decide +kernel⟩
theorem ok_weights_in {K : PySem.W.Frag} {mg : Str → Option Value} {k : Nat} {sp : Sp0} {p_as_tuples : Sp0} (E : En K mg) (h_as_tuples : Okf K mg d_as_tuples ["thing"] k p_as_tuples)
    (pure : ∀ vs H Q, sp vs H Q → t_weights_in K p_as_tuples { nx := fun _ H' => Q .non H', rt := Q } (start ["ties", "i", "j", "weight"] vs) H) : Okf K mg d_weights_in ["ties"] (k + 1) sp := by
  refine okf_of (d := d_weights_in) (N := ["ties", "i", "j", "weight"]) (t_weights_in K p_as_tuples) E.fd_weights_in sc_weights_in (fun _ _ _ _ _ _ us hl => match us, hl with | [_], _ => rfl) (fun P w base cdv A outer s H Ex hr => ?_) pure
  have nd := (sc_weights_in).nd
  exact (pss_one (ps_ret (pe_callTy (call_dictPT rfl hr) (by rfl) E.f_dict (by decide +kernel) (pa_cons (pe_lc (own := [("i", 1), ("j", 2), ("weight", 3)]) rfl nd (pi_seq (pv 0)) (blkOk_by (N := ["ties", "i", "j", "weight"]) (sc := defScope s_weights_in) (by decide +kernel)) (fun _ _ _ _ _ => (pg_seq rfl (pgs_cons (pg_name (i := 1) nd rfl (Or.inl rfl)) (pgs_cons (pg_name (i := 2) nd rfl (Or.inl rfl)) (pgs_cons (pg_name (i := 3) nd rfl (Or.inl rfl)) pgs_nil))))) (fun _ _ _ _ _ => pts_nil) (fun _ _ _ _ _ => (pe_tup (pa_cons (pe_tup (pa_cons (pv 1) (pa_cons (pv 2) pa_nil))) (pa_cons (pe_f h_as_tuples hr rfl E.g_as_tuples (pa_cons (pv 3) pa_nil)) pa_nil))))) pa_nil))))
def t_put_weights (K : PySem.W.Frag) : TS := (tSeq (tAsg (tLc (iList K (tCB rSortedDT (tCons (tVar 1) tNil))) (gName 3) (tTest (tOp (rNeD K) (tDGet (tVar 1) (tVar 3)) (tC (.ref (He.ga K "NOUGHT"))))) (tTup (tCons (tVar 3) (tCons (tDGet (tVar 1) (tVar 3)) tNil))) [3]) (gName 2))
  (tSeq (sFld K (tVar 0) (tCB (rDictPT K) (tCons (tVar 2) tNil)) "weights")
  (sFld K (tVar 0) (tCB (rTupQ K) (tCons (tLc (iList K (tVar 2)) (gTup K 2 (gCons (gName 3) (gCons (gName 4) gNil))) tYes (tTup (tCons (tOp (rIxT K) (tVar 3) (tC (.int 0))) (tCons (tOp (rIxT K) (tVar 3) (tC (.int 1))) (tCons (tVar 4) tNil)))) [3, 4]) tNil)) "ties")))
theorem sc_put_weights : FnScope ["web", "weights", "told", "places", "weight"] ["web", "weights"] (defScope s_put_weights) := ⟨rfl, rfl, rfl, by decide +kernel, rfl, by decide +kernel, by decide +kernel⟩
theorem ok_put_weights {K : PySem.W.Frag} {mg : Str → Option Value} {k : Nat} {sp : Sp0} (E : En K mg)
    (pure : ∀ vs H Q, sp vs H Q → t_put_weights K { nx := fun _ H' => Q .non H', rt := Q } (start ["web", "weights", "told", "places", "weight"] vs) H) : Okf K mg d_put_weights ["web", "weights"] (k + 1) sp := by
  refine okf_of (d := d_put_weights) (N := ["web", "weights", "told", "places", "weight"]) (t_put_weights K ) E.fd_put_weights sc_put_weights (fun _ _ _ _ _ _ us hl => match us, hl with | [_, _], _ => rfl) (fun P w base cdv A outer s H Ex hr => ?_) pure
  have nd := (sc_put_weights).nd
  exact (pss_cons (ps_setLc (i := 2) (own := [("places", 3)]) rfl nd rfl rfl (sw_true rfl rfl rfl (by decide +kernel)) (pi_list (pe_callB (cr_sortedDT rfl) (by rfl) E.f_sorted (by decide +kernel) (pa_cons (pv 1) pa_nil))) (blkOk_by (N := ["web", "weights", "told", "places", "weight"]) (sc := defScope s_put_weights) (by decide +kernel)) (fun _ _ _ _ _ => (pg_name (i := 3) nd rfl (Or.inl rfl))) (fun _ _ _ _ _ => (pts_one (pt_cmpR (op_neD hr.units) (pe_dget (hu_of hr) (pv 1) (pv 3) (fun _ _ => rfl)) (pe_glob rfl E.g_NOUGHT rfl) (nomark _)))) (fun _ _ _ _ _ => (pe_tup (pa_cons (pv 3) (pa_cons (pe_dget (hu_of hr) (pv 1) (pv 3) (fun _ _ => rfl)) pa_nil)))))
      (pss_cons (ps_fld (pv 0) (pe_callTy (call_dictPT rfl hr) (by rfl) E.f_dict (by decide +kernel) (pa_cons (pv 2) pa_nil)) rfl)
      (pss_one (ps_fld (pv 0) (pe_callTy call_tuple_of (by rfl) E.f_tuple (by decide +kernel) (pa_cons (pe_lc (own := [("places", 3), ("weight", 4)]) rfl nd (pi_list (pv 2)) (blkOk_by (N := ["web", "weights", "told", "places", "weight"]) (sc := defScope s_put_weights) (by decide +kernel)) (fun _ _ _ _ _ => (pg_tup rfl (pgs_cons (pg_name (i := 3) nd rfl (Or.inl rfl)) (pgs_cons (pg_name (i := 4) nd rfl (Or.inl rfl)) pgs_nil)))) (fun _ _ _ _ _ => pts_nil) (fun _ _ _ _ _ => (pe_tup (pa_cons (pe_ix ix_tup (pv 3) pe_int (fun _ _ => rfl)) (pa_cons (pe_ix ix_tup (pv 3) pe_int (fun _ _ => rfl)) (pa_cons (pv 4) pa_nil)))))) pa_nil)) rfl))))
def t_law_cell (K : PySem.W.Frag) : TS := (tSeq (tIfS (tTest (tOp rLt (tVar 1) (tCB (rLenQ K) (tCons (tVar 0) tNil)))) (tRet (tOp (rIxL K) (tVar 0) (tVar 1))) tNext)
  (tSeq (tAsg (tOp rPlus (tC (.int 80021)) (tOp rTimes (tOp rTimes (tC (.int 941)) (tVar 1)) (tVar 1))) (gName 2))
  (tSeq (tIfS (tTest (tOp rGt2 (tCB (rLenQ K) (tCons (tVar 0) tNil)) (tC (.int 0)))) (tAsg (tOp rPlus (tVar 2) (tOp rTimes (tOp rModu (tOp (rIxL K) (tVar 0) (tC (.int 0))) (tC (.int 99991))) (tOp rPlus (tOp rTimes (tC (.int 2)) (tVar 1)) (tC (.int 5))))) (gName 2)) tNext)
  (tRet (tVar 2)))))
theorem sc_law_cell : FnScope ["_law_script", "_law_k", "_law_spare"] ["_law_script", "_law_k"] (defScope s_law_cell) := ⟨rfl, rfl, rfl, by decide +kernel, rfl, by decide +kernel, by decide +kernel⟩
theorem ok_law_cell {K : PySem.W.Frag} {mg : Str → Option Value} {k : Nat} {sp : Sp0} (E : En K mg)
    (pure : ∀ vs H Q, sp vs H Q → t_law_cell K { nx := fun _ H' => Q .non H', rt := Q } (start ["_law_script", "_law_k", "_law_spare"] vs) H) : Okf K mg d_law_cell ["_law_script", "_law_k"] (k + 1) sp := by
  refine okf_of (d := d_law_cell) (N := ["_law_script", "_law_k", "_law_spare"]) (t_law_cell K ) E.fd_law_cell sc_law_cell (fun _ _ _ _ _ _ us hl => match us, hl with | [_, _], _ => rfl) (fun P w base cdv A outer s H Ex hr => ?_) pure
  have nd := (sc_law_cell).nd
  exact (pss_cons (ps_if (pt_cmpR op_lt (pv 1) (pe_callB call_len_seq (by rfl) E.f_len PySem.boot_len (pa_cons (pv 0) pa_nil)) (nomark _)) (pss_one (ps_ret (pe_ix ix_list (pv 0) (pv 1) (fun _ _ => rfl)))) pss_nil)
      (pss_cons (ps_set (i := 2) nd rfl (Or.inl rfl) (pe_op op_add pe_int (pe_op op_mul (pe_op op_mul pe_int (pv 1)) (pv 1))))
      (pss_cons (ps_if (pt_cmpR op_gt (pe_callB call_len_seq (by rfl) E.f_len PySem.boot_len (pa_cons (pv 0) pa_nil)) pe_int (nomark _)) (pss_one (ps_set (i := 2) nd rfl (Or.inl rfl) (pe_op op_add (pv 2) (pe_op op_mul (pe_op op_mod (pe_ix ix_list (pv 0) pe_int (fun _ _ => rfl)) pe_int) (pe_op op_add (pe_op op_mul pe_int (pv 1)) pe_int))))) pss_nil)
      (pss_one (ps_ret (pv 2))))))
def t_law_draws (K : PySem.W.Frag) (p_law_cell : Sp0) : TS := (tSeq (tAsg (tLst tNil) (gName 3))
  (tSeq (tAsg (tCB rMax2 (tCons (tC (.int 0)) (tCons (tF 2 p_law_cell (tCons (tVar 0) (tCons (tVar 1) tNil))) tNil))) (gName 4))
  (tSeq (tIfS (tTest (tOp rGe2 (tVar 4) (tOp rPow (tC (.int 10)) (tC (.int 18))))) (tSeq (tFor (iRng1 (tCons (tVar 2) tNil)) (gName 5) (tSeq (tDrop (tBM K "list" rAppend (tVar 3) (tCons (tOp rModu (tVar 4) (tC (.int 10000))) tNil)))
  (tAsg (tOp rFdiv (tVar 4) (tC (.int 10000))) (gName 4))))
  (tSeq (tIfS (tTest (tOp rEq (tCB (rSum K) (tCons (tSl (rSlL K) (tVar 3) (tPart (tOp rFdiv (tVar 2) (tC (.int 2)))) tNoPart) tNil)) (tC (.int 0)))) (tDrop (tBM0 K "list" rReverse (tVar 3))) tNext)
  (tRet (tVar 3)))) tNext)
  (tSeq (tAsg (tOp rModu (tOp rTimes (tOp rModu (tVar 4) (tC (.int 2147483647))) (tC (.int 48271))) (tC (.int 2147483647))) (gName 6))
  (tSeq (tFor (iRng1 (tCons (tVar 2) tNil)) (gName 5) (tSeq (tAsg (tOp rModu (tOp rPlus (tOp rPlus (tOp rPlus (tOp rTimes (tVar 6) (tC (.int 48271))) (tF 2 p_law_cell (tCons (tVar 0) (tCons (tOp rPlus (tOp rPlus (tVar 1) (tC (.int 1))) (tOp rModu (tVar 5) (tC (.int 30)))) tNil)))) (tOp rTimes (tVar 5) (tVar 5))) (tC (.int 7))) (tC (.int 2147483629))) (gName 6))
  (tDrop (tBM K "list" rAppend (tVar 3) (tCons (tOp rFdiv (tOp rModu (tOp rPlus (tOp rTimes (tVar 6) (tC (.int 39373))) (tOp rTimes (tC (.int 11)) (tVar 5))) (tC (.int 2147483647))) (tC (.int 16))) tNil)))))
  (tRet (tVar 3)))))))
theorem sc_law_draws : FnScope ["_law_script", "_law_at", "_law_many", "_law_found", "_law_left", "_law_k", "_law_draw"] ["_law_script", "_law_at", "_law_many"] (defScope s_law_draws) := ⟨rfl, rfl, rfl, by decide +kernel, rfl, by decide +kernel, by decide +kernel⟩
theorem ok_law_draws {K : PySem.W.Frag} {mg : Str → Option Value} {k : Nat} {sp : Sp0} {p_law_cell : Sp0} (E : En K mg) (h_law_cell : Okf K mg d_law_cell ["_law_script", "_law_k"] k p_law_cell)
    (pure : ∀ vs H Q, sp vs H Q → t_law_draws K p_law_cell { nx := fun _ H' => Q .non H', rt := Q } (start ["_law_script", "_law_at", "_law_many", "_law_found", "_law_left", "_law_k", "_law_draw"] vs) H) : Okf K mg d_law_draws ["_law_script", "_law_at", "_law_many"] (k + 1) sp := by
  refine okf_of (d := d_law_draws) (N := ["_law_script", "_law_at", "_law_many", "_law_found", "_law_left", "_law_k", "_law_draw"]) (t_law_draws K p_law_cell) E.fd_law_draws sc_law_draws (fun _ _ _ _ _ _ us hl => match us, hl with | [_, _, _], _ => rfl) (fun P w base cdv A outer s H Ex hr => ?_) pure
  have nd := (sc_law_draws).nd
  exact (pss_cons (ps_set (i := 3) nd rfl (Or.inl rfl) (pe_lst pa_nil))
      (pss_cons (ps_set (i := 4) nd rfl (Or.inl rfl) (pe_callB (call_max2 rfl) (by rfl) E.f_max (by decide +kernel) (pa_cons pe_int (pa_cons (pe_f h_law_cell hr rfl E.g_law_cell (pa_cons (pv 0) (pa_cons (pv 1) pa_nil))) pa_nil))))
      (pss_cons (ps_if (pt_cmpR op_ge (pv 4) (pe_op op_pow pe_int pe_int) (nomark _)) (pss_cons (ps_for PassesOwn.never rfl (pi_range1 (by rfl) E.f_range (pa_cons (pv 2) pa_nil)) (pg_name (i := 5) nd rfl (Or.inl rfl)) (pss_cons (ps_expr (pe_bm PySem.F.plainAttrs_list PySem.F.slot_list_append PySem.F.type_list_append mt_append (pv 3) (pa_cons (pe_op op_mod (pv 4) pe_int) pa_nil)))
      (pss_one (ps_set (i := 4) nd rfl (Or.inl rfl) (pe_op op_fdivW (pv 4) pe_int)))))
      (pss_cons (ps_if (pt_cmpR op_eq (pe_callB (cr_sum rfl) (by rfl) E.f_sum (by decide +kernel) (pa_cons (pe_slice sl_list (pv 3) (po_some (pe_op op_fdivW (pv 2) pe_int)) po_none) pa_nil)) pe_int (nomark _)) (pss_one (ps_expr (pe_bm0 PySem.F.plainAttrs_list PySem.F.slot_list_reverse PySem.F.type_list_reverse mt_reverse (pv 3)))) pss_nil)
      (pss_one (ps_ret (pv 3))))) pss_nil)
      (pss_cons (ps_set (i := 6) nd rfl (Or.inl rfl) (pe_op op_mod (pe_op op_mul (pe_op op_mod (pv 4) pe_int) pe_int) pe_int))
      (pss_cons (ps_for PassesOwn.never rfl (pi_range1 (by rfl) E.f_range (pa_cons (pv 2) pa_nil)) (pg_name (i := 5) nd rfl (Or.inl rfl)) (pss_cons (ps_set (i := 6) nd rfl (Or.inl rfl) (pe_op op_mod (pe_op op_add (pe_op op_add (pe_op op_add (pe_op op_mul (pv 6) pe_int) (pe_f h_law_cell hr rfl E.g_law_cell (pa_cons (pv 0) (pa_cons (pe_op op_add (pe_op op_add (pv 1) pe_int) (pe_op op_mod (pv 5) pe_int)) pa_nil)))) (pe_op op_mul (pv 5) (pv 5))) pe_int) pe_int))
      (pss_one (ps_expr (pe_bm PySem.F.plainAttrs_list PySem.F.slot_list_append PySem.F.type_list_append mt_append (pv 3) (pa_cons (pe_op op_fdivW (pe_op op_mod (pe_op op_add (pe_op op_mul (pv 6) pe_int) (pe_op op_mul pe_int (pv 5))) pe_int) pe_int) pa_nil))))))
      (pss_one (ps_ret (pv 3))))))))
def t_law_next (K : PySem.W.Frag) : TS := (tSeq (tIfS (tTest (tOp rGt2 (tCB (rLenQ K) (tCons (tVar 0) tNil)) (tC (.int 0)))) (tRet (tBM0 K "list" rPop (tVar 0))) tNext)
  (tRet (tC (.int 0))))
theorem sc_law_next : FnScope ["_law_draws_here"] ["_law_draws_here"] (defScope s_law_next) := ⟨rfl, rfl, rfl, by decide +kernel, rfl, by decide +kernel, by decide +kernel⟩
theorem ok_law_next {K : PySem.W.Frag} {mg : Str → Option Value} {k : Nat} {sp : Sp0} (E : En K mg)
    (pure : ∀ vs H Q, sp vs H Q → t_law_next K { nx := fun _ H' => Q .non H', rt := Q } (start ["_law_draws_here"] vs) H) : Okf K mg d_law_next ["_law_draws_here"] (k + 1) sp := by
  refine okf_of (d := d_law_next) (N := ["_law_draws_here"]) (t_law_next K ) E.fd_law_next sc_law_next (fun _ _ _ _ _ _ us hl => match us, hl with | [_], _ => rfl) (fun P w base cdv A outer s H Ex hr => ?_) pure
  have nd := (sc_law_next).nd
  exact (pss_cons (ps_if (pt_cmpR op_gt (pe_callB call_len_seq (by rfl) E.f_len PySem.boot_len (pa_cons (pv 0) pa_nil)) pe_int (nomark _)) (pss_one (ps_ret (pe_bm0 PySem.F.plainAttrs_list PySem.F.slot_list_pop PySem.F.type_list_pop mt_pop (pv 0)))) pss_nil)
      (pss_one (ps_ret pe_int)))
def t_law_weight (K : PySem.W.Frag) (p_law_next : Sp0) : TS := (tSeq (tAsg (tF 1 p_law_next (tCons (tVar 0) tNil)) (gName 1))
  (tSeq (tIfS (tTest (tOp rEq (tOp rModu (tVar 1) (tC (.int 30))) (tC (.int 0)))) (tRet (tOp (rIxL K) (tLst (tCons (tTup (tCons (tC (.int 1000000000000)) (tCons (tC (.int 1)) tNil))) (tCons (tTup (tCons (tC (.int 1)) (tCons (tC (.int 55440)) tNil))) (tCons (tTup (tCons (tC (.int 999999999989)) (tCons (tC (.int 55440)) tNil))) (tCons (tTup (tCons (tC (.int 5)) (tCons (tC (.int 7)) tNil))) tNil))))) (tOp rModu (tOp rFdiv (tVar 1) (tC (.int 30))) (tC (.int 4))))) tNext)
  (tRet (tOp (rIxL K) (tLst (tCons (tTup (tCons (tC (.int 1)) (tCons (tC (.int 1)) tNil))) (tCons (tTup (tCons (tC (.int 1)) (tCons (tC (.int 1)) tNil))) (tCons (tTup (tCons (tC (.int 2)) (tCons (tC (.int 1)) tNil))) (tCons (tTup (tCons (tC (.int 1)) (tCons (tC (.int 2)) tNil))) (tCons (tTup (tCons (tC (.int 3)) (tCons (tC (.int 4)) tNil))) (tCons (tTup (tCons (tC (.int 0)) (tCons (tC (.int 1)) tNil))) (tCons (tTup (tCons (tC (.int 1)) (tCons (tC (.int 1)) tNil))) (tCons (tTup (tCons (tC (.int 3)) (tCons (tC (.int 1)) tNil))) tNil))))))))) (tOp rModu (tOp rFdiv (tVar 1) (tC (.int 30))) (tC (.int 8)))))))
theorem sc_law_weight : FnScope ["_law_draws_here", "_law_draw"] ["_law_draws_here"] (defScope s_law_weight) := ⟨rfl, rfl, rfl, by decide +kernel, rfl, by decide +kernel, by decide +kernel⟩
theorem ok_law_weight {K : PySem.W.Frag} {mg : Str → Option Value} {k : Nat} {sp : Sp0} {p_law_next : Sp0} (E : En K mg) (h_law_next : Okf K mg d_law_next ["_law_draws_here"] k p_law_next)
    (pure : ∀ vs H Q, sp vs H Q → t_law_weight K p_law_next { nx := fun _ H' => Q .non H', rt := Q } (start ["_law_draws_here", "_law_draw"] vs) H) : Okf K mg d_law_weight ["_law_draws_here"] (k + 1) sp := by
  refine okf_of (d := d_law_weight) (N := ["_law_draws_here", "_law_draw"]) (t_law_weight K p_law_next) E.fd_law_weight sc_law_weight (fun _ _ _ _ _ _ us hl => match us, hl with | [_], _ => rfl) (fun P w base cdv A outer s H Ex hr => ?_) pure
  have nd := (sc_law_weight).nd
  exact (pss_cons (ps_set (i := 1) nd rfl (Or.inl rfl) (pe_f h_law_next hr rfl E.g_law_next (pa_cons (pv 0) pa_nil)))
      (pss_cons (ps_if (pt_cmpR op_eq (pe_op op_mod (pv 1) pe_int) pe_int (nomark _)) (pss_one (ps_ret (pe_ix ix_list (pe_lst (pa_cons (pe_tup (pa_cons pe_int (pa_cons pe_int pa_nil))) (pa_cons (pe_tup (pa_cons pe_int (pa_cons pe_int pa_nil))) (pa_cons (pe_tup (pa_cons pe_int (pa_cons pe_int pa_nil))) (pa_cons (pe_tup (pa_cons pe_int (pa_cons pe_int pa_nil))) pa_nil))))) (pe_op op_mod (pe_op op_fdivW (pv 1) pe_int) pe_int) (fun _ _ => rfl)))) pss_nil)
      (pss_one (ps_ret (pe_ix ix_list (pe_lst (pa_cons (pe_tup (pa_cons pe_int (pa_cons pe_int pa_nil))) (pa_cons (pe_tup (pa_cons pe_int (pa_cons pe_int pa_nil))) (pa_cons (pe_tup (pa_cons pe_int (pa_cons pe_int pa_nil))) (pa_cons (pe_tup (pa_cons pe_int (pa_cons pe_int pa_nil))) (pa_cons (pe_tup (pa_cons pe_int (pa_cons pe_int pa_nil))) (pa_cons (pe_tup (pa_cons pe_int (pa_cons pe_int pa_nil))) (pa_cons (pe_tup (pa_cons pe_int (pa_cons pe_int pa_nil))) (pa_cons (pe_tup (pa_cons pe_int (pa_cons pe_int pa_nil))) pa_nil))))))))) (pe_op op_mod (pe_op op_fdivW (pv 1) pe_int) pe_int) (fun _ _ => rfl))))))
def t_law_order (K : PySem.W.Frag) (p_law_next : Sp0) : TS := (tSeq (tAsg (tLstRg (tRg1 (tVar 1))) (gName 2))
  (tRet (tLc (iRng1 (tCons (tVar 1) tNil)) (gName 3) tYes (tBM K "list" rPopAt (tVar 2) (tCons (tOp rModu (tF 1 p_law_next (tCons (tVar 0) tNil)) (tCB (rLenQ K) (tCons (tVar 2) tNil))) tNil)) [3])))
theorem sc_law_order : FnScope ["_law_draws_here", "_law_many", "_law_left", "_law_turn"] ["_law_draws_here", "_law_many"] (defScope s_law_order) := ⟨rfl, rfl, rfl, by decide +kernel, rfl, by decide +kernel, by decide +kernel⟩
theorem ok_law_order {K : PySem.W.Frag} {mg : Str → Option Value} {k : Nat} {sp : Sp0} {p_law_next : Sp0} (E : En K mg) (h_law_next : Okf K mg d_law_next ["_law_draws_here"] k p_law_next)
    (pure : ∀ vs H Q, sp vs H Q → t_law_order K p_law_next { nx := fun _ H' => Q .non H', rt := Q } (start ["_law_draws_here", "_law_many", "_law_left", "_law_turn"] vs) H) : Okf K mg d_law_order ["_law_draws_here", "_law_many"] (k + 1) sp := by
  refine okf_of (d := d_law_order) (N := ["_law_draws_here", "_law_many", "_law_left", "_law_turn"]) (t_law_order K p_law_next) E.fd_law_order sc_law_order (fun _ _ _ _ _ _ us hl => match us, hl with | [_, _], _ => rfl) (fun P w base cdv A outer s H Ex hr => ?_) pure
  have nd := (sc_law_order).nd
  exact (pss_cons (ps_set (i := 2) nd rfl (Or.inr rfl) (pe_listRg rfl (by rfl) E.f_list (prg_1 (by rfl) E.f_range (pv 1))))
      (pss_one (ps_ret (pe_lc (own := [("_law_turn", 3)]) rfl nd (pi_range1 (by rfl) E.f_range (pa_cons (pv 1) pa_nil)) (blkOk_by (N := ["_law_draws_here", "_law_many", "_law_left", "_law_turn"]) (sc := defScope s_law_order) (by decide +kernel)) (fun _ _ _ _ _ => (pg_name (i := 3) nd rfl (Or.inl rfl))) (fun _ _ _ _ _ => pts_nil) (fun _ _ _ _ _ => (pe_bm PySem.F.plainAttrs_list PySem.F.slot_list_pop PySem.F.type_list_pop mt_popAt (pv 2) (pa_cons (pe_op op_mod (pe_f h_law_next hr rfl E.g_law_next (pa_cons (pv 0) pa_nil)) (pe_callB call_len_seq (by rfl) E.f_len PySem.boot_len (pa_cons (pv 2) pa_nil))) pa_nil)))))))
def t_law_pairs (K : PySem.W.Frag) (p_law_next : Sp0) : TS := (tSeq (tAsg (tOp rModu (tF 1 p_law_next (tCons (tVar 0) tNil)) (tC (.int 8))) (gName 2))
  (tSeq (tAsg (tOp rPlus (tC (.int 1)) (tOp rFdiv (tVar 1) (tC (.int 2)))) (gName 3))
  (tSeq (tIfS (tTest (tOp rEq (tVar 2) (tC (.int 0)))) (tRet (tLc (iRng1 (tCons (tVar 1) tNil)) (gName 8) tYes (tTup (tCons (tVar 8) (tCons (tOp rModu (tOp rPlus (tVar 8) (tC (.int 1))) (tVar 1)) tNil))) [8])) tNext)
  (tSeq (tIfS (tTest (tOp rEq (tVar 2) (tC (.int 1)))) (tRet (tOp rCat (tLc (iRng1 (tCons (tVar 1) tNil)) (gName 8) tYes (tTup (tCons (tVar 8) (tCons (tOp (rIxL K) (tLst (tCons (tOp rPlus (tVar 8) (tC (.int 1))) (tCons (tC (.int 0)) tNil))) (tCB rIntQ (tCons (tOrV (tOp rEq (tVar 8) (tOp rMinus (tVar 3) (tC (.int 1)))) (tOp rEq (tVar 8) (tOp rMinus (tVar 1) (tC (.int 1))))) tNil))) tNil))) [8]) (tLst (tCons (tTup (tCons (tC (.int 0)) (tCons (tOp rModu (tVar 3) (tVar 1)) tNil))) tNil)))) tNext)
  (tSeq (tIfS (tTest (tOp rEq (tVar 2) (tC (.int 2)))) (tRet (tLc (iRng2 (tCons (tC (.int 1)) (tCons (tVar 1) tNil))) (gName 8) tYes (tTup (tCons (tC (.int 0)) (tCons (tVar 8) tNil))) [8])) tNext)
  (tSeq (tIfS (tTest (tOp rEq (tVar 2) (tC (.int 3)))) (tRet (tOp rCat (tLc (iRng2 (tCons (tC (.int 1)) (tCons (tVar 1) tNil))) (gName 8) tYes (tTup (tCons (tOp rFdiv (tVar 8) (tC (.int 2))) (tCons (tVar 8) tNil))) [8]) (tLst (tCons (tTup (tCons (tC (.int 0)) (tCons (tOp rMinus (tVar 1) (tC (.int 1))) tNil))) tNil)))) tNext)
  (tSeq (tIfS (tTest (tOp rEq (tVar 2) (tC (.int 4)))) (tRet (tOp rCat (tLc (iRng1 (tCons (tOp rMinus (tVar 1) (tC (.int 2))) tNil)) (gName 8) tYes (tTup (tCons (tVar 8) (tCons (tOp rPlus (tVar 8) (tC (.int 2))) tNil))) [8]) (tLc (iRng1 (tCons (tOp rFdiv (tVar 1) (tC (.int 2))) tNil)) (gName 8) tYes (tTup (tCons (tOp rTimes (tC (.int 2)) (tVar 8)) (tCons (tOp rPlus (tOp rTimes (tC (.int 2)) (tVar 8)) (tC (.int 1))) tNil))) [8]))) tNext)
  (tSeq (tAsg (tLst tNil) (gName 4))
  (tSeq (tFor (iRng1 (tCons (tVar 1) tNil)) (gName 5) (tFor (iRng2 (tCons (tOp rPlus (tVar 5) (tC (.int 1))) (tCons (tVar 1) tNil))) (gName 6) (tSeq (tAsg (tF 1 p_law_next (tCons (tVar 0) tNil)) (gName 7))
  (tIfS (tOr (tAnd (tTest (tOp rEq (tVar 2) (tC (.int 5)))) (tTest (tOp rEq (tOp rLt (tVar 5) (tVar 3)) (tOp rLt (tVar 6) (tVar 3))))) (tOr (tAnd (tTest (tOp rEq (tVar 2) (tC (.int 6)))) (tTest (tOp rEq (tOp rModu (tOp rPlus (tVar 5) (tVar 6)) (tC (.int 2))) (tC (.int 0))))) (tTest (tOp rEq (tOp rModu (tVar 7) (tC (.int 3))) (tC (.int 0)))))) (tDrop (tBM K "list" rAppend (tVar 4) (tCons (tTup (tCons (tVar 5) (tCons (tVar 6) tNil))) tNil))) tNext))))
  (tRet (tVar 4)))))))))))
theorem sc_law_pairs : FnScope ["_law_draws_here", "_law_many", "_law_kind", "_law_middle", "_law_found", "_law_i", "_law_j", "_law_draw", "_law_k"] ["_law_draws_here", "_law_many"] (defScope s_law_pairs) := ⟨rfl, rfl, rfl, by decide +kernel, rfl, by decide +kernel, by decide +kernel⟩
theorem ok_law_pairs {K : PySem.W.Frag} {mg : Str → Option Value} {k : Nat} {sp : Sp0} {p_law_next : Sp0} (E : En K mg) (h_law_next : Okf K mg d_law_next ["_law_draws_here"] k p_law_next)
    (pure : ∀ vs H Q, sp vs H Q → t_law_pairs K p_law_next { nx := fun _ H' => Q .non H', rt := Q } (start ["_law_draws_here", "_law_many", "_law_kind", "_law_middle", "_law_found", "_law_i", "_law_j", "_law_draw", "_law_k"] vs) H) : Okf K mg d_law_pairs ["_law_draws_here", "_law_many"] (k + 1) sp := by
  refine okf_of (d := d_law_pairs) (N := ["_law_draws_here", "_law_many", "_law_kind", "_law_middle", "_law_found", "_law_i", "_law_j", "_law_draw", "_law_k"]) (t_law_pairs K p_law_next) E.fd_law_pairs sc_law_pairs (fun _ _ _ _ _ _ us hl => match us, hl with | [_, _], _ => rfl) (fun P w base cdv A outer s H Ex hr => ?_) pure
  have nd := (sc_law_pairs).nd
  exact (pss_cons (ps_set (i := 2) nd rfl (Or.inl rfl) (pe_op op_mod (pe_f h_law_next hr rfl E.g_law_next (pa_cons (pv 0) pa_nil)) pe_int))
      (pss_cons (ps_set (i := 3) nd rfl (Or.inr rfl) (pe_op op_add pe_int (pe_op op_fdivW (pv 1) pe_int)))
      (pss_cons (ps_if (pt_cmpR op_eq (pv 2) pe_int (nomark _)) (pss_one (ps_ret (pe_lc (own := [("_law_k", 8)]) rfl nd (pi_range1 (by rfl) E.f_range (pa_cons (pv 1) pa_nil)) (blkOk_by (N := ["_law_draws_here", "_law_many", "_law_kind", "_law_middle", "_law_found", "_law_i", "_law_j", "_law_draw", "_law_k"]) (sc := defScope s_law_pairs) (by decide +kernel)) (fun _ _ _ _ _ => (pg_name (i := 8) nd rfl (Or.inl rfl))) (fun _ _ _ _ _ => pts_nil) (fun _ _ _ _ _ => (pe_tup (pa_cons (pv 8) (pa_cons (pe_op op_mod (pe_op op_add (pv 8) pe_int) (pv 1)) pa_nil))))))) pss_nil)
      (pss_cons (ps_if (pt_cmpR op_eq (pv 2) pe_int (nomark _)) (pss_one (ps_ret (pe_op op_cat (pe_lc (own := [("_law_k", 8)]) rfl nd (pi_range1 (by rfl) E.f_range (pa_cons (pv 1) pa_nil)) (blkOk_by (N := ["_law_draws_here", "_law_many", "_law_kind", "_law_middle", "_law_found", "_law_i", "_law_j", "_law_draw", "_law_k"]) (sc := defScope s_law_pairs) (by decide +kernel)) (fun _ _ _ _ _ => (pg_name (i := 8) nd rfl (Or.inl rfl))) (fun _ _ _ _ _ => pts_nil) (fun _ _ _ _ _ => (pe_tup (pa_cons (pv 8) (pa_cons (pe_ix ix_list (pe_lst (pa_cons (pe_op op_add (pv 8) pe_int) (pa_cons pe_int pa_nil))) (pe_callTy call_int1 (by rfl) E.f_int (by decide +kernel) (pa_cons (pe_or (pe_cmpR op_eq (pv 8) (pe_op op_sub (pv 3) pe_int) (nomark _)) (pe_one (pe_cmpR op_eq (pv 8) (pe_op op_sub (pv 1) pe_int) (nomark _)))) pa_nil)) (fun _ _ => rfl)) pa_nil))))) (pe_lst (pa_cons (pe_tup (pa_cons pe_int (pa_cons (pe_op op_mod (pv 3) (pv 1)) pa_nil))) pa_nil))))) pss_nil)
      (pss_cons (ps_if (pt_cmpR op_eq (pv 2) pe_int (nomark _)) (pss_one (ps_ret (pe_lc (own := [("_law_k", 8)]) rfl nd (pi_range2 (by rfl) E.f_range (pa_cons pe_int (pa_cons (pv 1) pa_nil))) (blkOk_by (N := ["_law_draws_here", "_law_many", "_law_kind", "_law_middle", "_law_found", "_law_i", "_law_j", "_law_draw", "_law_k"]) (sc := defScope s_law_pairs) (by decide +kernel)) (fun _ _ _ _ _ => (pg_name (i := 8) nd rfl (Or.inl rfl))) (fun _ _ _ _ _ => pts_nil) (fun _ _ _ _ _ => (pe_tup (pa_cons pe_int (pa_cons (pv 8) pa_nil))))))) pss_nil)
      (pss_cons (ps_if (pt_cmpR op_eq (pv 2) pe_int (nomark _)) (pss_one (ps_ret (pe_op op_cat (pe_lc (own := [("_law_k", 8)]) rfl nd (pi_range2 (by rfl) E.f_range (pa_cons pe_int (pa_cons (pv 1) pa_nil))) (blkOk_by (N := ["_law_draws_here", "_law_many", "_law_kind", "_law_middle", "_law_found", "_law_i", "_law_j", "_law_draw", "_law_k"]) (sc := defScope s_law_pairs) (by decide +kernel)) (fun _ _ _ _ _ => (pg_name (i := 8) nd rfl (Or.inl rfl))) (fun _ _ _ _ _ => pts_nil) (fun _ _ _ _ _ => (pe_tup (pa_cons (pe_op op_fdivW (pv 8) pe_int) (pa_cons (pv 8) pa_nil))))) (pe_lst (pa_cons (pe_tup (pa_cons pe_int (pa_cons (pe_op op_sub (pv 1) pe_int) pa_nil))) pa_nil))))) pss_nil)
      (pss_cons (ps_if (pt_cmpR op_eq (pv 2) pe_int (nomark _)) (pss_one (ps_ret (pe_op op_cat (pe_lc (own := [("_law_k", 8)]) rfl nd (pi_range1 (by rfl) E.f_range (pa_cons (pe_op op_sub (pv 1) pe_int) pa_nil)) (blkOk_by (N := ["_law_draws_here", "_law_many", "_law_kind", "_law_middle", "_law_found", "_law_i", "_law_j", "_law_draw", "_law_k"]) (sc := defScope s_law_pairs) (by decide +kernel)) (fun _ _ _ _ _ => (pg_name (i := 8) nd rfl (Or.inl rfl))) (fun _ _ _ _ _ => pts_nil) (fun _ _ _ _ _ => (pe_tup (pa_cons (pv 8) (pa_cons (pe_op op_add (pv 8) pe_int) pa_nil))))) (pe_lc (own := [("_law_k", 8)]) rfl nd (pi_range1 (by rfl) E.f_range (pa_cons (pe_op op_fdivW (pv 1) pe_int) pa_nil)) (blkOk_by (N := ["_law_draws_here", "_law_many", "_law_kind", "_law_middle", "_law_found", "_law_i", "_law_j", "_law_draw", "_law_k"]) (sc := defScope s_law_pairs) (by decide +kernel)) (fun _ _ _ _ _ => (pg_name (i := 8) nd rfl (Or.inl rfl))) (fun _ _ _ _ _ => pts_nil) (fun _ _ _ _ _ => (pe_tup (pa_cons (pe_op op_mul pe_int (pv 8)) (pa_cons (pe_op op_add (pe_op op_mul pe_int (pv 8)) pe_int) pa_nil)))))))) pss_nil)
      (pss_cons (ps_set (i := 4) nd rfl (Or.inl rfl) (pe_lst pa_nil))
      (pss_cons (ps_for PassesOwn.never rfl (pi_range1 (by rfl) E.f_range (pa_cons (pv 1) pa_nil)) (pg_name (i := 5) nd rfl (Or.inl rfl)) (pss_one (ps_for PassesOwn.never rfl (pi_range2 (by rfl) E.f_range (pa_cons (pe_op op_add (pv 5) pe_int) (pa_cons (pv 1) pa_nil))) (pg_name (i := 6) nd rfl (Or.inl rfl)) (pss_cons (ps_set (i := 7) nd rfl (Or.inl rfl) (pe_f h_law_next hr rfl E.g_law_next (pa_cons (pv 0) pa_nil)))
      (pss_one (ps_if (PW.pt (pw_or (PW.pt (pw_and (pt_cmpR op_eq (pv 2) pe_int (nomark _)) (pw_and1 (pt_cmpR op_eq (pe_cmpR op_lt (pv 5) (pv 3) (nomark _)) (pe_cmpR op_lt (pv 6) (pv 3) (nomark _)) (nomark _))))) (pw_or (PW.pt (pw_and (pt_cmpR op_eq (pv 2) pe_int (nomark _)) (pw_and1 (pt_cmpR op_eq (pe_op op_mod (pe_op op_add (pv 5) (pv 6)) pe_int) pe_int (nomark _))))) (pw_or1 (pt_cmpR op_eq (pe_op op_mod (pv 7) pe_int) pe_int (nomark _)))))) (pss_one (ps_expr (pe_bm PySem.F.plainAttrs_list PySem.F.slot_list_append PySem.F.type_list_append mt_append (pv 4) (pa_cons (pe_tup (pa_cons (pv 5) (pa_cons (pv 6) pa_nil))) pa_nil)))) pss_nil))))))
      (pss_one (ps_ret (pv 4))))))))))))
def t_law_web (K : PySem.W.Frag) (p_law_next p_law_order p_law_weight p_law_pairs : Sp0) : TS := (tSeq (tAsg (tOp rPlus (tVar 1) (tOp rModu (tF 1 p_law_next (tCons (tVar 0) tNil)) (tOp rPlus (tOp rMinus (tVar 2) (tVar 1)) (tC (.int 1))))) (gName 3))
  (tSeq (tAsg (tF 2 p_law_order (tCons (tVar 0) (tCons (tVar 3) tNil))) (gName 4))
  (tSeq (tAsg (tOp rModu (tF 1 p_law_next (tCons (tVar 0) tNil)) (tC (.int 3))) (gName 5))
  (tSeq (tAsg (tF 1 p_law_weight (tCons (tVar 0) tNil)) (gName 6))
  (tSeq (tAsg tDNewT (gName 7))
  (tSeq (tFor (iList K (tF 2 p_law_pairs (tCons (tVar 0) (tCons (tVar 3) tNil)))) (gTup K 2 (gCons (gName 8) (gCons (gName 9) gNil))) (tSeq (tAsg (tVar 6) (gName 10))
  (tSeq (tIfS (tTest (tOp rGt2 (tVar 5) (tC (.int 0)))) (tAsg (tF 1 p_law_weight (tCons (tVar 0) tNil)) (gName 10)) tNext)
  (tIfS (tTest (tOp rNe (tVar 8) (tVar 9))) (sDPut (tVar 7) (tTup (tCons (tCB rMin2 (tCons (tOp (rIxL K) (tVar 4) (tVar 8)) (tCons (tOp (rIxL K) (tVar 4) (tVar 9)) tNil))) (tCons (tCB rMax2 (tCons (tOp (rIxL K) (tVar 4) (tVar 8)) (tCons (tOp (rIxL K) (tVar 4) (tVar 9)) tNil))) tNil))) (tVar 10)) tNext))))
  (tRet (tTup (tCons (tVar 3) (tCons (tVar 7) tNil))))))))))
theorem sc_law_web : FnScope ["_law_draws_here", "_law_least", "_law_most", "_law_many", "_law_order_here", "_law_alike", "_law_one", "_law_ties", "_law_i", "_law_j", "_law_weight_here"] ["_law_draws_here", "_law_least", "_law_most"] (defScope s_law_web) := ⟨rfl, rfl, rfl, by decide +kernel, rfl, by decide +kernel, by decide +kernel⟩
theorem ok_law_web {K : PySem.W.Frag} {mg : Str → Option Value} {k : Nat} {sp : Sp0} {p_law_next p_law_order p_law_weight p_law_pairs : Sp0} (E : En K mg) (h_law_next : Okf K mg d_law_next ["_law_draws_here"] k p_law_next) (h_law_order : Okf K mg d_law_order ["_law_draws_here", "_law_many"] k p_law_order) (h_law_weight : Okf K mg d_law_weight ["_law_draws_here"] k p_law_weight) (h_law_pairs : Okf K mg d_law_pairs ["_law_draws_here", "_law_many"] k p_law_pairs)
    (pure : ∀ vs H Q, sp vs H Q → t_law_web K p_law_next p_law_order p_law_weight p_law_pairs { nx := fun _ H' => Q .non H', rt := Q } (start ["_law_draws_here", "_law_least", "_law_most", "_law_many", "_law_order_here", "_law_alike", "_law_one", "_law_ties", "_law_i", "_law_j", "_law_weight_here"] vs) H) : Okf K mg d_law_web ["_law_draws_here", "_law_least", "_law_most"] (k + 1) sp := by
  refine okf_of (d := d_law_web) (N := ["_law_draws_here", "_law_least", "_law_most", "_law_many", "_law_order_here", "_law_alike", "_law_one", "_law_ties", "_law_i", "_law_j", "_law_weight_here"]) (t_law_web K p_law_next p_law_order p_law_weight p_law_pairs) E.fd_law_web sc_law_web (fun _ _ _ _ _ _ us hl => match us, hl with | [_, _, _], _ => rfl) (fun P w base cdv A outer s H Ex hr => ?_) pure
  have nd := (sc_law_web).nd
  exact (pss_cons (ps_set (i := 3) nd rfl (Or.inl rfl) (pe_op op_add (pv 1) (pe_op op_mod (pe_f h_law_next hr rfl E.g_law_next (pa_cons (pv 0) pa_nil)) (pe_op op_add (pe_op op_sub (pv 2) (pv 1)) pe_int))))
      (pss_cons (ps_set (i := 4) nd rfl (Or.inl rfl) (pe_f h_law_order hr rfl E.g_law_order (pa_cons (pv 0) (pa_cons (pv 3) pa_nil))))
      (pss_cons (ps_set (i := 5) nd rfl (Or.inl rfl) (pe_op op_mod (pe_f h_law_next hr rfl E.g_law_next (pa_cons (pv 0) pa_nil)) pe_int))
      (pss_cons (ps_set (i := 6) nd rfl (Or.inl rfl) (pe_f h_law_weight hr rfl E.g_law_weight (pa_cons (pv 0) pa_nil)))
      (pss_cons (ps_set (i := 7) nd rfl (Or.inl rfl) pe_dnewT)
      (pss_cons (ps_for PassesOwn.never rfl (pi_list (pe_f h_law_pairs hr rfl E.g_law_pairs (pa_cons (pv 0) (pa_cons (pv 3) pa_nil)))) (pg_tup rfl (pgs_cons (pg_name (i := 8) nd rfl (Or.inl rfl)) (pgs_cons (pg_name (i := 9) nd rfl (Or.inl rfl)) pgs_nil))) (pss_cons (ps_set (i := 10) nd rfl (Or.inl rfl) (pv 6))
      (pss_cons (ps_if (pt_cmpR op_gt (pv 5) pe_int (nomark _)) (pss_one (ps_set (i := 10) nd rfl (Or.inl rfl) (pe_f h_law_weight hr rfl E.g_law_weight (pa_cons (pv 0) pa_nil)))) pss_nil)
      (pss_one (ps_if (pt_cmpR op_ne (pv 8) (pv 9) (nomark _)) (pss_one (ps_dput (hu_of hr) (pv 7) (pe_tup (pa_cons (pe_callB (call_min2 rfl) (by rfl) E.f_min (by decide +kernel) (pa_cons (pe_ix ix_list (pv 4) (pv 8) (fun _ _ => rfl)) (pa_cons (pe_ix ix_list (pv 4) (pv 9) (fun _ _ => rfl)) pa_nil))) (pa_cons (pe_callB (call_max2 rfl) (by rfl) E.f_max (by decide +kernel) (pa_cons (pe_ix ix_list (pv 4) (pv 8) (fun _ _ => rfl)) (pa_cons (pe_ix ix_list (pv 4) (pv 9) (fun _ _ => rfl)) pa_nil))) pa_nil))) (pv 10) rfl)) pss_nil)))))
      (pss_one (ps_ret (pe_tup (pa_cons (pv 3) (pa_cons (pv 7) pa_nil)))))))))))
def t_law_rows (K : PySem.W.Frag) (p_law_next : Sp0) : TS := (tSeq (tLock (tAsg (tLc (iKeys (tVar 1)) (gTup K 2 (gCons (gName 3) (gCons (gName 4) gNil))) tYes (tTup (tCons (tVar 3) (tCons (tVar 4) (tCons (tDGet (tVar 1) (tTup (tCons (tVar 3) (tCons (tVar 4) tNil)))) tNil)))) [3, 4]) (gName 2)))
  (tSeq (tIfS (tTest (tOp rEq (tOp rModu (tF 1 p_law_next (tCons (tVar 0) tNil)) (tC (.int 2))) (tC (.int 0)))) (tRet (tLc (iList K (tVar 2)) (gTup K 3 (gCons (gName 3) (gCons (gName 4) (gCons (gName 5) gNil)))) tYes (tLst (tCons (tVar 3) (tCons (tVar 4) (tCons (tCB (rListQ K) (tCons (tVar 5) tNil)) tNil)))) [3, 4, 5])) tNext)
  (tRet (tCB (rTupQ K) (tCons (tVar 2) tNil)))))
theorem sc_law_rows : FnScope ["_law_draws_here", "_law_ties", "_law_rows_here", "_law_i", "_law_j", "_law_weight_here"] ["_law_draws_here", "_law_ties"] (defScope s_law_rows) := ⟨rfl, rfl, rfl, by decide +kernel, rfl, by decide +kernel, by decide +kernel⟩
theorem ok_law_rows {K : PySem.W.Frag} {mg : Str → Option Value} {k : Nat} {sp : Sp0} {p_law_next : Sp0} (E : En K mg) (h_law_next : Okf K mg d_law_next ["_law_draws_here"] k p_law_next)
    (pure : ∀ vs H Q, sp vs H Q → t_law_rows K p_law_next { nx := fun _ H' => Q .non H', rt := Q } (start ["_law_draws_here", "_law_ties", "_law_rows_here", "_law_i", "_law_j", "_law_weight_here"] vs) H) : Okf K mg d_law_rows ["_law_draws_here", "_law_ties"] (k + 1) sp := by
  refine okf_of (d := d_law_rows) (N := ["_law_draws_here", "_law_ties", "_law_rows_here", "_law_i", "_law_j", "_law_weight_here"]) (t_law_rows K p_law_next) E.fd_law_rows sc_law_rows (fun _ _ _ _ _ _ us hl => match us, hl with | [_, _], _ => rfl) (fun P w base cdv A outer s H Ex hr => ?_) pure
  have nd := (sc_law_rows).nd
  exact (pss_cons (ps_lock (ps_setLc (i := 2) (own := [("_law_i", 3), ("_law_j", 4)]) rfl nd rfl rfl (sw_true rfl rfl rfl (by decide +kernel)) (pi_keys (pv 1)) (blkOk_by (N := ["_law_draws_here", "_law_ties", "_law_rows_here", "_law_i", "_law_j", "_law_weight_here"]) (sc := defScope s_law_rows) (by decide +kernel)) (fun _ _ _ _ _ => (pg_tup rfl (pgs_cons (pg_name (i := 3) nd rfl (Or.inl rfl)) (pgs_cons (pg_name (i := 4) nd rfl (Or.inl rfl)) pgs_nil)))) (fun _ _ _ _ _ => pts_nil) (fun _ _ _ _ _ => (pe_tup (pa_cons (pv 3) (pa_cons (pv 4) (pa_cons (pe_dget (hu_of hr) (pv 1) (pe_tup (pa_cons (pv 3) (pa_cons (pv 4) pa_nil))) (fun _ _ => rfl)) pa_nil)))))))
      (pss_cons (ps_if (pt_cmpR op_eq (pe_op op_mod (pe_f h_law_next hr rfl E.g_law_next (pa_cons (pv 0) pa_nil)) pe_int) pe_int (nomark _)) (pss_one (ps_ret (pe_lc (own := [("_law_i", 3), ("_law_j", 4), ("_law_weight_here", 5)]) rfl nd (pi_list (pv 2)) (blkOk_by (N := ["_law_draws_here", "_law_ties", "_law_rows_here", "_law_i", "_law_j", "_law_weight_here"]) (sc := defScope s_law_rows) (by decide +kernel)) (fun _ _ _ _ _ => (pg_tup rfl (pgs_cons (pg_name (i := 3) nd rfl (Or.inl rfl)) (pgs_cons (pg_name (i := 4) nd rfl (Or.inl rfl)) (pgs_cons (pg_name (i := 5) nd rfl (Or.inl rfl)) pgs_nil))))) (fun _ _ _ _ _ => pts_nil) (fun _ _ _ _ _ => (pe_lst (pa_cons (pv 3) (pa_cons (pv 4) (pa_cons (pe_callTy call_list_of (by rfl) E.f_list (by decide +kernel) (pa_cons (pv 5) pa_nil)) pa_nil)))))))) pss_nil)
      (pss_one (ps_ret (pe_callTy call_tuple_of (by rfl) E.f_tuple (by decide +kernel) (pa_cons (pv 2) pa_nil))))))
def t_law_parts (K : PySem.W.Frag) : TS := (tSeq (tAsg tDNewT (gName 1))
  (tSeq (tLock (tFor (iKeys (tVar 0)) (gTup K 2 (gCons (gName 2) (gCons (gName 3) gNil))) (tSeq (sDPut (tVar 1) (tTup (tCons (tVar 2) (tCons (tVar 3) tNil))) (tOp rTimes (tOp (rIxT K) (tDGet (tVar 0) (tTup (tCons (tVar 2) (tCons (tVar 3) tNil)))) (tC (.int 0))) (tOp rFdiv (tC (.int 55440)) (tOp (rIxT K) (tDGet (tVar 0) (tTup (tCons (tVar 2) (tCons (tVar 3) tNil)))) (tC (.int 1))))))
  (sDPut (tVar 1) (tTup (tCons (tVar 3) (tCons (tVar 2) tNil))) (tDGet (tVar 1) (tTup (tCons (tVar 2) (tCons (tVar 3) tNil))))))))
  (tRet (tVar 1))))
theorem sc_law_parts : FnScope ["_law_ties", "_law_found", "_law_i", "_law_j"] ["_law_ties"] (defScope s_law_parts) := ⟨rfl, rfl, rfl, by decide +kernel, rfl, by decide +kernel, by decide +kernel⟩
theorem ok_law_parts {K : PySem.W.Frag} {mg : Str → Option Value} {k : Nat} {sp : Sp0} (E : En K mg)
    (pure : ∀ vs H Q, sp vs H Q → t_law_parts K { nx := fun _ H' => Q .non H', rt := Q } (start ["_law_ties", "_law_found", "_law_i", "_law_j"] vs) H) : Okf K mg d_law_parts ["_law_ties"] (k + 1) sp := by
  refine okf_of (d := d_law_parts) (N := ["_law_ties", "_law_found", "_law_i", "_law_j"]) (t_law_parts K ) E.fd_law_parts sc_law_parts (fun _ _ _ _ _ _ us hl => match us, hl with | [_], _ => rfl) (fun P w base cdv A outer s H Ex hr => ?_) pure
  have nd := (sc_law_parts).nd
  exact (pss_cons (ps_set (i := 1) nd rfl (Or.inl rfl) pe_dnewT)
      (pss_cons (ps_lock (ps_for PassesOwn.never rfl (pi_keys (pv 0)) (pg_tup rfl (pgs_cons (pg_name (i := 2) nd rfl (Or.inl rfl)) (pgs_cons (pg_name (i := 3) nd rfl (Or.inl rfl)) pgs_nil))) (pss_cons (ps_dput (hu_of hr) (pv 1) (pe_tup (pa_cons (pv 2) (pa_cons (pv 3) pa_nil))) (pe_op op_mul (pe_ix ix_tup (pe_dget (hu_of hr) (pv 0) (pe_tup (pa_cons (pv 2) (pa_cons (pv 3) pa_nil))) (fun _ _ => rfl)) pe_int (fun _ _ => rfl)) (pe_op op_fdivW pe_int (pe_ix ix_tup (pe_dget (hu_of hr) (pv 0) (pe_tup (pa_cons (pv 2) (pa_cons (pv 3) pa_nil))) (fun _ _ => rfl)) pe_int (fun _ _ => rfl)))) rfl)
      (pss_one (ps_dput (hu_of hr) (pv 1) (pe_tup (pa_cons (pv 3) (pa_cons (pv 2) pa_nil))) (pe_dget (hu_of hr) (pv 1) (pe_tup (pa_cons (pv 2) (pa_cons (pv 3) pa_nil))) (fun _ _ => rfl)) rfl)))))
      (pss_one (ps_ret (pv 1)))))
def t_law_ends (K : PySem.W.Frag) (p_law_order p_law_next : Sp0) : TS := (tSeq (tAsg (tF 2 p_law_order (tCons (tVar 0) (tCons (tVar 1) tNil))) (gName 2))
  (tSeq (tAsg (tCB rMin2 (tCons (tOp rFdiv (tVar 1) (tC (.int 2))) (tCons (tOp rPlus (tC (.int 1)) (tCB rMax2 (tCons (tC (.int 0)) (tCons (tOp rMinus (tOp rModu (tF 1 p_law_next (tCons (tVar 0) tNil)) (tC (.int 5))) (tC (.int 2))) tNil)))) tNil))) (gName 3))
  (tSeq (tAsg (tCB rMin2 (tCons (tOp rFdiv (tVar 1) (tC (.int 2))) (tCons (tOp rPlus (tC (.int 1)) (tCB rMax2 (tCons (tC (.int 0)) (tCons (tOp rMinus (tOp rModu (tF 1 p_law_next (tCons (tVar 0) tNil)) (tC (.int 5))) (tC (.int 2))) tNil)))) tNil))) (gName 4))
  (tRet (tTup (tCons (tCB (rTupQ K) (tCons (tCB (rSortedI K) (tCons (tSl (rSlL K) (tVar 2) tNoPart (tPart (tVar 3))) tNil)) tNil)) (tCons (tCB (rTupQ K) (tCons (tCB (rSortedI K) (tCons (tSl (rSlL K) (tVar 2) (tPart (tVar 3)) (tPart (tOp rPlus (tVar 3) (tVar 4)))) tNil)) tNil)) tNil)))))))
theorem sc_law_ends : FnScope ["_law_draws_here", "_law_many", "_law_order_here", "_law_one", "_law_other"] ["_law_draws_here", "_law_many"] (defScope s_law_ends) := ⟨rfl, rfl, rfl, by decide +kernel, rfl, by decide +kernel, by decide +kernel⟩
theorem ok_law_ends {K : PySem.W.Frag} {mg : Str → Option Value} {k : Nat} {sp : Sp0} {p_law_order p_law_next : Sp0} (E : En K mg) (h_law_order : Okf K mg d_law_order ["_law_draws_here", "_law_many"] k p_law_order) (h_law_next : Okf K mg d_law_next ["_law_draws_here"] k p_law_next)
    (pure : ∀ vs H Q, sp vs H Q → t_law_ends K p_law_order p_law_next { nx := fun _ H' => Q .non H', rt := Q } (start ["_law_draws_here", "_law_many", "_law_order_here", "_law_one", "_law_other"] vs) H) : Okf K mg d_law_ends ["_law_draws_here", "_law_many"] (k + 1) sp := by
  refine okf_of (d := d_law_ends) (N := ["_law_draws_here", "_law_many", "_law_order_here", "_law_one", "_law_other"]) (t_law_ends K p_law_order p_law_next) E.fd_law_ends sc_law_ends (fun _ _ _ _ _ _ us hl => match us, hl with | [_, _], _ => rfl) (fun P w base cdv A outer s H Ex hr => ?_) pure
  have nd := (sc_law_ends).nd
  exact (pss_cons (ps_set (i := 2) nd rfl (Or.inl rfl) (pe_f h_law_order hr rfl E.g_law_order (pa_cons (pv 0) (pa_cons (pv 1) pa_nil))))
      (pss_cons (ps_set (i := 3) nd rfl (Or.inl rfl) (pe_callB (call_min2 rfl) (by rfl) E.f_min (by decide +kernel) (pa_cons (pe_op op_fdivW (pv 1) pe_int) (pa_cons (pe_op op_add pe_int (pe_callB (call_max2 rfl) (by rfl) E.f_max (by decide +kernel) (pa_cons pe_int (pa_cons (pe_op op_sub (pe_op op_mod (pe_f h_law_next hr rfl E.g_law_next (pa_cons (pv 0) pa_nil)) pe_int) pe_int) pa_nil)))) pa_nil))))
      (pss_cons (ps_set (i := 4) nd rfl (Or.inl rfl) (pe_callB (call_min2 rfl) (by rfl) E.f_min (by decide +kernel) (pa_cons (pe_op op_fdivW (pv 1) pe_int) (pa_cons (pe_op op_add pe_int (pe_callB (call_max2 rfl) (by rfl) E.f_max (by decide +kernel) (pa_cons pe_int (pa_cons (pe_op op_sub (pe_op op_mod (pe_f h_law_next hr rfl E.g_law_next (pa_cons (pv 0) pa_nil)) pe_int) pe_int) pa_nil)))) pa_nil))))
      (pss_one (ps_ret (pe_tup (pa_cons (pe_callTy call_tuple_of (by rfl) E.f_tuple (by decide +kernel) (pa_cons (pe_callB cr_sortedI (by rfl) E.f_sorted (by decide +kernel) (pa_cons (pe_slice sl_list (pv 2) po_none (po_some (pv 3))) pa_nil)) pa_nil)) (pa_cons (pe_callTy call_tuple_of (by rfl) E.f_tuple (by decide +kernel) (pa_cons (pe_callB cr_sortedI (by rfl) E.f_sorted (by decide +kernel) (pa_cons (pe_slice sl_list (pv 2) (po_some (pv 3)) (po_some (pe_op op_add (pv 3) (pv 4)))) pa_nil)) pa_nil)) pa_nil))))))))
def t_law_side_parts (K : PySem.W.Frag) : TS := (tSeq (tAsg (tC (.int 0)) (gName 3))
  (tSeq (tFor (iTup K (tVar 2)) (gName 4) (tAsg (tOp rPlus (tVar 3) (tCB (rSum K) (tCons (tLc (iRng1 (tCons (tVar 0) tNil)) (gName 5) (tTest (tOp (rIn K true) (tVar 5) (tVar 2))) (tDGet2 (tVar 1) (tTup (tCons (tVar 4) (tCons (tVar 5) tNil))) (tC (.int 0))) [5]) tNil))) (gName 3)))
  (tRet (tVar 3))))
theorem sc_law_side_parts : FnScope ["_law_many", "_law_counted", "_law_side", "_law_found", "_law_i", "_law_j"] ["_law_many", "_law_counted", "_law_side"] (defScope s_law_side_parts) := ⟨rfl, rfl, rfl, by decide +kernel, rfl, by decide +kernel, by decide +kernel⟩
theorem ok_law_side_parts {K : PySem.W.Frag} {mg : Str → Option Value} {k : Nat} {sp : Sp0} (E : En K mg)
    (pure : ∀ vs H Q, sp vs H Q → t_law_side_parts K { nx := fun _ H' => Q .non H', rt := Q } (start ["_law_many", "_law_counted", "_law_side", "_law_found", "_law_i", "_law_j"] vs) H) : Okf K mg d_law_side_parts ["_law_many", "_law_counted", "_law_side"] (k + 1) sp := by
  refine okf_of (d := d_law_side_parts) (N := ["_law_many", "_law_counted", "_law_side", "_law_found", "_law_i", "_law_j"]) (t_law_side_parts K ) E.fd_law_side_parts sc_law_side_parts (fun _ _ _ _ _ _ us hl => match us, hl with | [_, _, _], _ => rfl) (fun P w base cdv A outer s H Ex hr => ?_) pure
  have nd := (sc_law_side_parts).nd
  exact (pss_cons (ps_set (i := 3) nd rfl (Or.inl rfl) pe_int)
      (pss_cons (ps_for PassesOwn.never rfl (pi_tup (pv 2)) (pg_name (i := 4) nd rfl (Or.inr rfl)) (pss_one (ps_set (i := 3) nd rfl (Or.inl rfl) (pe_op op_add (pv 3) (pe_callB (cr_sum rfl) (by rfl) E.f_sum (by decide +kernel) (pa_cons (pe_lc (own := [("_law_j", 5)]) rfl nd (pi_range1 (by rfl) E.f_range (pa_cons (pv 0) pa_nil)) (blkOk_by (N := ["_law_many", "_law_counted", "_law_side", "_law_found", "_law_i", "_law_j"]) (sc := defScope s_law_side_parts) (by decide +kernel)) (fun _ _ _ _ _ => (pg_name (i := 5) nd rfl (Or.inl rfl))) (fun _ _ _ _ _ => (pts_one (pt_cmpR op_notIn_seq (pv 5) (pv 2) (by rfl)))) (fun _ _ _ _ _ => (pe_dget2 (hu_of hr) (pv 1) (pe_tup (pa_cons (pv 4) (pa_cons (pv 5) pa_nil))) pe_int ⟨rfl, rfl, rfl, rfl⟩))) pa_nil))))))
      (pss_one (ps_ret (pv 3)))))
def t_law_sides_between (K : PySem.W.Frag) : TS := (tSeq (tAsg (tVar 1) (gTup K 2 (gCons (gName 2) (gCons (gName 3) gNil))))
  (tSeq (tAsg (tLc (iRng1 (tCons (tVar 0) tNil)) (gName 8) (tAnd (tTest (tOp (rIn K true) (tVar 8) (tVar 2))) (tTest (tOp (rIn K true) (tVar 8) (tVar 3)))) (tVar 8) [8]) (gName 4))
  (tSeq (tAsg (tLst tNil) (gName 5))
  (tSeq (tFor (iRng1 (tCons (tOp rShl (tC (.int 1)) (tCB (rLenQ K) (tCons (tVar 4) tNil))) tNil)) (gName 6) (tSeq (tAsg (tLc (iEnum K (tCons (tVar 4) tNil)) (gTup K 2 (gCons (gName 9) (gCons (gName 8) gNil))) (tTest (tOp rEq (tOp rBand (tOp rShr (tVar 6) (tVar 9)) (tC (.int 1))) (tC (.int 1)))) (tVar 8) [9, 8]) (gName 7))
  (tDrop (tBM K "list" rAppend (tVar 5) (tCons (tCB (rTupQ K) (tCons (tCB (rSortedI K) (tCons (tOp rCat (tCB (rListQ K) (tCons (tVar 2) tNil)) (tVar 7)) tNil)) tNil)) tNil)))))
  (tRet (tVar 5))))))
theorem sc_law_sides_between : FnScope ["_law_many", "_law_ends_here", "_law_froms", "_law_tos", "_law_left", "_law_found", "_law_number", "_law_more", "_law_place", "_law_k"] ["_law_many", "_law_ends_here"] (defScope s_law_sides_between) := ⟨rfl, rfl, rfl, by decide +kernel, rfl, by decide +kernel, by decide +kernel⟩
theorem ok_law_sides_between {K : PySem.W.Frag} {mg : Str → Option Value} {k : Nat} {sp : Sp0} (E : En K mg)
    (pure : ∀ vs H Q, sp vs H Q → t_law_sides_between K { nx := fun _ H' => Q .non H', rt := Q } (start ["_law_many", "_law_ends_here", "_law_froms", "_law_tos", "_law_left", "_law_found", "_law_number", "_law_more", "_law_place", "_law_k"] vs) H) : Okf K mg d_law_sides_between ["_law_many", "_law_ends_here"] (k + 1) sp := by
  refine okf_of (d := d_law_sides_between) (N := ["_law_many", "_law_ends_here", "_law_froms", "_law_tos", "_law_left", "_law_found", "_law_number", "_law_more", "_law_place", "_law_k"]) (t_law_sides_between K ) E.fd_law_sides_between sc_law_sides_between (fun _ _ _ _ _ _ us hl => match us, hl with | [_, _], _ => rfl) (fun P w base cdv A outer s H Ex hr => ?_) pure
  have nd := (sc_law_sides_between).nd
  exact (pss_cons (ps_asg (pv 1) (pg_tup rfl (pgs_cons (pg_name (i := 2) nd rfl (Or.inr rfl)) (pgs_cons (pg_name (i := 3) nd rfl (Or.inr rfl)) pgs_nil))))
      (pss_cons (ps_setLc (i := 4) (own := [("_law_place", 8)]) rfl nd rfl rfl (sw_true rfl rfl rfl (by decide +kernel)) (pi_range1 (by rfl) E.f_range (pa_cons (pv 0) pa_nil)) (blkOk_by (N := ["_law_many", "_law_ends_here", "_law_froms", "_law_tos", "_law_left", "_law_found", "_law_number", "_law_more", "_law_place", "_law_k"]) (sc := defScope s_law_sides_between) (by decide +kernel)) (fun _ _ _ _ _ => (pg_name (i := 8) nd rfl (Or.inl rfl))) (fun _ _ _ _ _ => (pts_one (PW.pt (pw_and (pt_cmpR op_notIn_seq (pv 8) (pv 2) (by rfl)) (pw_and1 (pt_cmpR op_notIn_seq (pv 8) (pv 3) (by rfl))))))) (fun _ _ _ _ _ => (pv 8)))
      (pss_cons (ps_set (i := 5) nd rfl (Or.inl rfl) (pe_lst pa_nil))
      (pss_cons (ps_for PassesOwn.never rfl (pi_range1 (by rfl) E.f_range (pa_cons (pe_op op_shl pe_int (pe_callB call_len_seq (by rfl) E.f_len PySem.boot_len (pa_cons (pv 4) pa_nil))) pa_nil)) (pg_name (i := 6) nd rfl (Or.inr rfl)) (pss_cons (ps_setLc (i := 7) (own := [("_law_k", 9), ("_law_place", 8)]) rfl nd rfl rfl (sw_true rfl rfl rfl (by decide +kernel)) (pi_enum (by rfl) E.f_enumerate (pa_cons (pv 4) pa_nil)) (blkOk_by (N := ["_law_many", "_law_ends_here", "_law_froms", "_law_tos", "_law_left", "_law_found", "_law_number", "_law_more", "_law_place", "_law_k"]) (sc := defScope s_law_sides_between) (by decide +kernel)) (fun _ _ _ _ _ => (pg_tup rfl (pgs_cons (pg_name (i := 9) nd rfl (Or.inl rfl)) (pgs_cons (pg_name (i := 8) nd rfl (Or.inl rfl)) pgs_nil)))) (fun _ _ _ _ _ => (pts_one (pt_cmpR op_eq (pe_op op_and (pe_op op_shr (pv 6) (pv 9)) pe_int) pe_int (nomark _)))) (fun _ _ _ _ _ => (pv 8)))
      (pss_one (ps_expr (pe_bm PySem.F.plainAttrs_list PySem.F.slot_list_append PySem.F.type_list_append mt_append (pv 5) (pa_cons (pe_callTy call_tuple_of (by rfl) E.f_tuple (by decide +kernel) (pa_cons (pe_callB cr_sortedI (by rfl) E.f_sorted (by decide +kernel) (pa_cons (pe_op op_cat (pe_callTy call_list_of (by rfl) E.f_list (by decide +kernel) (pa_cons (pv 2) pa_nil)) (pv 7)) pa_nil)) pa_nil)) pa_nil))))))
      (pss_one (ps_ret (pv 5)))))))
def t_law_least_sides (K : PySem.W.Frag) (p_law_sides_between p_law_side_parts : Sp0) : TS := (tSeq (tAsg (tF 2 p_law_sides_between (tCons (tVar 0) (tCons (tVar 2) tNil))) (gName 3))
  (tSeq (tAsg (tLc (iList K (tVar 3)) (gName 6) tYes (tF 3 p_law_side_parts (tCons (tVar 0) (tCons (tVar 1) (tCons (tVar 6) tNil)))) [6]) (gName 4))
  (tSeq (tAsg (tCB (rMin K) (tCons (tVar 4) tNil)) (gName 5))
  (tRet (tTup (tCons (tVar 5) (tCons (tLc (iZip K (tCons (tVar 3) (tCons (tVar 4) tNil))) (gTup K 2 (gCons (gName 6) (gCons (gName 7) gNil))) (tTest (tOp rEq (tVar 7) (tVar 5))) (tVar 6) [6, 7]) tNil)))))))
theorem sc_law_least_sides : FnScope ["_law_many", "_law_counted", "_law_ends_here", "_law_sides", "_law_weights", "_law_least", "_law_side", "_law_weight_here"] ["_law_many", "_law_counted", "_law_ends_here"] (defScope s_law_least_sides) := ⟨rfl, rfl, rfl, by decide +kernel, rfl, by decide +kernel, by decide +kernel⟩
theorem ok_law_least_sides {K : PySem.W.Frag} {mg : Str → Option Value} {k : Nat} {sp : Sp0} {p_law_sides_between p_law_side_parts : Sp0} (E : En K mg) (h_law_sides_between : Okf K mg d_law_sides_between ["_law_many", "_law_ends_here"] k p_law_sides_between) (h_law_side_parts : Okf K mg d_law_side_parts ["_law_many", "_law_counted", "_law_side"] k p_law_side_parts)
    (pure : ∀ vs H Q, sp vs H Q → t_law_least_sides K p_law_sides_between p_law_side_parts { nx := fun _ H' => Q .non H', rt := Q } (start ["_law_many", "_law_counted", "_law_ends_here", "_law_sides", "_law_weights", "_law_least", "_law_side", "_law_weight_here"] vs) H) : Okf K mg d_law_least_sides ["_law_many", "_law_counted", "_law_ends_here"] (k + 1) sp := by
  refine okf_of (d := d_law_least_sides) (N := ["_law_many", "_law_counted", "_law_ends_here", "_law_sides", "_law_weights", "_law_least", "_law_side", "_law_weight_here"]) (t_law_least_sides K p_law_sides_between p_law_side_parts) E.fd_law_least_sides sc_law_least_sides (fun _ _ _ _ _ _ us hl => match us, hl with | [_, _, _], _ => rfl) (fun P w base cdv A outer s H Ex hr => ?_) pure
  have nd := (sc_law_least_sides).nd
  exact (pss_cons (ps_set (i := 3) nd rfl (Or.inl rfl) (pe_f h_law_sides_between hr rfl E.g_law_sides_between (pa_cons (pv 0) (pa_cons (pv 2) pa_nil))))
      (pss_cons (ps_setLc (i := 4) (own := [("_law_side", 6)]) rfl nd rfl rfl (sw_true rfl rfl rfl (by decide +kernel)) (pi_list (pv 3)) (blkOk_by (N := ["_law_many", "_law_counted", "_law_ends_here", "_law_sides", "_law_weights", "_law_least", "_law_side", "_law_weight_here"]) (sc := defScope s_law_least_sides) (by decide +kernel)) (fun _ _ _ _ _ => (pg_name (i := 6) nd rfl (Or.inl rfl))) (fun _ _ _ _ _ => pts_nil) (fun _ _ _ _ _ => (pe_f h_law_side_parts hr rfl E.g_law_side_parts (pa_cons (pv 0) (pa_cons (pv 1) (pa_cons (pv 6) pa_nil))))))
      (pss_cons (ps_set (i := 5) nd rfl (Or.inr rfl) (pe_callB (cr_min rfl) (by rfl) E.f_min (by decide +kernel) (pa_cons (pv 4) pa_nil)))
      (pss_one (ps_ret (pe_tup (pa_cons (pv 5) (pa_cons (pe_lc (own := [("_law_side", 6), ("_law_weight_here", 7)]) rfl nd (pi_zip (by rfl) E.f_zip (pa_cons (pv 3) (pa_cons (pv 4) pa_nil))) (blkOk_by (N := ["_law_many", "_law_counted", "_law_ends_here", "_law_sides", "_law_weights", "_law_least", "_law_side", "_law_weight_here"]) (sc := defScope s_law_least_sides) (by decide +kernel)) (fun _ _ _ _ _ => (pg_tup rfl (pgs_cons (pg_name (i := 6) nd rfl (Or.inl rfl)) (pgs_cons (pg_name (i := 7) nd rfl (Or.inl rfl)) pgs_nil)))) (fun _ _ _ _ _ => (pts_one (pt_cmpR op_eq (pv 7) (pv 5) (nomark _)))) (fun _ _ _ _ _ => (pv 6))) pa_nil))))))))
def t_law_measure (K : PySem.W.Frag) : TS := (tSeq (tAsg (tC (.int 55440)) (gName 1))
  (tSeq (tFor (iTup K (tVar 0)) (gTup K 3 (gCons (gName 2) (gCons (gName 3) (gCons (gName 4) gNil)))) (tSeq (tPar 5 6 (tCons (tVar 1) (tCons (tOp (rIxT K) (tVar 4) (tC (.int 1))) tNil)))
  (tSeq (tWhile (tTest (tOp rNe (tVar 6) (tC (.int 0)))) (tPar 5 6 (tCons (tVar 6) (tCons (tOp rModu (tVar 5) (tVar 6)) tNil))))
  (tAsg (tOp rTimes (tOp rFdiv (tVar 1) (tVar 5)) (tOp (rIxT K) (tVar 4) (tC (.int 1)))) (gName 1)))))
  (tRet (tVar 1))))
theorem sc_law_measure : FnScope ["_law_flow", "_law_found", "_law_i", "_law_j", "_law_amount_here", "_law_one", "_law_other"] ["_law_flow"] (defScope s_law_measure) := ⟨rfl, rfl, rfl, by decide +kernel, rfl, by decide +kernel, by decide +kernel⟩
theorem ok_law_measure {K : PySem.W.Frag} {mg : Str → Option Value} {k : Nat} {sp : Sp0} (E : En K mg)
    (pure : ∀ vs H Q, sp vs H Q → t_law_measure K { nx := fun _ H' => Q .non H', rt := Q } (start ["_law_flow", "_law_found", "_law_i", "_law_j", "_law_amount_here", "_law_one", "_law_other"] vs) H) : Okf K mg d_law_measure ["_law_flow"] (k + 1) sp := by
  refine okf_of (d := d_law_measure) (N := ["_law_flow", "_law_found", "_law_i", "_law_j", "_law_amount_here", "_law_one", "_law_other"]) (t_law_measure K ) E.fd_law_measure sc_law_measure (fun _ _ _ _ _ _ us hl => match us, hl with | [_], _ => rfl) (fun P w base cdv A outer s H Ex hr => ?_) pure
  have nd := (sc_law_measure).nd
  exact (pss_cons (ps_set (i := 1) nd rfl (Or.inl rfl) pe_int)
      (pss_cons (ps_for PassesOwn.never rfl (pi_tup (pv 0)) (pg_tup rfl (pgs_cons (pg_name (i := 2) nd rfl (Or.inl rfl)) (pgs_cons (pg_name (i := 3) nd rfl (Or.inl rfl)) (pgs_cons (pg_name (i := 4) nd rfl (Or.inl rfl)) pgs_nil)))) (pss_cons (ps_par (by rfl) nd (i := 5) (j := 6) rfl rfl (by decide) rfl rfl (pa_cons (pv 1) (pa_cons (pe_ix ix_tup (pv 4) pe_int (fun _ _ => rfl)) pa_nil)) (by rfl))
      (pss_cons (ps_while PassesOwn.never (pt_cmpR op_ne (pv 6) pe_int (nomark _)) (pss_one (ps_par (by rfl) nd (i := 5) (j := 6) rfl rfl (by decide) rfl rfl (pa_cons (pv 6) (pa_cons (pe_op op_mod (pv 5) (pv 6)) pa_nil)) (by rfl))))
      (pss_one (ps_set (i := 1) nd rfl (Or.inl rfl) (pe_op op_mul (pe_op op_fdivW (pv 1) (pv 5)) (pe_ix ix_tup (pv 4) pe_int (fun _ _ => rfl))))))))
      (pss_one (ps_ret (pv 1)))))
def t_law_are_rows (K : PySem.W.Frag) : TS := (tSeq (tIfS (tNot (tB (tCB (rIsi K) (tCons (tVar 0) (tCons (tC (.ty "tuple")) tNil))))) (tRet (tC (.bl false))) tNext)
  (tSeq (tFor (iTup K (tVar 0)) (gName 1) (tSeq (tIfS (tOr (tNot (tB (tCB (rIsi K) (tCons (tVar 1) (tCons (tC (.ty "tuple")) tNil))))) (tOr (tTest (tOp rNe (tCB (rLenQ K) (tCons (tVar 1) tNil)) (tC (.int 3)))) (tOr (tNot (tB (tCB (rIsi K) (tCons (tOp (rIxT K) (tVar 1) (tC (.int 2))) (tCons (tC (.ty "tuple")) tNil))))) (tTest (tOp rNe (tCB (rLenQ K) (tCons (tOp (rIxT K) (tVar 1) (tC (.int 2))) tNil)) (tC (.int 2))))))) (tRet (tC (.bl false))) tNext)
  (tSeq (tAsg (tOp (rIxT K) (tVar 1) (tC (.int 2))) (gTup K 2 (gCons (gName 2) (gCons (gName 3) gNil))))
  (tSeq (tIfS (tOr (tTest (tOp rLt (tVar 2) (tC (.int 1)))) (tTest (tOp rLt (tVar 3) (tC (.int 1))))) (tRet (tC (.bl false))) tNext)
  (tSeq (tWhile (tTest (tOp rNe (tVar 3) (tC (.int 0)))) (tPar 2 3 (tCons (tVar 3) (tCons (tOp rModu (tVar 2) (tVar 3)) tNil))))
  (tIfS (tTest (tOp rNe (tVar 2) (tC (.int 1)))) (tRet (tC (.bl false))) tNext))))))
  (tRet (tOp (rEqD K) (tCB (rListQ K) (tCons (tVar 0) tNil)) (tCB (rSortedTT K) (tCons (tVar 0) tNil))))))
theorem sc_law_are_rows : FnScope ["_law_flow", "_law_row", "_law_one", "_law_other"] ["_law_flow"] (defScope s_law_are_rows) := ⟨rfl, rfl, rfl, by decide +kernel, rfl, by decide +kernel, by decide +kernel⟩
theorem ok_law_are_rows {K : PySem.W.Frag} {mg : Str → Option Value} {k : Nat} {sp : Sp0} (E : En K mg)
    (pure : ∀ vs H Q, sp vs H Q → t_law_are_rows K { nx := fun _ H' => Q .non H', rt := Q } (start ["_law_flow", "_law_row", "_law_one", "_law_other"] vs) H) : Okf K mg d_law_are_rows ["_law_flow"] (k + 1) sp := by
  refine okf_of (d := d_law_are_rows) (N := ["_law_flow", "_law_row", "_law_one", "_law_other"]) (t_law_are_rows K ) E.fd_law_are_rows sc_law_are_rows (fun _ _ _ _ _ _ us hl => match us, hl with | [_], _ => rfl) (fun P w base cdv A outer s H Ex hr => ?_) pure
  have nd := (sc_law_are_rows).nd
  exact (pss_cons (ps_if (pt_not (pt_val (pe_callB call_isi (by rfl) E.f_isinstance (by decide +kernel) (pa_cons (pv 0) (pa_cons (pe_bltn (v := .ty "tuple") rfl E.f_tuple (by decide +kernel) rfl) pa_nil))) (by intro _; rfl))) (pss_one (ps_ret pe_bl)) pss_nil)
      (pss_cons (ps_for PassesOwn.never rfl (pi_tup (pv 0)) (pg_name (i := 1) nd rfl (Or.inl rfl)) (pss_cons (ps_if (PW.pt (pw_or (pt_not (pt_val (pe_callB call_isi (by rfl) E.f_isinstance (by decide +kernel) (pa_cons (pv 1) (pa_cons (pe_bltn (v := .ty "tuple") rfl E.f_tuple (by decide +kernel) rfl) pa_nil))) (by intro _; rfl))) (pw_or (pt_cmpR op_ne (pe_callB call_len_seq (by rfl) E.f_len PySem.boot_len (pa_cons (pv 1) pa_nil)) pe_int (nomark _)) (pw_or (pt_not (pt_val (pe_callB call_isi (by rfl) E.f_isinstance (by decide +kernel) (pa_cons (pe_ix ix_tup (pv 1) pe_int (fun _ _ => rfl)) (pa_cons (pe_bltn (v := .ty "tuple") rfl E.f_tuple (by decide +kernel) rfl) pa_nil))) (by intro _; rfl))) (pw_or1 (pt_cmpR op_ne (pe_callB call_len_seq (by rfl) E.f_len PySem.boot_len (pa_cons (pe_ix ix_tup (pv 1) pe_int (fun _ _ => rfl)) pa_nil)) pe_int (nomark _))))))) (pss_one (ps_ret pe_bl)) pss_nil)
      (pss_cons (ps_asg (pe_ix ix_tup (pv 1) pe_int (fun _ _ => rfl)) (pg_tup rfl (pgs_cons (pg_name (i := 2) nd rfl (Or.inl rfl)) (pgs_cons (pg_name (i := 3) nd rfl (Or.inl rfl)) pgs_nil))))
      (pss_cons (ps_if (PW.pt (pw_or (pt_cmpR op_lt (pv 2) pe_int (nomark _)) (pw_or1 (pt_cmpR op_lt (pv 3) pe_int (nomark _))))) (pss_one (ps_ret pe_bl)) pss_nil)
      (pss_cons (ps_while PassesOwn.never (pt_cmpR op_ne (pv 3) pe_int (nomark _)) (pss_one (ps_par (by rfl) nd (i := 2) (j := 3) rfl rfl (by decide) rfl rfl (pa_cons (pv 3) (pa_cons (pe_op op_mod (pv 2) (pv 3)) pa_nil)) (by rfl))))
      (pss_one (ps_if (pt_cmpR op_ne (pv 2) pe_int (nomark _)) (pss_one (ps_ret pe_bl)) pss_nil)))))))
      (pss_one (ps_ret (pe_cmpR (op_eqD hr.units) (pe_callTy call_list_of (by rfl) E.f_list (by decide +kernel) (pa_cons (pv 0) pa_nil)) (pe_callB (cr_sortedTT hr) (by rfl) E.f_sorted (by decide +kernel) (pa_cons (pv 0) pa_nil)) (nomark _))))))
def t_law_worth (K : PySem.W.Frag) (p_law_are_rows p_law_measure : Sp0) : TS := (tSeq (tIfS (tNot (tB (tF 1 p_law_are_rows (tCons (tVar 3) tNil)))) (tRet (tC .non)) tNext)
  (tSeq (tAsg (tF 1 p_law_measure (tCons (tVar 3) tNil)) (gName 4))
  (tSeq (tAsg (tOp rRep (tLst (tCons (tC (.int 0)) tNil)) (tVar 0)) (gName 5))
  (tSeq (tFor (iTup K (tVar 3)) (gTup K 3 (gCons (gName 6) (gCons (gName 7) (gCons (gName 8) gNil)))) (tSeq (tAsg (tOp rTimes (tOp (rIxT K) (tVar 8) (tC (.int 0))) (tOp rFdiv (tVar 4) (tOp (rIxT K) (tVar 8) (tC (.int 1))))) (gName 9))
  (tSeq (tIfS (tTest (tOp rGt2 (tVar 9) (tOp rTimes (tDGet2 (tVar 1) (tTup (tCons (tVar 6) (tCons (tVar 7) tNil))) (tC (.int 0))) (tOp rFdiv (tVar 4) (tC (.int 55440)))))) (tRet (tC .non)) tNext)
  (tSeq (tAsg (tOp rMinus (tOp (rIxL K) (tVar 5) (tVar 6)) (tVar 9)) (gSub (tVar 5) (tVar 6) rSetL))
  (tAsg (tOp rPlus (tOp (rIxL K) (tVar 5) (tVar 7)) (tVar 9)) (gSub (tVar 5) (tVar 7) rSetL))))))
  (tSeq (tAsg (tLc (iTup K (tVar 3)) (gName 13) tYes (tTup (tCons (tCB rMin2 (tCons (tOp (rIxT K) (tVar 13) (tC (.int 0))) (tCons (tOp (rIxT K) (tVar 13) (tC (.int 1))) tNil))) (tCons (tCB rMax2 (tCons (tOp (rIxT K) (tVar 13) (tC (.int 0))) (tCons (tOp (rIxT K) (tVar 13) (tC (.int 1))) tNil))) tNil))) [13]) (gName 10))
  (tSeq (tAsg (tLc (iRng1 (tCons (tVar 0) tNil)) (gName 14) (tAnd (tTest (tOp (rIn K true) (tVar 14) (tOp (rIxT K) (tVar 2) (tC (.int 0))))) (tTest (tOp (rIn K true) (tVar 14) (tOp (rIxT K) (tVar 2) (tC (.int 1)))))) (tVar 14) [14]) (gName 11))
  (tSeq (tIfS (tOr (tTest (tOp rLt (tLenSetP K (tVar 10)) (tCB (rLenQ K) (tCons (tVar 10) tNil)))) (tTest (tOp (rNeD K) (tLc (iList K (tVar 11)) (gName 14) (tTest (tOp rNe (tOp (rIxL K) (tVar 5) (tVar 14)) (tC (.int 0)))) (tVar 14) [14]) (tLst tNil)))) (tRet (tC .non)) tNext)
  (tSeq (tAsg (tOp rMinus (tC (.int 0)) (tCB (rSum K) (tCons (tLc (iTup K (tOp (rIxT K) (tVar 2) (tC (.int 0)))) (gName 14) tYes (tOp (rIxL K) (tVar 5) (tVar 14)) [14]) tNil))) (gName 12))
  (tSeq (tIfS (tTest (tOp rGt2 (tOp rModu (tOp rTimes (tVar 12) (tC (.int 55440))) (tVar 4)) (tC (.int 0)))) (tRet (tC .non)) tNext)
  (tRet (tOp rFdiv (tOp rTimes (tVar 12) (tC (.int 55440))) (tVar 4))))))))))))
theorem sc_law_worth : FnScope ["_law_many", "_law_counted", "_law_ends_here", "_law_flow", "_law_measure_here", "_law_surplus", "_law_i", "_law_j", "_law_amount_here", "_law_number", "_law_pairs_here", "_law_inner", "_law_worth_here", "_law_row", "_law_place"] ["_law_many", "_law_counted", "_law_ends_here", "_law_flow"] (defScope s_law_worth) := ⟨rfl, rfl, rfl, by decide +kernel, rfl, by decide +kernel, by decide +kernel⟩
theorem ok_law_worth {K : PySem.W.Frag} {mg : Str → Option Value} {k : Nat} {sp : Sp0} {p_law_are_rows p_law_measure : Sp0} (E : En K mg) (h_law_are_rows : Okf K mg d_law_are_rows ["_law_flow"] k p_law_are_rows) (h_law_measure : Okf K mg d_law_measure ["_law_flow"] k p_law_measure)
    (pure : ∀ vs H Q, sp vs H Q → t_law_worth K p_law_are_rows p_law_measure { nx := fun _ H' => Q .non H', rt := Q } (start ["_law_many", "_law_counted", "_law_ends_here", "_law_flow", "_law_measure_here", "_law_surplus", "_law_i", "_law_j", "_law_amount_here", "_law_number", "_law_pairs_here", "_law_inner", "_law_worth_here", "_law_row", "_law_place"] vs) H) : Okf K mg d_law_worth ["_law_many", "_law_counted", "_law_ends_here", "_law_flow"] (k + 1) sp := by
  refine okf_of (d := d_law_worth) (N := ["_law_many", "_law_counted", "_law_ends_here", "_law_flow", "_law_measure_here", "_law_surplus", "_law_i", "_law_j", "_law_amount_here", "_law_number", "_law_pairs_here", "_law_inner", "_law_worth_here", "_law_row", "_law_place"]) (t_law_worth K p_law_are_rows p_law_measure) E.fd_law_worth sc_law_worth (fun _ _ _ _ _ _ us hl => match us, hl with | [_, _, _, _], _ => rfl) (fun P w base cdv A outer s H Ex hr => ?_) pure
  have nd := (sc_law_worth).nd
  exact (pss_cons (ps_if (pt_not (pt_val (pe_f h_law_are_rows hr rfl E.g_law_are_rows (pa_cons (pv 3) pa_nil)) (by intro _; rfl))) (pss_one (ps_ret pe_non)) pss_nil)
      (pss_cons (ps_set (i := 4) nd rfl (Or.inl rfl) (pe_f h_law_measure hr rfl E.g_law_measure (pa_cons (pv 3) pa_nil)))
      (pss_cons (ps_set (i := 5) nd rfl (Or.inr rfl) (pe_op op_rep (pe_lst (pa_cons pe_int pa_nil)) (pv 0)))
      (pss_cons (ps_for PassesOwn.never rfl (pi_tup (pv 3)) (pg_tup rfl (pgs_cons (pg_name (i := 6) nd rfl (Or.inl rfl)) (pgs_cons (pg_name (i := 7) nd rfl (Or.inl rfl)) (pgs_cons (pg_name (i := 8) nd rfl (Or.inl rfl)) pgs_nil)))) (pss_cons (ps_set (i := 9) nd rfl (Or.inl rfl) (pe_op op_mul (pe_ix ix_tup (pv 8) pe_int (fun _ _ => rfl)) (pe_op op_fdivW (pv 4) (pe_ix ix_tup (pv 8) pe_int (fun _ _ => rfl)))))
      (pss_cons (ps_if (pt_cmpR op_gt (pv 9) (pe_op op_mul (pe_dget2 (hu_of hr) (pv 1) (pe_tup (pa_cons (pv 6) (pa_cons (pv 7) pa_nil))) pe_int ⟨rfl, rfl, rfl, rfl⟩) (pe_op op_fdivW (pv 4) pe_int)) (nomark _)) (pss_one (ps_ret pe_non)) pss_nil)
      (pss_cons (ps_asg (pe_op op_sub (pe_ix ix_list (pv 5) (pv 6) (fun _ _ => rfl)) (pv 9)) (pg_sub (pv 5) (pv 6) set_list))
      (pss_one (ps_asg (pe_op op_add (pe_ix ix_list (pv 5) (pv 7) (fun _ _ => rfl)) (pv 9)) (pg_sub (pv 5) (pv 7) set_list)))))))
      (pss_cons (ps_setLc (i := 10) (own := [("_law_row", 13)]) rfl nd rfl rfl (sw_true rfl rfl rfl (by decide +kernel)) (pi_tup (pv 3)) (blkOk_by (N := ["_law_many", "_law_counted", "_law_ends_here", "_law_flow", "_law_measure_here", "_law_surplus", "_law_i", "_law_j", "_law_amount_here", "_law_number", "_law_pairs_here", "_law_inner", "_law_worth_here", "_law_row", "_law_place"]) (sc := defScope s_law_worth) (by decide +kernel)) (fun _ _ _ _ _ => (pg_name (i := 13) nd rfl (Or.inl rfl))) (fun _ _ _ _ _ => pts_nil) (fun _ _ _ _ _ => (pe_tup (pa_cons (pe_callB (call_min2 rfl) (by rfl) E.f_min (by decide +kernel) (pa_cons (pe_ix ix_tup (pv 13) pe_int (fun _ _ => rfl)) (pa_cons (pe_ix ix_tup (pv 13) pe_int (fun _ _ => rfl)) pa_nil))) (pa_cons (pe_callB (call_max2 rfl) (by rfl) E.f_max (by decide +kernel) (pa_cons (pe_ix ix_tup (pv 13) pe_int (fun _ _ => rfl)) (pa_cons (pe_ix ix_tup (pv 13) pe_int (fun _ _ => rfl)) pa_nil))) pa_nil)))))
      (pss_cons (ps_setLc (i := 11) (own := [("_law_place", 14)]) rfl nd rfl rfl (sw_true rfl rfl rfl (by decide +kernel)) (pi_range1 (by rfl) E.f_range (pa_cons (pv 0) pa_nil)) (blkOk_by (N := ["_law_many", "_law_counted", "_law_ends_here", "_law_flow", "_law_measure_here", "_law_surplus", "_law_i", "_law_j", "_law_amount_here", "_law_number", "_law_pairs_here", "_law_inner", "_law_worth_here", "_law_row", "_law_place"]) (sc := defScope s_law_worth) (by decide +kernel)) (fun _ _ _ _ _ => (pg_name (i := 14) nd rfl (Or.inl rfl))) (fun _ _ _ _ _ => (pts_one (PW.pt (pw_and (pt_cmpR op_notIn_seq (pv 14) (pe_ix ix_tup (pv 2) pe_int (fun _ _ => rfl)) (by rfl)) (pw_and1 (pt_cmpR op_notIn_seq (pv 14) (pe_ix ix_tup (pv 2) pe_int (fun _ _ => rfl)) (by rfl))))))) (fun _ _ _ _ _ => (pv 14)))
      (pss_cons (ps_if (PW.pt (pw_or (pt_cmpR op_lt (pe_lenSetP rfl (hu64 hr) (by rfl) E.f_len (by rfl) E.f_set (pv 10)) (pe_callB call_len_seq (by rfl) E.f_len PySem.boot_len (pa_cons (pv 10) pa_nil)) (nomark _)) (pw_or1 (pt_cmpR (op_neD hr.units) (pe_lc (own := [("_law_place", 14)]) rfl nd (pi_list (pv 11)) (blkOk_by (N := ["_law_many", "_law_counted", "_law_ends_here", "_law_flow", "_law_measure_here", "_law_surplus", "_law_i", "_law_j", "_law_amount_here", "_law_number", "_law_pairs_here", "_law_inner", "_law_worth_here", "_law_row", "_law_place"]) (sc := defScope s_law_worth) (by decide +kernel)) (fun _ _ _ _ _ => (pg_name (i := 14) nd rfl (Or.inl rfl))) (fun _ _ _ _ _ => (pts_one (pt_cmpR op_ne (pe_ix ix_list (pv 5) (pv 14) (fun _ _ => rfl)) pe_int (nomark _)))) (fun _ _ _ _ _ => (pv 14))) (pe_lst pa_nil) (nomark _))))) (pss_one (ps_ret pe_non)) pss_nil)
      (pss_cons (ps_set (i := 12) nd rfl (Or.inl rfl) (pe_op op_sub pe_int (pe_callB (cr_sum rfl) (by rfl) E.f_sum (by decide +kernel) (pa_cons (pe_lc (own := [("_law_place", 14)]) rfl nd (pi_tup (pe_ix ix_tup (pv 2) pe_int (fun _ _ => rfl))) (blkOk_by (N := ["_law_many", "_law_counted", "_law_ends_here", "_law_flow", "_law_measure_here", "_law_surplus", "_law_i", "_law_j", "_law_amount_here", "_law_number", "_law_pairs_here", "_law_inner", "_law_worth_here", "_law_row", "_law_place"]) (sc := defScope s_law_worth) (by decide +kernel)) (fun _ _ _ _ _ => (pg_name (i := 14) nd rfl (Or.inl rfl))) (fun _ _ _ _ _ => pts_nil) (fun _ _ _ _ _ => (pe_ix ix_list (pv 5) (pv 14) (fun _ _ => rfl)))) pa_nil))))
      (pss_cons (ps_if (pt_cmpR op_gt (pe_op op_mod (pe_op op_mul (pv 12) pe_int) (pv 4)) pe_int (nomark _)) (pss_one (ps_ret pe_non)) pss_nil)
      (pss_one (ps_ret (pe_op op_fdivW (pe_op op_mul (pv 12) pe_int) (pv 4)))))))))))))
def t_law_is_let_by (K : PySem.W.Frag) (p_is_least_cut : Sp0) : TS := (tSeq (tAsg (tVar 3) (gTup K 2 (gCons (gName 4) (gCons (gName 5) gNil))))
  (tSeq (tFor (iList K (tVar 4)) (gName 6) (tIfS (tTest (tOp rNe (tF 4 p_is_least_cut (tCons (tVar 0) (tCons (tOp (rIxT K) (tVar 1) (tC (.int 0))) (tCons (tOp (rIxT K) (tVar 1) (tC (.int 1))) (tCons (tLst (tCons (tVar 2) (tCons (tVar 6) tNil))) tNil))))) (tOp (rInD K) (tVar 6) (tVar 5)))) (tRet (tC (.bl false))) tNext))
  (tRet (tC (.bl true)))))
theorem sc_law_is_let_by : FnScope ["_law_web_here", "_law_ends_here", "_law_flow", "_law_told", "_law_sides", "_law_least", "_law_side"] ["_law_web_here", "_law_ends_here", "_law_flow", "_law_told"] (defScope s_law_is_let_by) := ⟨rfl, rfl, rfl, by decide +kernel, rfl, by decide +kernel, by decide +kernel⟩
theorem ok_law_is_let_by {K : PySem.W.Frag} {mg : Str → Option Value} {k : Nat} {sp : Sp0} {p_is_least_cut : Sp0} (E : En K mg) (h_is_least_cut : Okf K mg d_is_least_cut ["web", "froms", "tos", "paper"] k p_is_least_cut)
    (pure : ∀ vs H Q, sp vs H Q → t_law_is_let_by K p_is_least_cut { nx := fun _ H' => Q .non H', rt := Q } (start ["_law_web_here", "_law_ends_here", "_law_flow", "_law_told", "_law_sides", "_law_least", "_law_side"] vs) H) : Okf K mg d_law_is_let_by ["_law_web_here", "_law_ends_here", "_law_flow", "_law_told"] (k + 1) sp := by
  refine okf_of (d := d_law_is_let_by) (N := ["_law_web_here", "_law_ends_here", "_law_flow", "_law_told", "_law_sides", "_law_least", "_law_side"]) (t_law_is_let_by K p_is_least_cut) E.fd_law_is_let_by sc_law_is_let_by (fun _ _ _ _ _ _ us hl => match us, hl with | [_, _, _, _], _ => rfl) (fun P w base cdv A outer s H Ex hr => ?_) pure
  have nd := (sc_law_is_let_by).nd
  exact (pss_cons (ps_asg (pv 3) (pg_tup rfl (pgs_cons (pg_name (i := 4) nd rfl (Or.inl rfl)) (pgs_cons (pg_name (i := 5) nd rfl (Or.inl rfl)) pgs_nil))))
      (pss_cons (ps_for PassesOwn.never rfl (pi_list (pv 4)) (pg_name (i := 6) nd rfl (Or.inl rfl)) (pss_one (ps_if (pt_cmpR op_ne (pe_f h_is_least_cut hr rfl E.g_is_least_cut (pa_cons (pv 0) (pa_cons (pe_ix ix_tup (pv 1) pe_int (fun _ _ => rfl)) (pa_cons (pe_ix ix_tup (pv 1) pe_int (fun _ _ => rfl)) (pa_cons (pe_lst (pa_cons (pv 2) (pa_cons (pv 6) pa_nil))) pa_nil))))) (pe_cmpR (op_inD (hu65 hr)) (pv 6) (pv 5) rfl) (nomark _)) (pss_one (ps_ret pe_bl)) pss_nil)))
      (pss_one (ps_ret pe_bl))))
def t_law (K : PySem.W.Frag) (p_law_draws p_law_web p_law_rows p_Web_init p_law_parts p_law_ends p_law_least_sides p_halved_flow p_shortest_flow p_pushed_flow p_law_sides_between p_law_cell p_law_worth p_law_is_let_by : Sp0) : TS := (tSeq (tAsg (tF 3 p_law_draws (tCons (tVar 0) (tCons (tC (.int 0)) (tCons (tC (.int 200)) tNil)))) (gName 1))
  (tSeq (tAsg (tF 3 p_law_web (tCons (tVar 1) (tCons (tC (.int 2)) (tCons (tC (.int 9)) tNil)))) (gTup K 2 (gCons (gName 2) (gCons (gName 3) gNil))))
  (tSeq (tAsg (tMk (He.ga K "Web") 3 p_Web_init (tCons (tVar 2) (tCons (tF 2 p_law_rows (tCons (tVar 1) (tCons (tVar 3) tNil))) tNil))) (gName 4))
  (tSeq (tAsg (tF 1 p_law_parts (tCons (tVar 3) tNil)) (gName 5))
  (tSeq (tFor (iRng1 (tCons (tC (.int 2)) tNil)) (gName 6) (tSeq (tAsg (tF 2 p_law_ends (tCons (tVar 1) (tCons (tVar 2) tNil))) (gName 7))
  (tSeq (tAsg (tF 3 p_law_least_sides (tCons (tVar 2) (tCons (tVar 5) (tCons (tVar 7) tNil)))) (gTup K 2 (gCons (gName 8) (gCons (gName 9) gNil))))
  (tSeq (tAsg (tLst (tCons (tOp (rIxT K) (tF 3 p_shortest_flow (tCons (tVar 4) (tCons (tOp (rIxT K) (tVar 7) (tC (.int 0))) (tCons (tOp (rIxT K) (tVar 7) (tC (.int 1))) tNil)))) (tC (.int 0))) (tCons (tOp (rIxT K) (tF 3 p_halved_flow (tCons (tVar 4) (tCons (tOp (rIxT K) (tVar 7) (tC (.int 0))) (tCons (tOp (rIxT K) (tVar 7) (tC (.int 1))) tNil)))) (tC (.int 0))) tNil))) (gName 10))
  (tSeq (tDrop (tBM K "list" rAppend (tVar 10) (tCons (tF 3 p_pushed_flow (tCons (tVar 4) (tCons (tOp (rIxT K) (tVar 7) (tC (.int 0))) (tCons (tOp (rIxT K) (tVar 7) (tC (.int 1))) tNil)))) tNil)))
  (tSeq (tAsg (tF 2 p_law_sides_between (tCons (tVar 2) (tCons (tVar 7) tNil))) (gName 11))
  (tSeq (tAsg (tOp rCat (tSl7 K (tVar 11) (tOp rModu (tCB rAbsQ (tCons (tF 2 p_law_cell (tCons (tVar 0) (tCons (tC (.int 33)) tNil))) tNil)) (tC (.int 7)))) (tSl (rSlL K) (tVar 9) tNoPart (tPart (tC (.int 3))))) (gName 12))
  (tFor (iList K (tVar 10)) (gName 13) (tSeq (tIfS (tTest (tOp rNe (tF 4 p_law_worth (tCons (tVar 2) (tCons (tVar 5) (tCons (tVar 7) (tCons (tVar 13) tNil))))) (tVar 8))) (tRet (tC (.bl false))) tNext)
  (tIfS (tNot (tB (tF 4 p_law_is_let_by (tCons (tVar 4) (tCons (tVar 7) (tCons (tVar 13) (tCons (tTup (tCons (tVar 12) (tCons (tVar 9) tNil))) tNil))))))) (tRet (tC (.bl false))) tNext))))))))))
  (tRet (tC (.bl true))))))))
theorem sc_law : FnScope ["_law_script", "_law_draws_here", "_law_many", "_law_ties", "_law_web_here", "_law_counted", "_law_turn", "_law_ends_here", "_law_least", "_law_sides", "_law_flows", "_law_every", "_law_some", "_law_flow"] ["_law_script"] (defScope s_law) := ⟨rfl, rfl, rfl, by decide +kernel, rfl, by decide +kernel, by decide +kernel⟩
theorem ok_law {K : PySem.W.Frag} {mg : Str → Option Value} {k : Nat} {sp : Sp0} {p_law_draws p_law_web p_law_rows p_Web_init p_law_parts p_law_ends p_law_least_sides p_halved_flow p_shortest_flow p_pushed_flow p_law_sides_between p_law_cell p_law_worth p_law_is_let_by : Sp0} (E : En K mg) (h_law_draws : Okf K mg d_law_draws ["_law_script", "_law_at", "_law_many"] (k + 1) p_law_draws) (h_law_web : Okf K mg d_law_web ["_law_draws_here", "_law_least", "_law_most"] (k + 1) p_law_web) (h_law_rows : Okf K mg d_law_rows ["_law_draws_here", "_law_ties"] (k + 1) p_law_rows) (h_Web_init : Okf K mg d_Web_init ["self", "many", "ties"] k p_Web_init) (h_law_parts : Okf K mg d_law_parts ["_law_ties"] (k + 1) p_law_parts) (h_law_ends : Okf K mg d_law_ends ["_law_draws_here", "_law_many"] (k + 1) p_law_ends) (h_law_least_sides : Okf K mg d_law_least_sides ["_law_many", "_law_counted", "_law_ends_here"] (k + 1) p_law_least_sides) (h_halved_flow : Okf K mg d_halved_flow ["web", "froms", "tos"] (k + 1) p_halved_flow) (h_shortest_flow : Okf K mg d_shortest_flow ["web", "froms", "tos"] (k + 1) p_shortest_flow) (h_pushed_flow : Okf K mg d_pushed_flow ["web", "froms", "tos"] (k + 1) p_pushed_flow) (h_law_sides_between : Okf K mg d_law_sides_between ["_law_many", "_law_ends_here"] (k + 1) p_law_sides_between) (h_law_cell : Okf K mg d_law_cell ["_law_script", "_law_k"] (k + 1) p_law_cell) (h_law_worth : Okf K mg d_law_worth ["_law_many", "_law_counted", "_law_ends_here", "_law_flow"] (k + 1) p_law_worth) (h_law_is_let_by : Okf K mg d_law_is_let_by ["_law_web_here", "_law_ends_here", "_law_flow", "_law_told"] (k + 1) p_law_is_let_by)
    (pure : ∀ vs H Q, sp vs H Q → t_law K p_law_draws p_law_web p_law_rows p_Web_init p_law_parts p_law_ends p_law_least_sides p_halved_flow p_shortest_flow p_pushed_flow p_law_sides_between p_law_cell p_law_worth p_law_is_let_by { nx := fun _ H' => Q .non H', rt := Q } (start ["_law_script", "_law_draws_here", "_law_many", "_law_ties", "_law_web_here", "_law_counted", "_law_turn", "_law_ends_here", "_law_least", "_law_sides", "_law_flows", "_law_every", "_law_some", "_law_flow"] vs) H) : Okf K mg d_law ["_law_script"] ((k + 1) + 1) sp := by
  refine okf_of (d := d_law) (N := ["_law_script", "_law_draws_here", "_law_many", "_law_ties", "_law_web_here", "_law_counted", "_law_turn", "_law_ends_here", "_law_least", "_law_sides", "_law_flows", "_law_every", "_law_some", "_law_flow"]) (t_law K p_law_draws p_law_web p_law_rows p_Web_init p_law_parts p_law_ends p_law_least_sides p_halved_flow p_shortest_flow p_pushed_flow p_law_sides_between p_law_cell p_law_worth p_law_is_let_by) E.fd_law sc_law (fun _ _ _ _ _ _ us hl => match us, hl with | [_], _ => rfl) (fun P w base cdv A outer s H Ex hr => ?_) pure
  have nd := (sc_law).nd
  exact (pss_cons (ps_set (i := 1) nd rfl (Or.inl rfl) (pe_f h_law_draws hr rfl E.g_law_draws (pa_cons (pv 0) (pa_cons pe_int (pa_cons pe_int pa_nil)))))
      (pss_cons (ps_asg (pe_f h_law_web hr rfl E.g_law_web (pa_cons (pv 1) (pa_cons pe_int (pa_cons pe_int pa_nil)))) (pg_tup rfl (pgs_cons (pg_name (i := 2) nd rfl (Or.inl rfl)) (pgs_cons (pg_name (i := 3) nd rfl (Or.inl rfl)) pgs_nil))))
      (pss_cons (ps_set (i := 4) nd rfl (Or.inl rfl) (pe_mk E.mk_Web h_Web_init rfl hr rfl E.g_Web (pa_cons (pv 2) (pa_cons (pe_f h_law_rows hr rfl E.g_law_rows (pa_cons (pv 1) (pa_cons (pv 3) pa_nil))) pa_nil))))
      (pss_cons (ps_set (i := 5) nd rfl (Or.inl rfl) (pe_f h_law_parts hr rfl E.g_law_parts (pa_cons (pv 3) pa_nil)))
      (pss_cons (ps_for PassesOwn.never rfl (pi_range1 (by rfl) E.f_range (pa_cons pe_int pa_nil)) (pg_name (i := 6) nd rfl (Or.inl rfl)) (pss_cons (ps_set (i := 7) nd rfl (Or.inl rfl) (pe_f h_law_ends hr rfl E.g_law_ends (pa_cons (pv 1) (pa_cons (pv 2) pa_nil))))
      (pss_cons (ps_asg (pe_f h_law_least_sides hr rfl E.g_law_least_sides (pa_cons (pv 2) (pa_cons (pv 5) (pa_cons (pv 7) pa_nil)))) (pg_tup rfl (pgs_cons (pg_name (i := 8) nd rfl (Or.inl rfl)) (pgs_cons (pg_name (i := 9) nd rfl (Or.inl rfl)) pgs_nil))))
      (pss_cons (ps_set (i := 10) nd rfl (Or.inl rfl) (pe_lst (pa_cons (pe_ix ix_tup (pe_f h_shortest_flow hr rfl E.g_shortest_flow (pa_cons (pv 4) (pa_cons (pe_ix ix_tup (pv 7) pe_int (fun _ _ => rfl)) (pa_cons (pe_ix ix_tup (pv 7) pe_int (fun _ _ => rfl)) pa_nil)))) pe_int (fun _ _ => rfl)) (pa_cons (pe_ix ix_tup (pe_f h_halved_flow hr rfl E.g_halved_flow (pa_cons (pv 4) (pa_cons (pe_ix ix_tup (pv 7) pe_int (fun _ _ => rfl)) (pa_cons (pe_ix ix_tup (pv 7) pe_int (fun _ _ => rfl)) pa_nil)))) pe_int (fun _ _ => rfl)) pa_nil))))
      (pss_cons (ps_expr (pe_bm PySem.F.plainAttrs_list PySem.F.slot_list_append PySem.F.type_list_append mt_append (pv 10) (pa_cons (pe_f h_pushed_flow hr rfl E.g_pushed_flow (pa_cons (pv 4) (pa_cons (pe_ix ix_tup (pv 7) pe_int (fun _ _ => rfl)) (pa_cons (pe_ix ix_tup (pv 7) pe_int (fun _ _ => rfl)) pa_nil)))) pa_nil)))
      (pss_cons (ps_set (i := 11) nd rfl (Or.inl rfl) (pe_f h_law_sides_between hr rfl E.g_law_sides_between (pa_cons (pv 2) (pa_cons (pv 7) pa_nil))))
      (pss_cons (ps_set (i := 12) nd rfl (Or.inl rfl) (pe_op op_cat (pe_sl7 (pv 11) (pe_op op_mod (pe_callB call_abs (by rfl) E.f_abs (by decide +kernel) (pa_cons (pe_f h_law_cell hr rfl E.g_law_cell (pa_cons (pv 0) (pa_cons pe_int pa_nil))) pa_nil)) pe_int)) (pe_slice sl_list (pv 9) po_none (po_some pe_int))))
      (pss_one (ps_for PassesOwn.never rfl (pi_list (pv 10)) (pg_name (i := 13) nd rfl (Or.inl rfl)) (pss_cons (ps_if (pt_cmpR op_ne (pe_f h_law_worth hr rfl E.g_law_worth (pa_cons (pv 2) (pa_cons (pv 5) (pa_cons (pv 7) (pa_cons (pv 13) pa_nil))))) (pv 8) (nomark _)) (pss_one (ps_ret pe_bl)) pss_nil)
      (pss_one (ps_if (pt_not (pt_val (pe_f h_law_is_let_by hr rfl E.g_law_is_let_by (pa_cons (pv 4) (pa_cons (pv 7) (pa_cons (pv 13) (pa_cons (pe_tup (pa_cons (pv 12) (pa_cons (pv 9) pa_nil))) pa_nil))))) (by intro _; rfl))) (pss_one (ps_ret pe_bl)) pss_nil))))))))))))
      (pss_one (ps_ret pe_bl)))))))
end Cs
namespace Cs
open PySem PySem.Spec L2
local macro_rules | `(tactic| walk_at "st") => `(tactic| simp only [L2.start, List.map_cons, List.map_nil, List.length_cons, List.length_nil, Nat.zero_add, Nat.reduceAdd, Nat.reduceSub, Nat.sub_self, List.replicate, List.append_nil, List.cons_append, List.nil_append])
local macro_rules | `(tactic| walk_at "seq") => `(tactic| first
  | assumption
  | exact SqT.of (by assumption)
  | exact SqL.of (by assumption)
  | exact SqT.of upd_same
  | exact SqL.of upd_same
  | ((with_reducible refine' L2.Same.seqT ?q1 ?q2); (case q1 => first | assumption | exact sameNew (by assumption)); (case q2 => walk_at "seq"))
  | ((with_reducible refine' L2.Same.seqL ?q1 ?q2); (case q1 => first | assumption | exact sameNew (by assumption)); (case q2 => walk_at "seq"))
  | ((with_reducible refine' L2.Same.seqS ?q1 ?q2); (case q1 => first | assumption | exact sameNew (by assumption)); (case q2 => walk_at "seq"))
  | ((with_reducible refine' L2.Same.amt ?q1 ?q2); (case q1 => first | assumption | exact sameNew (by assumption)); (case q2 => walk_at "seq"))
  | ((with_reducible refine' sqS_l ?q1); (case q1 => walk_at "seq"))
  | ((with_reducible refine' sqS_r ?q1); (case q1 => walk_at "seq")))
local macro_rules | `(tactic| walk_at "same") => `(tactic| first
  | exact L2.Same.refl _
  | assumption
  | exact sameNew (by assumption)
  | ((with_reducible refine' L2.Same.trans ?q1 ?q2); (case q2 => first | assumption | exact sameNew (by assumption)); (case q1 => walk_at "same")))
local macro_rules | `(tactic| walk_at "gs") => `(tactic| repeat walk_at "g")
local macro_rules | `(tactic| walk_at "g") => `(tactic| first
  | with_reducible refine' go_seq ?_
  | with_reducible refine' go_asg ?_
  | with_reducible refine' go_ret ?_
  | with_reducible refine' go_next ?_
  | with_reducible refine' go_if ?_
  | with_reducible refine' go_drop ?_
  | ((with_reducible refine' go_name ?q1 ?_); (case q1 => (simp only [L2.wipe, List.set_cons_succ, List.set_cons_zero]; exact rfl)))
  | ((with_reducible refine' go_var ?q1 ?_); (case q1 => exact rfl))
  | with_reducible refine' go_c ?_
  | with_reducible refine' go_op ?_
  | with_reducible refine' go_un ?_
  | with_reducible refine' go_cb ?_
  | with_reducible refine' go_cons ?_
  | with_reducible refine' go_nil ?_
  | with_reducible refine' go_test ?_
  | with_reducible refine' go_B ?_
  | with_reducible refine' go_not ?_
  | with_reducible refine' go_and ?_
  | with_reducible refine' go_or ?_
  | with_reducible refine' go_andV ?_
  | with_reducible refine' go_orV ?_
  | with_reducible refine' go_notV ?_
  | with_reducible refine' go_chain ?_
  | with_reducible refine' go_bl ?_
  | with_reducible refine' go_F ?_
  | with_reducible refine' go_u1 ?_
  | with_reducible refine' go_u2 ?_
  | with_reducible refine' go_u3 ?_
  | with_reducible refine' go_u4 ?_
  | with_reducible refine' go_I0 ?_
  | ((with_reducible refine' go_I ?q1 ?_); (try (case q1 => first | exact cmB _ _ | exact cmB2 _ _ | omega | decide | exact Or.inl ⟨by omega, by omega⟩ | exact Or.inr ⟨by omega, by omega⟩)))
  | with_reducible refine' go_U ?_
  | with_reducible refine' go_eqI ?_
  | with_reducible refine' go_neI ?_
  | with_reducible refine' go_eqB ?_
  | with_reducible refine' go_neB ?_
  | with_reducible refine' go_isN ?_
  | with_reducible refine' go_notN ?_
  | ((with_reducible refine' go_ixT ?q1 ?q2 ?_); (case q1 => walk_at "seq"); (case q2 => exact rfl))
  | ((with_reducible refine' go_ixL ?q1 ?q2 ?_); (case q1 => walk_at "seq"); (case q2 => exact rfl))
  | ((with_reducible refine' go_ixS ?q1 ?q2 ?_); (case q1 => walk_at "seq"); (case q2 => exact rfl))
  | ((with_reducible refine' go_len ?q1 ?_); (case q1 => walk_at "seq"))
  | with_reducible refine' go_tup ?_
  | with_reducible refine' go_lst ?_
  | ((with_reducible refine' go_new ?q1 ?_); (case q1 => (simp only [List.length_cons, List.length_nil]; decide)))
  | with_reducible refine' go_par ?_
  | ((with_reducible refine' go_par2 ?q1 ?_); (case q1 => (simp only [L2.wipe, List.set_cons_succ, List.set_cons_zero]; exact rfl)))
  | ((with_reducible refine' go_aug ?q1 ?_); (case q1 => exact rfl))
  | with_reducible refine' go_ipI ?_
  | with_reducible refine' go_max2 ?_
  | with_reducible refine' go_min2 ?_
  | with_reducible refine' go_isi_int ?_
  | with_reducible refine' go_isi_bool ?_
  | with_reducible refine' iteT ?_
  | with_reducible refine' iteF ?_
  | with_reducible refine' go_iteNT ?_
  | with_reducible refine' go_iteNF ?_
  | with_reducible refine' go_for ?_
  | with_reducible refine' go_iL ?_
  | with_reducible refine' go_iT ?_
  | with_reducible refine' go_iS ?_
  | with_reducible refine' go_iR1 ?_
  | with_reducible refine' go_iR2 ?_
  | with_reducible refine' go_iE ?_
  | with_reducible refine' go_iZ ?_
  | with_reducible refine' go_iES ?_
  | with_reducible refine' go_lc ?_
  | with_reducible refine' go_yes ?_
  | ((with_reducible refine' go_gTup ?q1 ?q2 ?_); (case q1 => walk_at "seq"); (case q2 => exact rfl))
  | ((with_reducible refine' go_gSeq ?q1 ?q2 ?_); (case q1 => walk_at "seq"); (case q2 => exact rfl))
  | with_reducible refine' go_gCons ?_
  | with_reducible refine' go_gNil ?_
  | with_reducible refine' go_gSub ?_
  | with_reducible refine' go_din ?_
  | with_reducible refine' go_dnotin ?_
  | with_reducible refine' go_dget ?_
  | with_reducible refine' go_dget2 ?_
  | with_reducible refine' go_dput ?_
  | with_reducible refine' go_newD ?_
  | with_reducible refine' go_fld ?_
  | with_reducible refine' go_sfld ?_
  | with_reducible refine' go_m ?_
  | with_reducible refine' go_bm ?_
  | with_reducible refine' go_bm0 ?_
  | with_reducible refine' go_sl ?_
  | with_reducible refine' go_part ?_
  | with_reducible refine' go_nopart ?_
  | with_reducible refine' go_mk ?_
  | with_reducible refine' go_break ?_
  | with_reducible refine' go_iK ?_
  | with_reducible refine' go_intB ?_
  | with_reducible refine' go_augS ?_)
/-! ### amounts, small defs -/
def sp_is_whole (a b c : V) (H : Hp) (Q : VK) : Prop := ∃ x lo hi : Int, a = .int x ∧ b = .int lo ∧ c = .int hi ∧ Q (.bl (decide (lo ≤ x) && decide (x ≤ hi))) H
theorem pure_is_whole {K : PySem.W.Frag} : ∀ vs H Q, u3 sp_is_whole vs H Q → t_is_whole K { nx := fun _ H' => Q .non H', rt := Q } (L2.start ["thing", "least", "most"] vs) H := by
  rintro _ H Q ⟨_, _, _, rfl, x, lo, hi, rfl, rfl, rfl, hQ⟩
  unfold t_is_whole
  walk_at "st"
  repeat walk_at "g"
  refine ite_dec (fun h => ?_) (fun h => ?_)
  · repeat walk_at "g"
    rw [decide_eq_true h, Bool.true_and] at hQ
    exact hQ
  · rw [decide_eq_false h, Bool.false_and] at hQ
    exact hQ
/-- a list or a tuple that is seen -/
def IsRow (K : PySem.W.Frag) (H : Hp) (v : V) (xs : List V) : Prop := ∃ a, v = .ref a ∧ SqS K H a xs
theorem tyS {K : PySem.W.Frag} {H : Hp} {a : Addr} {xs : List V} (h : SqS K H a xs) : TyX K H (.ref a) (.type "list") ∨ TyX K H (.ref a) (.type "tuple") := by
  rcases h with (h | ⟨o, h⟩) | h
  · rcases h with h | ⟨o, h⟩
    · exact .inl (.base (.lst h))
    · exact .inl (.base (.frz h))
  · obtain ⟨its, n, h, c, _⟩ := h
    exact .inl (.kList h c)
  · rcases h with (h | ⟨o, h⟩) | h
    · exact .inr (.base (.tup h))
    · exact .inr (.fTuple h)
    · obtain ⟨o, its, n, h, c, _⟩ := h
      exact .inr (.kTuple h c)
def sp_is_row (K : PySem.W.Frag) (a : V) (H : Hp) (Q : VK) : Prop := ((∃ x, a = .int x) ∧ ∀ H1, Same H H1 → Q (.bl false) H1) ∨ (∃ xs, IsRow K H a xs) ∧ ∀ H1, Same H H1 → Q (.bl true) H1
theorem pure_is_row {K : PySem.W.Frag} : ∀ vs H Q, u1 (sp_is_row K) vs H Q → t_is_row K { nx := fun _ H' => Q .non H', rt := Q } (L2.start ["thing"] vs) H := by
  rintro _ H Q ⟨v, rfl, h⟩
  unfold t_is_row
  walk_at "st"
  repeat walk_at "g"
  intro p np
  repeat walk_at "g"
  rcases h with ⟨⟨x, rfl⟩, hQ⟩ | ⟨⟨xs, a, rfl, hS⟩, hQ⟩
  · exact ⟨_, p, _, _, _, false, rfl, upd_same, .cons (.ty _) (.cons (.ty _) .nil), .base (.int x), kitAny_cons (b := false) (kit_ty (by decide +kernel)) (fun _ => kitAny_cons (b := false) (kit_ty (by decide +kernel)) (fun _ => kitAny_nil) (fun z => by cases z)) (fun z => by cases z), hQ _ (sameNew np)⟩
  · rcases tyS ((sameNew np).seqS hS) with ty | ty
    · exact ⟨_, p, _, _, _, true, rfl, upd_same, .cons (.ty _) (.cons (.ty _) .nil), ty, kitAny_cons (b := true) (kit_ty (by decide +kernel)) (fun z => by cases z) (fun _ => rfl), hQ _ (sameNew np)⟩
    · exact ⟨_, p, _, _, _, true, rfl, upd_same, .cons (.ty _) (.cons (.ty _) .nil), ty, kitAny_cons (b := false) (kit_ty (by decide +kernel)) (fun _ => kitAny_cons (b := true) (kit_ty (by decide +kernel)) (fun z => by cases z) (fun _ => rfl)) (fun z => by cases z), hQ _ (sameNew np)⟩
def sp_divisor (a b : V) (H : Hp) (Q : VK) : Prop := ∃ x y : Nat, a = .int x ∧ b = .int y ∧ Q (.int (Nat.gcd x y : Nat)) H
theorem pure_divisor {K : PySem.W.Frag} : ∀ vs H Q, u2 sp_divisor vs H Q → t_divisor K { nx := fun _ H' => Q .non H', rt := Q } (L2.start ["one", "other"] vs) H := by
  rintro _ H Q ⟨_, _, rfl, x, y, rfl, rfl, hQ⟩
  unfold t_divisor
  walk_at "st"
  repeat walk_at "g"
  refine ⟨fun m σ H' => ∃ x' y' : Nat, σ = [some (.int x'), some (.int y')] ∧ m = y' ∧ Nat.gcd x' y' = Nat.gcd x y ∧ H' = H, ⟨y, x, y, rfl, rfl, rfl, rfl⟩, ?_⟩
  rintro m σ H' ⟨x', y', rfl, rfl, e, rfl⟩
  repeat walk_at "g"
  refine ite_dec (fun h => ?_) (fun h => ?_)
  · refine ⟨fun σ' H2 => ∃ x2 y2 : Nat, σ' = [some (.int x2), some (.int y2)] ∧ y2 < m ∧ Nat.gcd x2 y2 = Nat.gcd x y ∧ H2 = H', ?_, ?_⟩
    · rintro σ' H2 ⟨x2, y2, rfl, lt, e2, rfl⟩
      exact ⟨y2, lt, x2, y2, rfl, rfl, e2, rfl⟩
    · repeat walk_at "g"
      have m0 : 0 < m := by omega
      refine ⟨m, x' % m, ?_, Nat.mod_lt _ m0, ?_, rfl⟩
      · rw [Int.natCast_emod]
      · rw [← e, Nat.gcd_comm x' m, Nat.gcd_rec m x', Nat.gcd_comm]
  · have m0 : m = 0 := by omega
    subst m0
    repeat walk_at "g"
    rw [Nat.gcd_zero_right] at e
    rw [e]
    exact hQ

def sp_in_least_terms (a b : V) (H : Hp) (Q : VK) : Prop := ∃ x y : Nat, a = .int x ∧ b = .int y ∧ 0 < y ∧ y < 2 ^ 63 ∧
  ∀ p H1, Same H H1 → H1 p = some (.tup [.int (x / Nat.gcd x y : Nat), .int (y / Nat.gcd x y : Nat)]) → Q (.ref p) H1
theorem divW {x y : Nat} (h0 : 0 < x) (h : x ≤ y) (hy : y < 2 ^ 63) : CDivW 0 (x : Int) := by
  refine ⟨by omega, ?_⟩
  rw [Int.natAbs_natCast]
  have : x.log2 < 63 := (Nat.log2_lt (by omega)).mpr (Nat.lt_of_le_of_lt h hy)
  omega
theorem pure_in_least_terms {K : PySem.W.Frag} : ∀ vs H Q, u2 sp_in_least_terms vs H Q → t_in_least_terms K (u2 sp_divisor) { nx := fun _ H' => Q .non H', rt := Q } (L2.start ["above", "below", "by"] vs) H := by
  rintro _ H Q ⟨_, _, rfl, x, y, rfl, rfl, h0, hy, hQ⟩
  unfold t_in_least_terms
  walk_at "st"
  walk_at "gs"
  refine ⟨x, y, rfl, rfl, ?_⟩
  have g0 : 0 < Nat.gcd x y := Nat.gcd_pos_of_pos_right _ h0
  have gl : Nat.gcd x y ≤ y := Nat.le_of_dvd h0 (Nat.gcd_dvd_right x y)
  walk_at "gs"
  · exact divW g0 gl hy
  walk_at "gs"
  · exact divW g0 gl hy
  walk_at "gs"
  intro p np
  walk_at "gs"
  refine hQ p _ (sameNew np) ?_
  rw [upd_same, Int.natCast_ediv, Int.natCast_ediv]
theorem prodB (p q : Nat) : lowB p * lowB q < 2 ^ 63 := by
  have h1 := lowB_le p
  have h2 := lowB_le q
  have : lowB p * lowB q ≤ 55440 * 55440 := Nat.mul_le_mul h1 h2
  omega
theorem prodB0 (p q : Nat) : 0 < lowB p * lowB q := Nat.mul_pos (lowB_pos p) (lowB_pos q)
def sp_plus (K : PySem.W.Frag) (a b : V) (H : Hp) (Q : VK) : Prop := ∃ p q, Amt K H a p ∧ Amt K H b q ∧ ∀ v H1, Same H H1 → Amt K H1 v (p + q) → Q v H1
theorem pure_plus {K : PySem.W.Frag} : ∀ vs H Q, u2 (sp_plus K) vs H Q → t_plus K (u2 sp_in_least_terms) { nx := fun _ H' => Q .non H', rt := Q } (L2.start ["one", "other"] vs) H := by
  rintro _ H Q ⟨_, _, rfl, p, q, ⟨a, rfl, ha⟩, ⟨b, rfl, hb⟩, hQ⟩
  unfold t_plus
  walk_at "st"
  walk_at "gs"
  refine ⟨lowA p * lowB q + lowA q * lowB p, lowB p * lowB q, by simp only [Int.natCast_add, Int.natCast_mul], by simp only [Int.natCast_mul], prodB0 p q, prodB p q, fun r H1 s h => hQ _ _ s ⟨r, rfl, ?_⟩⟩
  obtain ⟨e1, e2⟩ := low_uniq (prodB0 p q) (low_plus p q)
  rw [e1, e2] at h
  exact SqT.of h
def sp_is_below (K : PySem.W.Frag) (a b : V) (H : Hp) (Q : VK) : Prop := ∃ p q, Amt K H a p ∧ Amt K H b q ∧ Q (.bl (decide (p < q))) H
theorem pure_is_below {K : PySem.W.Frag} : ∀ vs H Q, u2 (sp_is_below K) vs H Q → t_is_below K { nx := fun _ H' => Q .non H', rt := Q } (L2.start ["one", "other"] vs) H := by
  rintro _ H Q ⟨_, _, rfl, p, q, ⟨a, rfl, ha⟩, ⟨b, rfl, hb⟩, hQ⟩
  unfold t_is_below
  walk_at "st"
  walk_at "gs"
  have e : decide ((lowA p : Int) * (lowB q : Nat) < (lowA q : Nat) * (lowB p : Nat)) = decide (p < q) := by
    rw [decide_eq_decide]
    rw [← low_lt p q]
    constructor
    · intro h; exact_mod_cast h
    · intro h; exact_mod_cast h
  show Q _ _
  rw [e]
  exact hQ
def sp_less (K : PySem.W.Frag) (a b : V) (H : Hp) (Q : VK) : Prop := ∃ p q, Amt K H a p ∧ Amt K H b q ∧ q ≤ p ∧ ∀ v H1, Same H H1 → Amt K H1 v (p - q) → Q v H1
theorem pure_less {K : PySem.W.Frag} : ∀ vs H Q, u2 (sp_less K) vs H Q → t_less K (u2 (sp_is_below K)) (u2 sp_in_least_terms) { nx := fun _ H' => Q .non H', rt := Q } (L2.start ["one", "other"] vs) H := by
  rintro _ H Q ⟨_, _, rfl, p, q, ⟨a, rfl, ha⟩, ⟨b, rfl, hb⟩, le, hQ⟩
  unfold t_less
  walk_at "st"
  walk_at "gs"
  refine ⟨p, q, ⟨a, rfl, ha⟩, ⟨b, rfl, hb⟩, ?_⟩
  walk_at "gs"
  refine ite_dec (fun h => absurd h (Nat.not_lt.mpr le)) fun h => ?_
  walk_at "gs"
  have le2 : lowA q * lowB p ≤ lowA p * lowB q := Nat.not_lt.mp fun h => absurd ((low_lt p q).mp h) (Nat.not_lt.mpr le)
  refine ⟨lowA p * lowB q - lowA q * lowB p, lowB p * lowB q, ?_, by simp only [Int.natCast_mul], prodB0 p q, prodB p q, fun r H1 s h => hQ _ _ s ⟨r, rfl, ?_⟩⟩
  · rw [Int.natCast_sub le2]; simp only [Int.natCast_mul]
  obtain ⟨e1, e2⟩ := low_uniq (prodB0 p q) (low_minus p q)
  rw [e1, e2] at h
  exact SqT.of h
def sp_lowest (K : PySem.W.Frag) (a : V) (H : Hp) (Q : VK) : Prop := ∃ p : Nat, a = .int p ∧ ∀ r H1, Same H H1 → H1 r = some (.tup [.int (lowA p : Nat), .int (lowB p : Nat)]) → Q (.ref r) H1
theorem pure_lowest {K : PySem.W.Frag} : ∀ vs H Q, u1 (sp_lowest K) vs H Q → t_lowest K (u2 sp_divisor) { nx := fun _ H' => Q .non H', rt := Q } (L2.start ["number", "common"] vs) H := by
  rintro _ H Q ⟨_, rfl, p, rfl, hQ⟩
  unfold t_lowest
  walk_at "st"
  walk_at "gs"
  refine ⟨p, 55440, rfl, rfl, ?_⟩
  have g0 := gcdB_pos p
  have gl : Nat.gcd p 55440 ≤ 55440 := Nat.le_of_dvd (by decide) (Nat.gcd_dvd_right p 55440)
  walk_at "gs"
  · exact divW g0 gl (by decide)
  walk_at "gs"
  · exact divW g0 gl (by decide)
  walk_at "gs"
  intro r nr
  refine hQ r _ (sameNew nr) ?_
  rw [upd_same]
  unfold lowA lowB
  rw [Int.natCast_ediv, Int.natCast_ediv]
  rfl
/-- amounts, one behind another -/
def Amts (K : PySem.W.Frag) (H : Hp) (xs : List V) (ps : List Nat) : Prop := Paired (Amt K H) xs ps
def sp_total (K : PySem.W.Frag) (a : V) (H : Hp) (Q : VK) : Prop := ∃ l xs ps, a = .ref l ∧ SqL K H l xs ∧ Amts K H xs ps ∧ ∀ v H1, Same H H1 → Amt K H1 v ps.sum → Q v H1
theorem sum_take_nat : ∀ {l : List Nat} {i : Nat} {z : Nat}, l[i]? = some z → (l.take (i + 1)).sum = (l.take i).sum + z
  | [], i, z, h => by simp at h
  | a :: r, 0, z, h => by
    have e : a = z := Option.some.inj h
    subst e
    simp
  | a :: r, i + 1, z, h => by
    have ih := sum_take_nat (l := r) (i := i) (z := z) h
    rw [List.take_succ_cons, List.take_succ_cons, List.sum_cons, List.sum_cons, ih]
    omega
theorem pure_total {K : PySem.W.Frag} {mg : Str → Option Value} (E : En K mg) : ∀ vs H Q, u1 (sp_total K) vs H Q → t_total K (u2 (sp_plus K)) { nx := fun _ H' => Q .non H', rt := Q } (L2.start ["amounts", "found", "one"] vs) H := by
  rintro _ H Q ⟨_, rfl, l, xs, ps, rfl, hl, hp, hQ⟩
  unfold t_total
  walk_at "st"
  walk_at "gs"
  refine ⟨_, rfl, ⟨_, hl⟩, for_list (xs := xs) (fun i σ H' => Same H H' ∧ ∃ v y, σ = [some (.ref l), some v, y] ∧ Amt K H' v (ps.take i).sum) ⟨Same.refl _, _, none, rfl, E.amt0 H⟩ (fun i σ H' _ p => p.1.seqL hl) ?_ ?_⟩
  · rintro i x σ H' hx ⟨s, v, y, rfl, hv⟩
    walk_at "gs"
    obtain ⟨p, hpi, ha⟩ := pairGet hp hx
    refine ⟨_, p, hv, s.amt ha, fun w H1 s1 hw => ⟨s.trans s1, w, _, rfl, ?_⟩⟩
    rw [sum_take_nat hpi]
    exact hw
  · rintro σ H' ⟨s, v, y, rfl, hv⟩
    walk_at "gs"
    rw [pairLen hp, List.take_length] at hv
    exact hQ v H' s hv
/-! ### amounts and rows that come from outside: lists or tuples -/
def AmtS (K : PySem.W.Frag) (H : Hp) (v : V) (p : Nat) : Prop := IsRow K H v [.int (lowA p : Nat), .int (lowB p : Nat)]
theorem _root_.L2.Same.row {K : PySem.W.Frag} {H H' : Hp} {v : V} {xs : List V} (e : Same H H') (h : IsRow K H v xs) : IsRow K H' v xs := by
  obtain ⟨a, e1, h⟩ := h
  exact ⟨a, e1, e.seqS h⟩
theorem Amt.s {K : PySem.W.Frag} {H : Hp} {v : V} {p : Nat} (h : Amt K H v p) : AmtS K H v p := by
  obtain ⟨a, e, h⟩ := h
  exact ⟨a, e, .inr h⟩
def sp_is_amount (K : PySem.W.Frag) (a : V) (H : Hp) (Q : VK) : Prop := ∃ p, AmtS K H a p ∧ ∀ H1, Same H H1 → Q (.bl true) H1
theorem pure_is_amount {K : PySem.W.Frag} : ∀ vs H Q, u1 (sp_is_amount K) vs H Q → t_is_amount K (u1 (sp_is_row K)) (u2 sp_divisor) { nx := fun _ H' => Q .non H', rt := Q } (L2.start ["thing", "number"] vs) H := by
  rintro _ H Q ⟨_, rfl, p, ⟨a, rfl, hS⟩, hQ⟩
  unfold t_is_amount
  walk_at "st"
  walk_at "gs"
  refine .inr ⟨⟨_, a, rfl, hS⟩, fun H1 s1 => ?_⟩
  walk_at "gs"
  refine ite_ndec (fun h => absurd rfl h) fun _ => ?_
  walk_at "gs"
  refine ⟨a, _, rfl, for_seq (s1.seqS hS) (fun i σ H' => Same H1 H' ∧ ∃ y, σ = [some (.ref a), y]) ⟨Same.refl _, none, rfl⟩ (fun i σ H' p => p.1) ?_ ?_⟩
  · rintro i x σ H' hx ⟨s, y, rfl⟩
    obtain ⟨z, rfl⟩ : ∃ z, x = V.int z := by
      match i, hx with
      | 0, hx => exact ⟨_, (Option.some.inj hx).symm⟩
      | 1, hx => exact ⟨_, (Option.some.inj hx).symm⟩
      | i + 2, hx => simp at hx
    walk_at "gs"
    exact ⟨s, _, rfl⟩
  · rintro σ H' ⟨s, y, rfl⟩
    walk_at "gs"
    refine ite_dec (fun _ => ?_) fun h => absurd (Int.natCast_nonneg _) h
    walk_at "gs"
    have b1 := lowB_pos p
    refine ite_dec (fun _ => ?_) fun h => absurd (by omega) h
    walk_at "gs"
    refine ⟨lowA p, lowB p, rfl, rfl, ?_⟩
    walk_at "gs"
    rw [low_cop]
    exact hQ H' (s1.trans s)
def sp_is_weight (K : PySem.W.Frag) (a : V) (H : Hp) (Q : VK) : Prop := ∃ p, AmtS K H a p ∧ lowA p ≤ 1000000000000 ∧ ∀ H1, Same H H1 → Q (.bl true) H1
theorem pure_is_weight {K : PySem.W.Frag} : ∀ vs H Q, u1 (sp_is_weight K) vs H Q → t_is_weight K (u1 (sp_is_amount K)) { nx := fun _ H' => Q .non H', rt := Q } (L2.start ["thing"] vs) H := by
  rintro _ H Q ⟨_, rfl, p, ⟨a, rfl, hS⟩, hp, hQ⟩
  unfold t_is_weight
  walk_at "st"
  walk_at "gs"
  refine ⟨p, ⟨a, rfl, hS⟩, fun H1 s1 => ?_⟩
  walk_at "gs"
  refine ite_dec (fun _ => ?_) fun h => absurd (by omega) h
  walk_at "gs"
  · have := lowB_pos p
    omega
  walk_at "gs"
  have e : (55440 : Int) % (lowB p : Nat) = 0 := by
    rw [show (55440 : Int) = ((55440 : Nat) : Int) from rfl, ← Int.natCast_emod, Nat.mod_eq_zero_of_dvd (lowB_dvd p)]
    rfl
  rw [e]
  exact hQ H1 s1
/-! ### as_tuples: an int; a row of ints -/
def sp_as_tuples0 (a : V) (H : Hp) (Q : VK) : Prop := ∃ x, a = .int x ∧ ∀ H1, Same H H1 → Q (.int x) H1
def sp_as_tuples (K : PySem.W.Frag) (a : V) (H : Hp) (Q : VK) : Prop := ∃ ns : List Int, IsRow K H a (ns.map V.int) ∧ ns.length ≤ 1000 ∧ ∀ p H1, Same H H1 → H1 p = some (.tup (ns.map V.int)) → Q (.ref p) H1
def spF : Sp0 := fun _ _ _ => False
theorem okF {K : PySem.W.Frag} {mg : Str → Option Value} {d : He.DefD} {ps : List Str} {k : Nat} (F : ∃ fd, FunD K d.name d.qual d.params d.body d.scope [] [] (He.fAd K d.at_) fd)
    (hb : ∀ (kV doc pm : Value) (an : Option Addr) (cdv ct : Value) (us : List Value), us.length = ps.length → bindArgs (PySem.W.fnOf d.name d.qual d.params d.body d.scope .none kV doc pm an cdv ct) ⟨us, []⟩ = pure (ps.zip us)) : Okf K mg d ps k spF := by
  obtain ⟨fd, F⟩ := F
  exact ⟨fd, F.kp, F.bindsN hb, fun P w base => ⟨fun _ _ _ _ h => h.1, fun _ _ _ _ _ _ _ _ _ _ _ _ _ h => h.2.elim⟩⟩
theorem pure_as_tuples0 {K : PySem.W.Frag} : ∀ vs H Q, u1 sp_as_tuples0 vs H Q → t_as_tuples K (u1 (sp_is_row K)) spF { nx := fun _ H' => Q .non H', rt := Q } (L2.start ["thing", "part"] vs) H := by
  rintro _ H Q ⟨_, rfl, x, rfl, hQ⟩
  unfold t_as_tuples
  walk_at "st"
  walk_at "gs"
  refine .inl ⟨⟨x, rfl⟩, fun H1 s1 => ?_⟩
  walk_at "gs"
  exact hQ H1 s1
theorem pairInts {ns : List Int} : ∀ {ys : List V} {ks : List Nat}, Paired (fun y k => ∃ n, ns[k]? = some n ∧ y = V.int n) ys ks → ys = ks.map fun k => V.int (ns.getD k 0)
  | _, _, .nil => rfl
  | _, _, .cons ⟨n, h, e⟩ t => by
    rw [List.map_cons, ← pairInts t, e, List.getD_eq_getElem?_getD, h]
    rfl
theorem range_getD (ns : List Int) : (List.range ns.length).map (fun k => V.int (ns.getD k 0)) = ns.map V.int := by
  apply List.ext_getElem?
  intro i
  rw [List.getElem?_map, List.getElem?_map]
  by_cases h : i < ns.length
  · rw [List.getElem?_range h, List.getElem?_eq_getElem h, Option.map_some, Option.map_some, List.getD_eq_getElem?_getD, List.getElem?_eq_getElem h]
    rfl
  · rw [List.getElem?_eq_none (by rw [List.length_range]; omega), List.getElem?_eq_none (by omega)]
    rfl
theorem pure_as_tuples {K : PySem.W.Frag} : ∀ vs H Q, u1 (sp_as_tuples K) vs H Q → t_as_tuples K (u1 (sp_is_row K)) (u1 sp_as_tuples0) { nx := fun _ H' => Q .non H', rt := Q } (L2.start ["thing", "part"] vs) H := by
  rintro _ H Q ⟨_, rfl, ns, ⟨a, rfl, hS⟩, hl, hQ⟩
  unfold t_as_tuples
  walk_at "st"
  walk_at "gs"
  refine .inr ⟨⟨_, a, rfl, hS⟩, fun H1 s1 => ?_⟩
  walk_at "gs"
  refine ⟨a, _, rfl, lcS (s1.seqS hS) (fun _ => true) (fun _ i _ v => ∃ n, ns[i]? = some n ∧ v = V.int n) (by rw [List.length_map]; omega) (fun _ _ _ _ _ _ _ h => h) ?_ ?_⟩
  · intro D i x H' N N' hx hD s mu q1 q2
    rw [List.getElem?_map] at hx
    cases e : ns[i]? with
    | none => rw [e] at hx; cases hx
    | some n =>
      rw [e] at hx
      obtain rfl : V.int n = x := Option.some.inj hx
      walk_at "gs"
      refine ⟨rfl, ?_⟩
      walk_at "gs"
      exact ⟨n, rfl, fun H4 s4 => q1 rfl _ H4 s4 ⟨n, e, rfl⟩⟩
  · intro D H' ys hD s hy pr
    rw [kept_all fun _ _ => rfl, List.length_map] at pr
    have e := pairInts pr
    rw [range_getD] at e
    rw [e] at hy
    walk_at "gs"
    exact ⟨D, _, rfl, .inl ⟨SqL.of hy, fun l hl2 => hQ l _ ((s1.trans s).trans (sameNew hl2)) upd_same⟩⟩
/-! ### webs -/
abbrev Tie := Nat × Nat × Nat
def Row3 (K : PySem.W.Frag) (H : Hp) (v : V) (e : Tie) : Prop := ∃ a w, v = .ref a ∧ SqT K H a [.int e.1, .int e.2.1, w] ∧ Amt K H w e.2.2
def Rows (K : PySem.W.Frag) (H : Hp) (xs : List V) (es : List Tie) : Prop := Paired (Row3 K H) xs es
def Row3S (K : PySem.W.Frag) (H : Hp) (v : V) (e : Tie) : Prop := ∃ w, IsRow K H v [.int e.1, .int e.2.1, w] ∧ AmtS K H w e.2.2
def RowsS (K : PySem.W.Frag) (H : Hp) (v : V) (es : List Tie) : Prop := ∃ xs, IsRow K H v xs ∧ Paired (Row3S K H) xs es
def KvA (K : PySem.W.Frag) (H : Hp) (kvs : List (List Key × V)) (es : List Tie) : Prop := Paired (fun (kv : List Key × V) (e : Tie) => kv.1 = pkN e.1 e.2.1 ∧ Amt K H kv.2 e.2.2) kvs es
theorem _root_.L2.Same.row3 {K : PySem.W.Frag} {H H' : Hp} {v : V} {e : Tie} (s : Same H H') (h : Row3 K H v e) : Row3 K H' v e := by
  obtain ⟨a, w, e1, h1, h2⟩ := h
  exact ⟨a, w, e1, s.seqT h1, s.amt h2⟩
theorem _root_.L2.Same.row3S {K : PySem.W.Frag} {H H' : Hp} {v : V} {e : Tie} (s : Same H H') (h : Row3S K H v e) : Row3S K H' v e := by
  obtain ⟨w, h1, h2⟩ := h
  exact ⟨w, s.row h1, s.row h2⟩
theorem _root_.L2.Same.rows {K : PySem.W.Frag} {H H' : Hp} {xs : List V} {es : List Tie} (s : Same H H') (h : Rows K H xs es) : Rows K H' xs es := pairMono (fun _ _ r => s.row3 r) h
theorem _root_.L2.Same.kva {K : PySem.W.Frag} {H H' : Hp} {xs : List (List Key × V)} {es : List Tie} (s : Same H H') (h : KvA K H xs es) : KvA K H' xs es := pairMono (fun _ _ r => ⟨r.1, s.amt r.2⟩) h
theorem _root_.L2.Same.rowsS {K : PySem.W.Frag} {H H' : Hp} {v : V} {es : List Tie} (s : Same H H') (h : RowsS K H v es) : RowsS K H' v es := by
  obtain ⟨xs, h1, h2⟩ := h
  exact ⟨xs, s.row h1, pairMono (fun _ _ r => s.row3S r) h2⟩
theorem But.tupAt {H H' : Hp} {b p : Addr} {xs : List V} (e : But p H H') (m : Mut (H p)) (h : H b = some (.tup xs)) : H' b = some (.tup xs) := e _ _ (fun z => by subst z; rw [h] at m; exact m) h
theorem But.amt {K : PySem.W.Frag} {H H' : Hp} {p : Addr} {v : V} {q : Nat} (e : But p H H') (m : Mut (H p)) (h : Amt K H v q) : Amt K H' v q := by
  obtain ⟨a, e1, h⟩ := h
  exact ⟨a, e1, e.tupM m h⟩
theorem But.row3 {K : PySem.W.Frag} {H H' : Hp} {p : Addr} {v : V} {t : Tie} (e : But p H H') (m : Mut (H p)) (h : Row3 K H v t) : Row3 K H' v t := by
  obtain ⟨a, w, e1, h1, h2⟩ := h
  exact ⟨a, w, e1, e.tupM m h1, e.amt m h2⟩
/-- the keys of ties -/
def keysN (es : List Tie) : List (Nat × Nat) := es.map fun e => (e.1, e.2.1)
def wf (n : Nat) (wd tt : V) : List (Str × V) := [("many", .int n), ("weights", wd), ("ties", tt)]
def WebI (K : PySem.W.Frag) (H : Hp) (w : Addr) (n : Nat) (es : List Tie) : Prop := ∃ dx wd tt kvs rows, H w = some (.ins (He.ga K "Web") dx (wf n (.ref wd) (.ref tt))) ∧ H wd = some (.dT kvs) ∧ KvA K H kvs es ∧ H tt = some (.tup rows) ∧ Rows K H rows es
theorem _root_.L2.Same.web {K : PySem.W.Frag} {H H' : Hp} {w : Addr} {n : Nat} {es : List Tie} (s : Same H H') (h : WebI K H w n es) : WebI K H' w n es := by
  obtain ⟨dx, wd, tt, kvs, rows, h1, h2, h3, h4, h5⟩ := h
  exact ⟨dx, wd, tt, kvs, rows, s _ _ h1, s _ _ h2, s.kva h3, s _ _ h4, s.rows h5⟩
section
variable {K : PySem.W.Frag} {mg : Str → Option Value} {H : Hp} {w dx : Addr} {n : Nat} {wd tt : V} {R : V → Prop}
theorem fW_many (E : En K mg) (h : H w = some (.ins (He.ga K "Web") dx (wf n wd tt))) (q : R (.int n)) : ∃ a C dx fs v, V.ref w = .ref a ∧ H a = some (.ins C dx fs) ∧ Cls K C ∧ NoAttr K C "many" ∧ fs.lookup ("many" : Str) = some v ∧ R v :=
  ⟨_, _, _, _, _, rfl, h, E.cls_Web, E.na_Web_many, rfl, q⟩
theorem fW_weights (E : En K mg) (h : H w = some (.ins (He.ga K "Web") dx (wf n wd tt))) (q : R wd) : ∃ a C dx fs v, V.ref w = .ref a ∧ H a = some (.ins C dx fs) ∧ Cls K C ∧ NoAttr K C "weights" ∧ fs.lookup ("weights" : Str) = some v ∧ R v :=
  ⟨_, _, _, _, _, rfl, h, E.cls_Web, E.na_Web_weights, rfl, q⟩
theorem fW_ties (E : En K mg) (h : H w = some (.ins (He.ga K "Web") dx (wf n wd tt))) (q : R tt) : ∃ a C dx fs v, V.ref w = .ref a ∧ H a = some (.ins C dx fs) ∧ Cls K C ∧ NoAttr K C "ties" ∧ fs.lookup ("ties" : Str) = some v ∧ R v :=
  ⟨_, _, _, _, _, rfl, h, E.cls_Web, E.na_Web_ties, rfl, q⟩
theorem putF_w (m a b v : V) : putF "weights" v [(("many" : Str), m), ("weights", a), ("ties", b)] = ([("many", m), ("weights", v), ("ties", b)] : List (Str × V)) := by rfl
theorem putF_t (m a b v : V) : putF "ties" v [(("many" : Str), m), ("weights", a), ("ties", b)] = ([("many", m), ("weights", a), ("ties", v)] : List (Str × V)) := by rfl
end
/-! ### indexes kept, items filtered -/
theorem kept_filter {α : Type} {es : List α} {f : Nat → Bool} {p : α → Bool} (h : ∀ (i : Nat) e, es[i]? = some e → f i = p e) : ∀ n, n ≤ es.length → (kept n f).filterMap (fun k => es[k]?) = (es.take n).filter p
  | 0, _ => by simp [kept]
  | n + 1, hn => by
    have ih := kept_filter h n (by omega)
    have hx : es[n]? = some es[n] := List.getElem?_eq_getElem (by omega)
    have ht : es.take (n + 1) = es.take n ++ [es[n]] := by rw [List.take_add_one, hx]; rfl
    rw [ht, List.filter_append]
    cases e : f n with
    | true =>
      rw [kept_yes e, List.filterMap_append, ih]
      have : p es[n] = true := by rw [← h n _ hx, e]
      simp [this, hx]
    | false =>
      rw [kept_no e, ih]
      have : p es[n] = false := by rw [← h n _ hx, e]
      simp [this]
theorem pairFM {α β : Type} {es : List α} {S : β → α → Prop} : ∀ {ys : List β} {ks : List Nat}, Paired (fun y k => ∃ e, es[k]? = some e ∧ S y e) ys ks → Paired S ys (ks.filterMap fun k => es[k]?)
  | _, _, .nil => .nil
  | _, _, .cons ⟨e, h, r⟩ t => by
    rw [List.filterMap_cons, h]
    exact .cons r (pairFM t)
theorem paired_kept {α β : Type} {es : List α} {f : Nat → Bool} {p : α → Bool} {S : β → α → Prop} {ys : List β} (h : ∀ (i : Nat) e, es[i]? = some e → f i = p e) (pr : Paired (fun y k => ∃ e, es[k]? = some e ∧ S y e) ys (kept es.length f)) : Paired S ys (es.filter p) := by
  have := pairFM pr
  rw [kept_filter h _ (Nat.le_refl _), List.take_length] at this
  exact this
theorem pairMap {α β γ : Type} {S : β → γ → Prop} {g : α → γ} : ∀ {ys : List β} {es : List α}, Paired (fun y e => S y (g e)) ys es → Paired S ys (es.map g)
  | _, _, .nil => .nil
  | _, _, .cons r t => .cons r (pairMap t)
theorem filter_all {α : Type} {es : List α} : es.filter (fun _ => true) = es := List.filter_eq_self.mpr fun _ _ => rfl
/-! ### rising rows, sides -/
def Rising (n : Nat) (s : List Nat) : Prop := s.Pairwise (· < ·) ∧ ∀ x ∈ s, x < n
def sp_are_rising (K : PySem.W.Frag) (a b : V) (H : Hp) (Q : VK) : Prop := ∃ (n : Nat) (l : Addr) (s : List Nat), a = .int n ∧ b = .ref l ∧ SqT K H l (nv s) ∧ Rising n s ∧ ∀ H1, Same H H1 → Q (.bl true) H1
theorem pure_are_rising {K : PySem.W.Frag} : ∀ vs H Q, u2 (sp_are_rising K) vs H Q → t_are_rising K (u1 (sp_is_row K)) (u3 sp_is_whole) { nx := fun _ H' => Q .non H', rt := Q } (L2.start ["many", "thing", "least", "place"] vs) H := by
  rintro _ H Q ⟨_, _, rfl, n, l, s, rfl, rfl, hs, ⟨up, bd⟩, hQ⟩
  unfold t_are_rising
  walk_at "st"
  walk_at "gs"
  refine .inr ⟨⟨_, l, rfl, .inr hs⟩, fun H1 s1 => ?_⟩
  walk_at "gs"
  refine ⟨l, rfl, ⟨_, s1.seqT hs⟩, for_tup (xs := nv s) (fun i σ H' => Same H1 H' ∧ ∃ (least : Nat) (y : Option V), σ = [some (.int n), some (.ref l), some (.int least), y] ∧ ∀ (j x : Nat), i ≤ j → s[j]? = some x → least ≤ x)
    ⟨Same.refl _, 0, none, rfl, fun _ _ _ _ => Nat.zero_le _⟩ (fun i σ H' _ p => (s1.trans p.1).seqT hs) ?_ ?_⟩
  · rintro i x σ H' hx ⟨s2, least, y, rfl, hl⟩
    obtain ⟨m, hm, rfl⟩ := nv_get hx
    have h1 := hl i m (Nat.le_refl _) hm
    have h2 := bd m (List.mem_of_getElem? hm)
    walk_at "gs"
    refine ⟨m, least, n - 1, rfl, rfl, rfl, ?_⟩
    rw [decide_eq_true (show (least : Int) ≤ m by omega), decide_eq_true (show (m : Int) ≤ n - 1 by omega), Bool.and_true]
    walk_at "gs"
    refine ⟨s2, m + 1, _, rfl, fun j x hj hx => ?_⟩
    obtain ⟨g1, g2⟩ := List.getElem?_eq_some_iff.mp hm
    obtain ⟨g3, g4⟩ := List.getElem?_eq_some_iff.mp hx
    have := List.pairwise_iff_getElem.mp up i j g1 g3 hj
    omega
  · rintro σ H' ⟨s2, least, y, rfl, hl⟩
    walk_at "gs"
    exact hQ H' (s1.trans s2)
def sp_is_side (K : PySem.W.Frag) (a b : V) (H : Hp) (Q : VK) : Prop := ∃ (w : Addr) (n : Nat) (es : List Tie) (l : Addr) (s : List Nat), a = .ref w ∧ WebI K H w n es ∧ b = .ref l ∧ SqT K H l (nv s) ∧ Rising n s ∧ 1 ≤ s.length ∧ s.length < n ∧ ∀ H1, Same H H1 → Q (.bl true) H1
theorem pure_is_side {K : PySem.W.Frag} {mg : Str → Option Value} (E : En K mg) : ∀ vs H Q, u2 (sp_is_side K) vs H Q → t_is_side K (u2 (sp_are_rising K)) { nx := fun _ H' => Q .non H', rt := Q } (L2.start ["web", "side"] vs) H := by
  rintro _ H Q ⟨_, _, rfl, w, n, es, l, s, rfl, hw, rfl, hs, hr, l1, l2, hQ⟩
  obtain ⟨dx, wd, tt, kvs, rows, h1, h2, h3, h4, h5⟩ := hw
  unfold t_is_side
  walk_at "st"
  walk_at "gs"
  refine fW_many E h1 ?_
  walk_at "gs"
  refine ⟨n, l, s, rfl, rfl, hs, hr, fun H1 s1 => ?_⟩
  walk_at "gs"
  rw [nv_len]
  refine ite_dec (fun _ => ?_) fun h => absurd (by omega) h
  walk_at "gs"
  refine fW_many E (s1 _ _ h1) ?_
  walk_at "gs"
  rw [decide_eq_true (show ((s.length : Nat) : Int) < n by omega)]
  exact hQ H1 s1
def wOut (es : List Tie) (s : List Nat) : Nat := ((es.filter fun e => decide (e.1 ∈ s) != decide (e.2.1 ∈ s)).map fun e => e.2.2).sum
def sp_weight_out (K : PySem.W.Frag) (a b : V) (H : Hp) (Q : VK) : Prop := ∃ (w : Addr) (n : Nat) (es : List Tie) (l : Addr) (s : List Nat), a = .ref w ∧ WebI K H w n es ∧ es.length ≤ 1000 ∧ b = .ref l ∧ SqT K H l (nv s) ∧ ∀ v H1, Same H H1 → Amt K H1 v (wOut es s) → Q v H1
theorem go_in {K : PySem.W.Frag} {H : Hp} {Q : VK} {a : Addr} {x : Nat} {s : List Nat} (hs : SqS K H a (nv s)) (h : Q (.bl (decide (x ∈ s))) H) : rIn K false (.int x) (.ref a) H Q := ⟨a, _, rfl, hs, rfl, nv_flat s, by
  rw [nv_in]
  exact h⟩
theorem go_notin {K : PySem.W.Frag} {H : Hp} {Q : VK} {a : Addr} {x : Nat} {s : List Nat} (hs : SqS K H a (nv s)) (h : Q (.bl (!decide (x ∈ s))) H) : rIn K true (.int x) (.ref a) H Q := ⟨a, _, rfl, hs, rfl, nv_flat s, by
  rw [nv_in]
  exact h⟩
theorem pure_weight_out {K : PySem.W.Frag} {mg : Str → Option Value} (E : En K mg) : ∀ vs H Q, u2 (sp_weight_out K) vs H Q → t_weight_out K (u1 (sp_total K)) { nx := fun _ H' => Q .non H', rt := Q } (L2.start ["web", "side", "i", "j", "weight"] vs) H := by
  rintro _ H Q ⟨_, _, rfl, w, n, es, l, s, rfl, hw, hz, rfl, hs, hQ⟩
  obtain ⟨dx, wd, tt, kvs, rows, h1, h2, h3, h4, h5⟩ := hw
  unfold t_weight_out
  walk_at "st"
  walk_at "gs"
  refine fW_ties E h1 ?_
  have hl := pairLen h5
  refine ⟨tt, rfl, ⟨_, SqT.of h4⟩, lcT (SqT.of h4) (fun i => match es[i]? with | some e => decide (e.1 ∈ s) != decide (e.2.1 ∈ s) | none => false) (fun _ i H y => ∃ e, es[i]? = some e ∧ Amt K H y e.2.2) (by omega) ?_ ?_ ?_⟩
  · rintro D i H2 H3 v bu mu ⟨e, he, ha⟩
    exact ⟨e, he, bu.amt mu ha⟩
  · rintro D i x H2 N N' hx hD s2 mu q1 q2
    obtain ⟨e, he, a, v, rfl, ha, hv⟩ := pairGet h5 hx
    rw [he] at q1 q2
    have ha2 := s2.seqT ha
    have hs2 := s2.seqT hs
    walk_at "gs"
    refine ⟨rfl, ?_⟩
    walk_at "gs"
    refine go_in (.inr hs2) ?_
    walk_at "gs"
    refine go_in (.inr hs2) ?_
    walk_at "gs"
    cases hb : (decide (e.1 ∈ s) != decide (e.2.1 ∈ s)) with
    | true =>
      walk_at "gs"
      exact q1 hb _ H2 (Same.refl _) ⟨e, rfl, s2.amt hv⟩
    | false =>
      walk_at "gs"
      exact q2 hb H2 (Same.refl _)
  · intro D H2 ys hD s2 hy pr
    walk_at "gs"
    rw [hl] at pr
    have pr2 := paired_kept (p := fun e : Tie => decide (e.1 ∈ s) != decide (e.2.1 ∈ s)) (S := fun y e => Amt K H2 y e.2.2) (fun i e he => by rw [he]) pr
    exact ⟨D, ys, _, rfl, SqL.of hy, pairMap (g := fun e : Tie => e.2.2) pr2, fun v H3 s3 hv => hQ v H3 (s2.trans s3) hv⟩
/-! ### making a web -/
def sp_are_places (a b c : V) (H : Hp) (Q : VK) : Prop := ∃ n i j : Nat, a = .int n ∧ b = .int i ∧ c = .int j ∧ i < n ∧ j < n ∧ i ≠ j ∧ Q (.bl true) H
theorem pure_are_places {K : PySem.W.Frag} : ∀ vs H Q, u3 sp_are_places vs H Q → t_are_places K (u3 sp_is_whole) { nx := fun _ H' => Q .non H', rt := Q } (L2.start ["many", "i", "j"] vs) H := by
  rintro _ H Q ⟨_, _, _, rfl, n, i, j, rfl, rfl, rfl, hi, hj, ne, hQ⟩
  unfold t_are_places
  walk_at "st"
  walk_at "gs"
  refine ⟨i, 0, n - 1, rfl, rfl, rfl, ?_⟩
  rw [decide_eq_true (show (0 : Int) ≤ i by omega), decide_eq_true (show (i : Int) ≤ n - 1 by omega), Bool.and_true]
  walk_at "gs"
  refine ⟨j, 0, n - 1, rfl, rfl, rfl, ?_⟩
  rw [decide_eq_true (show (0 : Int) ≤ j by omega), decide_eq_true (show (j : Int) ≤ n - 1 by omega), Bool.and_true]
  walk_at "gs"
  rw [decide_eq_false (show ¬ (i : Int) = j by omega)]
  exact hQ
def TieOk (n : Nat) (e : Tie) : Prop := e.1 < e.2.1 ∧ e.2.1 < n ∧ lowA e.2.2 ≤ 1000000000000
def sp_is_tie (K : PySem.W.Frag) (a b : V) (H : Hp) (Q : VK) : Prop := ∃ (n : Nat) (e : Tie), a = .int n ∧ Row3S K H b e ∧ TieOk n e ∧ ∀ H1, Same H H1 → Q (.bl true) H1
theorem pure_is_tie {K : PySem.W.Frag} : ∀ vs H Q, u2 (sp_is_tie K) vs H Q → t_is_tie K (u1 (sp_is_row K)) (u3 sp_are_places) (u1 (sp_is_weight K)) { nx := fun _ H' => Q .non H', rt := Q } (L2.start ["many", "thing"] vs) H := by
  rintro _ H Q ⟨_, _, rfl, n, e, rfl, ⟨w, ⟨a, rfl, ha⟩, hw⟩, ⟨o1, o2, o3⟩, hQ⟩
  unfold t_is_tie
  walk_at "st"
  walk_at "gs"
  refine .inr ⟨⟨_, a, rfl, ha⟩, fun H1 s1 => ?_⟩
  have ha1 := s1.seqS ha
  walk_at "gs"
  refine ite_ndec (fun h => absurd rfl h) fun _ => ?_
  walk_at "gs"
  refine ⟨n, e.1, e.2.1, rfl, rfl, rfl, by omega, o2, by omega, ?_⟩
  walk_at "gs"
  refine ite_dec (fun _ => ?_) fun h => absurd (by omega) h
  walk_at "gs"
  exact ⟨e.2.2, s1.row hw, o3, fun H2 s2 => hQ H2 (s1.trans s2)⟩
def sp_wrong_tie (K : PySem.W.Frag) (a b : V) (H : Hp) (Q : VK) : Prop := ∃ (n : Nat) (es : List Tie), a = .int n ∧ RowsS K H b es ∧ (∀ e ∈ es, TieOk n e) ∧ (keysN es).Nodup ∧ es.length ≤ 1000 ∧ ∀ H1, Same H H1 → Q .non H1
def kT (es : List Tie) : List (List Key × V) := es.map fun e => (pkN e.1 e.2.1, V.bl true)
theorem pk_not {es : List Tie} {n : Nat} {e : Tie} (hn : (keysN es).Nodup) (he : es[n]? = some e) {f : Tie → V} : pkN e.1 e.2.1 ∉ ((es.take n).map fun e => (pkN e.1 e.2.1, f e)).map (·.1) := by
  intro h
  rw [List.map_map] at h
  obtain ⟨e', he', eq⟩ := List.mem_map.mp h
  obtain ⟨j, hj, ej⟩ := List.mem_iff_getElem.mp he'
  rw [List.length_take] at hj
  rw [List.getElem_take] at ej
  obtain ⟨h1, h2⟩ := pkN_inj eq
  obtain ⟨hn2, en⟩ := List.getElem?_eq_some_iff.mp he
  unfold keysN at hn
  have := List.pairwise_iff_getElem.mp hn j n (by rw [List.length_map]; omega) (by rw [List.length_map]; omega) (by omega)
  apply this
  rw [List.getElem_map, List.getElem_map, ej, en, h1, h2]
theorem pure_wrong_tie {K : PySem.W.Frag} : ∀ vs H Q, u2 (sp_wrong_tie K) vs H Q → t_wrong_tie K (u1 (sp_is_row K)) (u2 (sp_is_tie K)) { nx := fun _ H' => Q .non H', rt := Q } (L2.start ["many", "ties", "known", "at", "thing"] vs) H := by
  rintro _ H Q ⟨_, _, rfl, n, es, rfl, ⟨xs, ⟨a, rfl, ha⟩, hx⟩, ok, nd, hz, hQ⟩
  unfold t_wrong_tie
  walk_at "st"
  walk_at "gs"
  refine .inr ⟨⟨_, a, rfl, ha⟩, fun H1 s1 => ?_⟩
  walk_at "gs"
  intro d nd1
  walk_at "gs"
  have hl := pairLen hx
  have s2 : Same H (upd H1 d (.dT [])) := s1.trans (sameNew nd1)
  have d0 : H d = none := s1.free nd1
  refine ⟨a, xs, rfl, for_enumS ha (fun i σ H' => Same H H' ∧ ∃ y1 y2, σ = [some (.int n), some (.ref a), some (.ref d), y1, y2] ∧ H' d = some (.dT (kT (es.take i)))) ⟨s2, none, none, rfl, upd_same⟩ (fun i σ' H' p => p.1) ?_ ?_⟩
  · rintro i x T σ H' hxi ⟨s, y1, y2, rfl, hd⟩ nT
    obtain ⟨e, he, hr⟩ := pairGet hx hxi
    have sT := s.trans (sameNew (o := .tup [.int (i : Nat), x]) nT)
    obtain ⟨w, ⟨b, rfl, hb⟩, hw⟩ := sT.row3S hr
    walk_at "gs"
    refine ⟨n, e, rfl, ⟨w, ⟨b, rfl, hb⟩, hw⟩, ok e (List.mem_of_getElem? he), fun H2 sa => ?_⟩
    have hb2 := sa.seqS hb
    have hd2 : H2 d = some (.dT (kT (es.take i))) := sa _ _ (sameNew nT _ _ hd)
    walk_at "gs"
    intro p np
    walk_at "gs"
    have hv : valV (kT (es.take i)) (pkN e.1 e.2.1) = none := valV_none (pk_not (f := fun _ => V.bl true) nd he)
    refine ⟨d, _, rfl, DGet.pk (i := e.1) (j := e.2.1) (Rd.of (sameNew np _ _ hd2)) upd_same, ?_⟩
    simp only [hv, Option.isSome_none]
    walk_at "gs"
    intro p2 np2
    walk_at "gs"
    have sd := (sameNew (o := .tup [.int e.1, .int e.2.1]) np).trans (sameNew (o := .tup [.int e.1, .int e.2.1]) np2)
    refine ⟨d, _, rfl, DPut.pk (i := e.1) (j := e.2.1) (sd _ _ hd2) upd_same ?_, ?_⟩
    · unfold kT
      rw [List.length_map, List.length_take, sizeLine_eq]
      omega
    · refine ⟨But.same butUpd ((sT.trans sa).trans sd) d0, _, _, rfl, ?_⟩
      rw [upd_same, putK_new _ hv]
      have ht : es.take (i + 1) = es.take i ++ [e] := by rw [List.take_add_one, he]; rfl
      rw [ht]
      unfold kT
      rw [List.map_append]
      rfl
  · rintro σ H' ⟨s, y1, y2, rfl, hd⟩
    walk_at "gs"
    exact hQ H' s
/-! ### dict(..) of rows -/
/-- pairs ((i, j), amount) -/
def Pr2 (K : PySem.W.Frag) (H : Hp) (v : V) (e : Tie) : Prop := ∃ t b w, v = .ref t ∧ SqT K H t [.ref b, w] ∧ H b = some (.tup [.int e.1, .int e.2.1]) ∧ Amt K H w e.2.2
theorem But.pr2 {K : PySem.W.Frag} {H H' : Hp} {p : Addr} {v : V} {t : Tie} (e : But p H H') (m : Mut (H p)) (h : Pr2 K H v t) : Pr2 K H' v t := by
  obtain ⟨a, b, w, e1, h1, h2, h3⟩ := h
  exact ⟨a, b, w, e1, e.tupM m h1, e.tupAt m h2, e.amt m h3⟩
theorem _root_.L2.Same.pr2 {K : PySem.W.Frag} {H H' : Hp} {v : V} {t : Tie} (e : Same H H') (h : Pr2 K H v t) : Pr2 K H' v t := by
  obtain ⟨a, b, w, e1, h1, h2, h3⟩ := h
  exact ⟨a, b, w, e1, e.seqT h1, e _ _ h2, e.amt h3⟩
theorem pr2_split {K : PySem.W.Frag} {H : Hp} : ∀ {ys : List V} {es : List Tie}, Paired (Pr2 K H) ys es → ∃ (ps : List Addr) (kvs : List (List Key × V)), ys = ps.map V.ref ∧
    Paired (fun p (kv : List Key × V) => ∃ b, SqT K H p [.ref b, kv.2] ∧ H b = some (.tup (kv.1.map kV))) ps kvs ∧ KvA K H kvs es
  | _, _, .nil => ⟨[], [], rfl, .nil, .nil⟩
  | _, _, .cons (b := e) ⟨t, b, w, h0, h1, h2, h3⟩ r => by
    obtain ⟨ps, kvs, e1, e2, e3⟩ := pr2_split r
    exact ⟨t :: ps, (pkN e.1 e.2.1, w) :: kvs, by rw [h0, e1]; rfl, .cons ⟨b, h1, h2⟩ e2, .cons ⟨rfl, h3⟩ e3⟩
theorem kva_keys {K : PySem.W.Frag} {H : Hp} : ∀ {kvs : List (List Key × V)} {es : List Tie}, KvA K H kvs es → kvs.map (·.1) = (keysN es).map fun k => pkN k.1 k.2
  | _, _, .nil => rfl
  | _, _, .cons ⟨h1, _⟩ r => by
    unfold keysN
    rw [List.map_cons, List.map_cons, List.map_cons, h1, kva_keys r]
    rfl
theorem nodup_map {α β : Type} {f : α → β} (hf : ∀ a b, f a = f b → a = b) : ∀ {l : List α}, l.Nodup → (l.map f).Nodup
  | [], _ => List.nodup_nil
  | a :: r, h => by
    obtain ⟨h1, h2⟩ := List.nodup_cons.mp h
    refine List.nodup_cons.mpr ⟨fun m => ?_, nodup_map hf h2⟩
    obtain ⟨b, hb, e⟩ := List.mem_map.mp m
    rw [hf _ _ e] at hb
    exact h1 hb
theorem kva_nodup {K : PySem.W.Frag} {H : Hp} {kvs : List (List Key × V)} {es : List Tie} (h : KvA K H kvs es) (nd : (keysN es).Nodup) : (kvs.map (·.1)).Nodup := by
  rw [kva_keys h]
  exact nodup_map (fun a b e => by
    obtain ⟨h1, h2⟩ := pkN_inj e
    exact Prod.ext h1 h2) nd
theorem go_dictPT {K : PySem.W.Frag} {H : Hp} {Q : VK} {D : Addr} {ys : List V} {es : List Tie} (hy : SqL K H D ys) (pr : Paired (Pr2 K H) ys es) (nd : (keysN es).Nodup)
    (h : ∀ p kvs, H p = none → KvA K H kvs es → Q (.ref p) (upd H p (.dT kvs))) : rDictPT K [.ref D] H Q := by
  obtain ⟨ps, kvs, e1, e2, e3⟩ := pr2_split pr
  subst e1
  exact ⟨D, ps, kvs, rfl, hy, e2, kva_nodup e3 nd, fun p hp => h p kvs hp e3⟩
def sp_weights_in (K : PySem.W.Frag) (a : V) (H : Hp) (Q : VK) : Prop := ∃ es, RowsS K H a es ∧ (keysN es).Nodup ∧ es.length ≤ 1000 ∧ ∀ p kvs H1, Same H H1 → H1 p = some (.dT kvs) → KvA K H1 kvs es → Q (.ref p) H1
theorem pure_weights_in {K : PySem.W.Frag} : ∀ vs H Q, u1 (sp_weights_in K) vs H Q → t_weights_in K (u1 (sp_as_tuples K)) { nx := fun _ H' => Q .non H', rt := Q } (L2.start ["ties", "i", "j", "weight"] vs) H := by
  rintro _ H Q ⟨_, rfl, es, ⟨xs, ⟨a, rfl, ha⟩, hx⟩, nd, hz, hQ⟩
  unfold t_weights_in
  walk_at "st"
  walk_at "gs"
  have hl := pairLen hx
  refine ⟨a, xs, rfl, lcS ha (fun _ => true) (fun _ i H y => ∃ e, es[i]? = some e ∧ Pr2 K H y e) (by omega) ?_ ?_ ?_⟩
  · rintro D i H2 H3 v bu mu ⟨e, he, h⟩
    exact ⟨e, he, bu.pr2 mu h⟩
  · intro D i x H2 N N' hxi hD s2 mu q1 q2
    obtain ⟨e, he, hr⟩ := pairGet hx hxi
    obtain ⟨w, ⟨b, rfl, hb⟩, c, rfl, hc⟩ := s2.row3S hr
    walk_at "gs"
    refine ⟨rfl, ?_⟩
    walk_at "gs"
    intro p np
    walk_at "gs"
    refine ⟨[(lowA e.2.2 : Nat), (lowB e.2.2 : Nat)], ⟨c, rfl, (sameNew np).seqS hc⟩, by simp, fun r H3 s3 hr3 => ?_⟩
    walk_at "gs"
    intro t nt
    have s4 := (sameNew (o := .tup [.int e.1, .int e.2.1]) np).trans s3
    refine q1 rfl _ _ (s4.trans (sameNew nt)) ⟨e, he, t, p, _, rfl, SqT.of upd_same, (s3.trans (sameNew nt)) _ _ upd_same, r, rfl, SqT.of ((sameNew nt) _ _ hr3)⟩
  · intro D H2 ys hD s2 hy pr
    walk_at "gs"
    rw [hl] at pr
    have pr2 := paired_kept (p := fun _ : Tie => true) (S := fun y e => Pr2 K H2 y e) (fun i e he => rfl) pr
    rw [filter_all] at pr2
    refine go_dictPT (SqL.of hy) pr2 nd fun p kvs hp hk => ?_
    exact hQ p kvs _ (s2.trans (sameNew hp)) upd_same ((sameNew hp).kva hk)
theorem perm_map {α β : Type} {f : α → β} {l : List β} {m : List β} (h : l.Perm m) : ∀ {es : List α}, m = es.map f → ∃ es2 : List α, es2.Perm es ∧ es2.map f = l := by
  induction h with
  | nil => intro es e; exact ⟨[], by rw [List.map_eq_nil_iff.mp e.symm], rfl⟩
  | cons x _ ih =>
    intro es e
    cases es with
    | nil => cases e
    | cons a r =>
      rw [List.map_cons] at e
      injection e with e1 e2
      obtain ⟨es2, h1, h2⟩ := ih e2
      exact ⟨a :: es2, h1.cons a, by rw [List.map_cons, h2, e1]⟩
  | swap x y l =>
    intro es e
    match es, e with
    | a :: b :: r, e =>
      rw [List.map_cons, List.map_cons] at e
      injection e with e1 e2
      injection e2 with e2 e3
      exact ⟨b :: a :: r, List.Perm.swap a b r, by rw [List.map_cons, List.map_cons, ← e1, ← e2, ← e3]⟩
  | trans _ _ ih1 ih2 =>
    intro es e
    obtain ⟨es2, h1, h2⟩ := ih2 e
    obtain ⟨es3, h3, h4⟩ := ih1 h2.symm
    exact ⟨es3, h3.trans h1, h4⟩
def keyI (e : Tie) : Int × Int := ((e.1 : Nat), (e.2.1 : Nat))
/-- rising by the two places -/
def Sorted (es : List Tie) : Prop := es.Pairwise fun x y => x.1 < y.1 ∨ (x.1 = y.1 ∧ x.2.1 < y.2.1)
def nz (e : Tie) : Bool := !decide (e.2.2 = 0)
theorem kva_get {K : PySem.W.Frag} {H : Hp} {kvs : List (List Key × V)} {es : List Tie} {e : Tie} (h : KvA K H kvs es) (nd : (keysN es).Nodup) (he : e ∈ es) : ∃ w, valV kvs (pkN e.1 e.2.1) = some w ∧ Amt K H w e.2.2 := by
  obtain ⟨i, hi⟩ := List.mem_iff_getElem?.mp he
  obtain ⟨kv, h1, h2, h3⟩ := pairGet2 h hi
  refine ⟨kv.2, valV_of_mem (kva_nodup h nd) ?_, h3⟩
  rw [← h2]
  exact List.mem_of_getElem? h1
theorem pairB {H : Hp} : ∀ {bs : List (Addr × (Int × Int))} {es : List Tie}, es.map keyI = bs.map (·.2) → (∀ b ∈ bs, H b.1 = some (.tup [.int b.2.1, .int b.2.2])) →
    Paired (fun x (e : Tie) => ∃ b, x = V.ref b ∧ H b = some (.tup [.int e.1, .int e.2.1])) (bs.map fun b => V.ref b.1) es
  | [], [], _, _ => .nil
  | [], _ :: _, h, _ => by cases h
  | _ :: _, [], h, _ => by cases h
  | b :: bs, e :: es, h, hb => by
    rw [List.map_cons, List.map_cons] at h
    injection h with h1 h2
    refine .cons ⟨b.1, rfl, ?_⟩ (pairB h2 fun c hc => hb c (List.mem_cons_of_mem _ hc))
    have := hb b List.mem_cons_self
    rw [← h1] at this
    exact this
theorem sorted_of {bs : List (Addr × (Int × Int))} : ∀ {es : List Tie}, es.map keyI = bs.map (·.2) → bs.Pairwise (fun x y => SrtO.lexB y.2 x.2 = false) → (keysN es).Nodup → Sorted es := by
  intro es h up nd
  have h1 : (bs.map (·.2)).Pairwise (fun x y => SrtO.lexB y x = false) := List.pairwise_map.mpr up
  rw [← h] at h1
  have h2 := List.pairwise_map.mp h1
  unfold keysN at nd
  have h3 := List.pairwise_map.mp nd
  refine (h2.and h3).imp ?_
  rintro x y ⟨q, ne⟩
  have := SrtO.lexB_no.mp q
  unfold keyI at this
  have ne2 : ¬ (x.1 = y.1 ∧ x.2.1 = y.2.1) := fun z => ne (Prod.ext z.1 z.2)
  simp only at this
  omega
def sp_put_weights (K : PySem.W.Frag) (a b : V) (H : Hp) (Q : VK) : Prop := ∃ (x dx : Addr) (n : Nat) (w0 t0 : V) (d : Addr) (kvs : List (List Key × V)) (es : List Tie), a = .ref x ∧ H x = some (.ins (He.ga K "Web") dx (wf n w0 t0)) ∧ b = .ref d ∧
  H d = some (.dT kvs) ∧ KvA K H kvs es ∧ (keysN es).Nodup ∧ es.length ≤ 1000 ∧ ∀ H1 es2, But x H H1 → es2.Perm es → Sorted es2 → WebI K H1 x n (es2.filter nz) → Q .non H1
theorem pure_put_weights {K : PySem.W.Frag} {mg : Str → Option Value} (E : En K mg) : ∀ vs H Q, u2 (sp_put_weights K) vs H Q → t_put_weights K { nx := fun _ H' => Q .non H', rt := Q } (L2.start ["web", "weights", "told", "places", "weight"] vs) H := by
  rintro _ H Q ⟨_, _, rfl, x, dx, n, w0, t0, d, kvs, es, rfl, hx, rfl, hd, hk, nd, hz, hQ⟩
  unfold t_put_weights
  walk_at "st"
  walk_at "gs"
  have hkl := pairLen hk
  refine ⟨d, kvs, es.map keyI, rfl, Rd.of hd, ?_, by omega, fun bs p pm up hb np => ?_⟩
  · rw [kva_keys hk]
    unfold keysN
    rw [List.map_map, List.map_map]
    rfl
  obtain ⟨es2, pm2, e2⟩ := perm_map (f := keyI) pm rfl
  have nd2 : (keysN es2).Nodup := ((pm2.map _).nodup_iff).mpr nd
  have srt := sorted_of e2 up nd2
  have pb := pairB e2 hb
  have sa : Same H (upd H p (.lst (bs.map fun b => V.ref b.1))) := sameNew np
  have hl2 := pairLen pb
  have hl3 := pm2.length_eq
  refine ⟨p, rfl, ⟨_, SqL.of upd_same⟩, lcL (SqL.of upd_same) (fun i => match es2[i]? with | some e => nz e | none => false) (fun _ i H y => ∃ e, es2[i]? = some e ∧ Pr2 K H y e) (by omega) ?_ ?_ ?_⟩
  · rintro D i H2 H3 v bu mu ⟨e, he, h⟩
    exact ⟨e, he, bu.pr2 mu h⟩
  · intro D i y H2 N N' hyi hD s2 mu q1 q2
    obtain ⟨e, he, b, rfl, hb2⟩ := pairGet pb hyi
    rw [he] at q1 q2
    have hem : e ∈ es := pm2.mem_iff.mp (List.mem_of_getElem? he)
    obtain ⟨w, hw, ha⟩ := kva_get hk nd hem
    have s3 := sa.trans s2
    walk_at "gs"
    refine ⟨rfl, ?_⟩
    walk_at "gs"
    refine ⟨d, w, rfl, hw ▸ DGet.pk (i := e.1) (j := e.2.1) (Rd.of (s3 _ _ hd)) (s3 _ _ hb2), ?_⟩
    walk_at "gs"
    refine amtNe (s3.amt ha) (E.amt0 H2) ?_
    walk_at "gs"
    cases hb : nz e with
    | true =>
      have : (!decide (e.2.2 = 0)) = true := hb
      rw [this]
      walk_at "gs"
      refine ⟨d, w, rfl, hw ▸ DGet.pk (i := e.1) (j := e.2.1) (Rd.of (s3 _ _ hd)) (s3 _ _ hb2), ?_⟩
      walk_at "gs"
      intro t nt
      exact q1 hb _ _ (sameNew nt) ⟨e, rfl, t, b, w, rfl, SqT.of upd_same, (sameNew nt) _ _ (s3 _ _ hb2), (s3.trans (sameNew nt)).amt ha⟩
    | false =>
      have : (!decide (e.2.2 = 0)) = false := hb
      rw [this]
      walk_at "gs"
      exact q2 hb H2 (Same.refl _)
  · intro D Hb told hD s2 hy pr
    rw [hl2] at pr
    have pr2 := paired_kept (p := nz) (S := fun y e => Pr2 K Hb y e) (fun i e he => by rw [he]) pr
    have nd3 : (keysN (es2.filter nz)).Nodup := (List.filter_sublist.map _).nodup nd2
    walk_at "gs"
    refine go_dictPT (SqL.of hy) pr2 nd3 fun q kvs2 nq hk2 => ?_
    have hxb : Hb x = some (.ins (He.ga K "Web") dx (wf n w0 t0)) := s2 _ _ (sa _ _ hx)
    walk_at "gs"
    refine ⟨x, _, dx, _, rfl, sameNew nq _ _ hxb, E.cls_Web, E.na_Web_weights, by show 3 < 1000; decide, ?_⟩
    walk_at "gs"
    have hxc : (upd Hb q (.dT kvs2)) x = some (.ins (He.ga K "Web") dx (wf n w0 t0)) := sameNew nq _ _ hxb
    have mux : Mut ((upd Hb q (.dT kvs2)) x) := by rw [hxc]; trivial
    have bx : But x (upd Hb q (.dT kvs2)) (upd (upd Hb q (.dT kvs2)) x (.ins (He.ga K "Web") dx (putF "weights" (.ref q) (wf n w0 t0)))) := butUpd
    have nDx : D ≠ x := ne_of (sameNew nq _ _ hy) hxc (by intro z; cases z)
    have nqx : q ≠ x := ne_of upd_same hxc (by intro z; cases z)
    have hyd := bx _ _ nDx (sameNew nq _ _ hy)
    have prd : Paired (Pr2 K (upd (upd Hb q (.dT kvs2)) x (.ins (He.ga K "Web") dx (putF "weights" (.ref q) (wf n w0 t0))))) told (es2.filter nz) := pairMono (fun _ _ r => bx.pr2 mux ((sameNew nq).pr2 r)) pr2
    have hql := bx _ _ nqx (upd_same (H := Hb) (a := q) (o := .dT kvs2))
    have hk3 : KvA K (upd (upd Hb q (.dT kvs2)) x (.ins (He.ga K "Web") dx (putF "weights" (.ref q) (wf n w0 t0)))) kvs2 (es2.filter nz) := pairMono (fun _ _ r => ⟨r.1, bx.amt mux ((sameNew nq).amt r.2)⟩) hk2
    have bH : But x H (upd (upd Hb q (.dT kvs2)) x (.ins (He.ga K "Web") dx (putF "weights" (.ref q) (wf n w0 t0)))) := ((sa.trans s2).trans (sameNew nq)).but.trans bx
    have hxd : (upd (upd Hb q (.dT kvs2)) x (.ins (He.ga K "Web") dx (putF "weights" (.ref q) (wf n w0 t0)))) x = some (.ins (He.ga K "Web") dx (wf n (.ref q) t0)) := by
      rw [upd_same]
      rfl
    generalize upd (upd Hb q (.dT kvs2)) x (.ins (He.ga K "Web") dx (putF "weights" (.ref q) (wf n w0 t0))) = Hd at *
    have hl4 := pairLen prd
    have hl5 : (es2.filter nz).length ≤ es2.length := List.length_filter_le _ _
    refine ⟨D, rfl, ⟨_, SqL.of hyd⟩, lcL (SqL.of hyd) (fun _ => true) (fun _ i H y => ∃ e, (es2.filter nz)[i]? = some e ∧ Row3 K H y e) (by omega) ?_ ?_ ?_⟩
    · rintro D i H2 H3 v bu mu ⟨e, he, h⟩
      exact ⟨e, he, bu.row3 mu h⟩
    · intro D i y H2 N N' hyi hD s4 mu q1 q2
      obtain ⟨e, he, t, b, w, rfl, ht, hb, hw⟩ := pairGet prd hyi
      have ht2 := s4.seqT ht
      have hb2 : SqT K H2 b [.int e.1, .int e.2.1] := SqT.of (s4 _ _ hb)
      walk_at "gs"
      refine ⟨rfl, ?_⟩
      walk_at "gs"
      intro r nr
      exact q1 rfl _ _ (sameNew nr) ⟨e, he, r, w, rfl, SqT.of upd_same, (s4.trans (sameNew nr)).amt hw⟩
    · intro D2 He2 rows hD2 s4 hy2 pr3
      rw [hl4] at pr3
      have pr4 := paired_kept (p := fun _ => true) (S := fun y e => Row3 K He2 y e) (fun i e he => rfl) pr3
      rw [filter_all] at pr4
      walk_at "gs"
      refine ⟨D2, rows, rfl, .inl ⟨SqL.of hy2, fun t nt => ?_⟩⟩
      walk_at "gs"
      refine ⟨x, _, dx, _, rfl, sameNew nt _ _ (s4 _ _ hxd), E.cls_Web, E.na_Web_ties, by show 3 < 1000; decide, ?_⟩
      have s5 : Same Hd (upd He2 t (.tup rows)) := s4.trans (sameNew nt)
      have hxe : (upd He2 t (.tup rows)) x = some (.ins (He.ga K "Web") dx (wf n (.ref q) t0)) := s5 _ _ hxd
      have mue : Mut ((upd He2 t (.tup rows)) x) := by rw [hxe]; trivial
      have be : But x (upd He2 t (.tup rows)) (upd (upd He2 t (.tup rows)) x (.ins (He.ga K "Web") dx (putF "ties" (.ref t) (wf n (.ref q) t0)))) := butUpd
      refine hQ _ es2 ((bH.trans s5.but).trans be) pm2 srt ⟨dx, q, t, kvs2, rows, ?_, be _ _ nqx (s5 _ _ hql), pairMono (fun _ _ r => ⟨r.1, be.amt mue (s5.amt r.2)⟩) hk3, be.tupAt mue upd_same, pairMono (fun _ _ r => be.row3 mue ((sameNew nt).row3 r)) pr4⟩
      rw [upd_same]
      rfl
theorem But.insL {K : PySem.W.Frag} {H H' : Hp} {a p C dx : Addr} {fs : List (Str × V)} {xs : List V} (e : But p H H') (h : H p = some (.ins C dx fs)) (hs : SqL K H a xs) : SqL K H' a xs := by
  rcases hs with (q | ⟨o, q⟩) | q
  · exact .inl (.inl (e _ _ (fun z => by subst z; rw [h] at q; cases q) q))
  · exact .inl (.inr ⟨o, e _ _ (fun z => by subst z; rw [h] at q; cases q) q⟩)
  · exact .inr q
theorem But.insS {K : PySem.W.Frag} {H H' : Hp} {a p C dx : Addr} {fs : List (Str × V)} {xs : List V} (e : But p H H') (h : H p = some (.ins C dx fs)) (hs : SqS K H a xs) : SqS K H' a xs :=
  hs.elim (fun q => .inl (e.insL h q)) fun q => .inr (e.tupM (by rw [h]; trivial) q)
theorem But.insRows {K : PySem.W.Frag} {H H' : Hp} {p C dx : Addr} {fs : List (Str × V)} {v : V} {es : List Tie} (e : But p H H') (h : H p = some (.ins C dx fs)) (hr : RowsS K H v es) : RowsS K H' v es := by
  obtain ⟨xs, ⟨a, e1, ha⟩, hx⟩ := hr
  refine ⟨xs, ⟨a, e1, e.insS h ha⟩, pairMono (fun x t r => ?_) hx⟩
  obtain ⟨w, ⟨b, e2, hb⟩, c, e3, hc⟩ := r
  exact ⟨w, ⟨b, e2, e.insS h hb⟩, c, e3, e.insS h hc⟩
def sp_Web_init (K : PySem.W.Frag) (a b c : V) (H : Hp) (Q : VK) : Prop := ∃ (x dx : Addr) (n : Nat) (es : List Tie), a = .ref x ∧ H x = some (.ins (He.ga K "Web") dx []) ∧ b = .int n ∧ 1 ≤ n ∧ n ≤ 40 ∧ RowsS K H c es ∧ (∀ e ∈ es, TieOk n e) ∧ (keysN es).Nodup ∧ es.length ≤ 1000 ∧
  ∀ H1 es2, But x H H1 → es2.Perm es → Sorted es2 → WebI K H1 x n (es2.filter nz) → Q .non H1
theorem pure_Web_init {K : PySem.W.Frag} {mg : Str → Option Value} (E : En K mg) : ∀ vs H Q, u3 (sp_Web_init K) vs H Q → t_Web_init K (u3 sp_is_whole) (u2 (sp_wrong_tie K)) (u1 (sp_weights_in K)) (u2 (sp_put_weights K)) { nx := fun _ H' => Q .non H', rt := Q } (L2.start ["self", "many", "ties", "at"] vs) H := by
  rintro _ H Q ⟨_, _, c, rfl, x, dx, n, es, rfl, hx, rfl, n1, n2, hr, ok, nd, hz, hQ⟩
  unfold t_Web_init
  walk_at "st"
  walk_at "gs"
  refine ⟨n, 1, 40, rfl, rfl, rfl, ?_⟩
  rw [decide_eq_true (show (1 : Int) ≤ n by omega), decide_eq_true (show (n : Int) ≤ 40 by omega), Bool.and_true]
  walk_at "gs"
  refine ⟨n, es, rfl, hr, ok, nd, hz, fun H1 s1 => ?_⟩
  walk_at "gs"
  refine ite_ndec (fun h => absurd rfl h) fun _ => ?_
  walk_at "gs"
  have hx1 := s1 _ _ hx
  refine ⟨x, _, dx, _, rfl, hx1, E.cls_Web, E.na_Web_many, by show 0 < 1000; decide, ?_⟩
  walk_at "gs"
  intro q nq
  have b1 : But x H1 (upd H1 x (.ins (He.ga K "Web") dx (putF "many" (.int n) []))) := butUpd
  have hr1 := b1.insRows hx1 (s1.rowsS hr)
  have hx2 : (upd H1 x (.ins (He.ga K "Web") dx (putF "many" (.int n) []))) x = some (.ins (He.ga K "Web") dx [("many", .int n)]) := by
    rw [upd_same]
    rfl
  have bH := s1.but.trans b1
  generalize upd H1 x (.ins (He.ga K "Web") dx (putF "many" (.int n) [])) = H2 at *
  walk_at "gs"
  have s2 : Same H2 (upd H2 q (.dT [])) := sameNew nq
  have hx3 := s2 _ _ hx2
  refine ⟨x, _, dx, _, rfl, hx3, E.cls_Web, E.na_Web_weights, by show 1 < 1000; decide, ?_⟩
  have b2 : But x (upd H2 q (.dT [])) (upd (upd H2 q (.dT [])) x (.ins (He.ga K "Web") dx (putF "weights" (.ref q) [("many", .int n)]))) := butUpd
  have hr2 := b2.insRows hx3 (s2.rowsS hr1)
  have hx4 : (upd (upd H2 q (.dT [])) x (.ins (He.ga K "Web") dx (putF "weights" (.ref q) [("many", .int n)]))) x = some (.ins (He.ga K "Web") dx [("many", .int n), ("weights", .ref q)]) := by
    rw [upd_same]
    rfl
  have bH := (bH.trans s2.but).trans b2
  generalize upd (upd H2 q (.dT [])) x (.ins (He.ga K "Web") dx (putF "weights" (.ref q) [("many", .int n)])) = H3 at *
  walk_at "gs"
  intro t nt
  walk_at "gs"
  have s3 : Same H3 (upd H3 t (.tup [])) := sameNew nt
  have hx5 := s3 _ _ hx4
  refine ⟨x, _, dx, _, rfl, hx5, E.cls_Web, E.na_Web_ties, by show 2 < 1000; decide, ?_⟩
  have b3 : But x (upd H3 t (.tup [])) (upd (upd H3 t (.tup [])) x (.ins (He.ga K "Web") dx (putF "ties" (.ref t) [("many", .int n), ("weights", .ref q)]))) := butUpd
  have hr3 := b3.insRows hx5 (s3.rowsS hr2)
  have hx6 : (upd (upd H3 t (.tup [])) x (.ins (He.ga K "Web") dx (putF "ties" (.ref t) [("many", .int n), ("weights", .ref q)]))) x = some (.ins (He.ga K "Web") dx (wf n (.ref q) (.ref t))) := by
    rw [upd_same]
    rfl
  have bH := (bH.trans s3.but).trans b3
  generalize upd (upd H3 t (.tup [])) x (.ins (He.ga K "Web") dx (putF "ties" (.ref t) [("many", .int n), ("weights", .ref q)])) = H4 at *
  walk_at "gs"
  refine ⟨es, hr3, nd, hz, fun d kvs H5 s5 hd hk => ?_⟩
  walk_at "gs"
  exact ⟨x, dx, n, _, _, d, kvs, es, rfl, s5 _ _ hx6, rfl, hd, hk, nd, hz, fun H6 es2 b6 pm srt hw => hQ H6 es2 ((bH.trans s5.but).trans b6) pm srt hw⟩
/-- the weight between two places, in 55,440ths -/
def tieW (es : List Tie) (i j : Nat) : Nat := match es.find? (fun e => decide (e.1 = min i j) && decide (e.2.1 = max i j)) with
  | some e => e.2.2
  | none => 0
theorem kva_find {K : PySem.W.Frag} {H : Hp} (a b : Nat) : ∀ {kvs : List (List Key × V)} {es : List Tie}, KvA K H kvs es →
    (∃ e w, es.find? (fun e => decide (e.1 = a) && decide (e.2.1 = b)) = some e ∧ valV kvs (pkN a b) = some w ∧ Amt K H w e.2.2) ∨ (es.find? (fun e => decide (e.1 = a) && decide (e.2.1 = b)) = none ∧ valV kvs (pkN a b) = none)
  | _, _, .nil => .inr ⟨rfl, rfl⟩
  | _, _, .cons (a := kv) (b := e) ⟨h1, h2⟩ r => by
    by_cases h : e.1 = a ∧ e.2.1 = b
    · refine .inl ⟨e, kv.2, ?_, valV_pos (by rw [h1, h.1, h.2]), h2⟩
      rw [List.find?_cons, decide_eq_true h.1, decide_eq_true h.2]
      rfl
    · have hc : (decide (e.1 = a) && decide (e.2.1 = b)) = false := by
        by_cases h3 : e.1 = a
        · have : ¬ e.2.1 = b := fun z => h ⟨h3, z⟩
          simp [this]
        · simp [h3]
      have hv : ¬ kv.1 = pkN a b := fun z => h (by
        rw [h1] at z
        exact pkN_inj z)
      rw [List.find?_cons, hc, valV_neg hv]
      exact kva_find a b r
def sp_Web_tie (K : PySem.W.Frag) (a b c : V) (H : Hp) (Q : VK) : Prop := ∃ (w : Addr) (n : Nat) (es : List Tie) (i j : Nat), a = .ref w ∧ WebI K H w n es ∧ b = .int i ∧ c = .int j ∧ ∀ v H1, Same H H1 → Amt K H1 v (tieW es i j) → Q v H1
theorem pure_Web_tie {K : PySem.W.Frag} {mg : Str → Option Value} (E : En K mg) : ∀ vs H Q, u3 (sp_Web_tie K) vs H Q → t_Web_tie K { nx := fun _ H' => Q .non H', rt := Q } (L2.start ["self", "i", "j"] vs) H := by
  rintro _ H Q ⟨_, _, _, rfl, w, n, es, i, j, rfl, hw, rfl, rfl, hQ⟩
  obtain ⟨dx, wd, tt, kvs, rows, h1, h2, h3, h4, h5⟩ := hw
  unfold t_Web_tie
  walk_at "st"
  walk_at "gs"
  refine fW_weights E h1 ?_
  refine ⟨wd, rfl, .inr ⟨kvs, Rd.of h2⟩, ?_⟩
  walk_at "gs"
  intro p np
  walk_at "gs"
  have e1 : (min (i : Int) j) = ((min i j : Nat) : Int) := by omega
  have e2 : (max (i : Int) j) = ((max i j : Nat) : Int) := by omega
  refine ⟨_, DGet.pk (i := min i j) (j := max i j) (Rd.of (sameNew np _ _ h2)) (by rw [upd_same, e1, e2]), ?_⟩
  refine hQ _ _ (sameNew np) ?_
  unfold tieW
  rcases kva_find (min i j) (max i j) h3 with ⟨e, v, f1, f2, f3⟩ | ⟨f1, f2⟩
  · rw [f1, f2]
    exact (sameNew np).amt f3
  · rw [f1, f2]
    exact E.amt0 _
/-! ### flows, checked -/
def fOf {α : Type} (l : List α) (p : α → Bool) (i : Nat) : Bool := match l[i]? with
  | some x => p x
  | none => false
theorem fOf_at {α : Type} {l : List α} {p : α → Bool} {i : Nat} {x : α} (h : l[i]? = some x) : fOf l p i = p x := by
  unfold fOf
  rw [h]
theorem pairNv : ∀ {ys : List V} {l : List Nat}, Paired (fun y x => y = V.int (x : Nat)) ys l → ys = nv l
  | _, _, .nil => rfl
  | _, _, .cons h t => by
    rw [h, pairNv t]
    rfl
theorem kept_nv {s : List Nat} {p : Nat → Bool} {ys : List V} (pr : Paired (fun y k => ∃ x, s[k]? = some x ∧ y = V.int (x : Nat)) ys (kept (nv s).length (fOf s p))) : ys = nv (s.filter p) := by
  rw [nv_len] at pr
  exact pairNv (paired_kept (S := fun y (x : Nat) => y = V.int x) (fun i x h => fOf_at h) pr)
def Ends (n : Nat) (F T : List Nat) : Prop := Rising n F ∧ Rising n T ∧ F ≠ [] ∧ T ≠ [] ∧ ∀ x ∈ F, x ∉ T
/-- the two ends as tuples -/
def EndsT (K : PySem.W.Frag) (H : Hp) (b c : V) (F T : List Nat) : Prop := ∃ l m, b = .ref l ∧ c = .ref m ∧ SqT K H l (nv F) ∧ SqT K H m (nv T)
theorem _root_.L2.Same.endsT {K : PySem.W.Frag} {H H' : Hp} {b c : V} {F T : List Nat} (s : Same H H') (h : EndsT K H b c F T) : EndsT K H' b c F T := by
  obtain ⟨l, m, e1, e2, h1, h2⟩ := h
  exact ⟨l, m, e1, e2, s.seqT h1, s.seqT h2⟩
def sp_are_ends (K : PySem.W.Frag) (a b c : V) (H : Hp) (Q : VK) : Prop := ∃ w n es F T, a = .ref w ∧ WebI K H w n es ∧ n ≤ 40 ∧ EndsT K H b c F T ∧ Cs.Ends n F T ∧ ∀ H1, Same H H1 → Q (.bl true) H1
theorem rising_len2 {n : Nat} : ∀ {s : List Nat} {lo : Nat}, s.Pairwise (· < ·) → (∀ x ∈ s, lo ≤ x ∧ x < n) → s.length ≤ n - lo
  | [], _, _, _ => Nat.zero_le _
  | x :: r, lo, h, hb => by
    obtain ⟨h1, h2⟩ := List.pairwise_cons.mp h
    have b := hb x List.mem_cons_self
    have := rising_len2 (s := r) (lo := x + 1) h2 fun y hy => ⟨h1 y hy, (hb y (List.mem_cons_of_mem _ hy)).2⟩
    rw [List.length_cons]
    omega
theorem rising_len {n : Nat} {s : List Nat} (h : Rising n s) : s.length ≤ n := rising_len2 (lo := 0) h.1 fun x hx => ⟨Nat.zero_le _, h.2 x hx⟩
theorem rising_lt2 {n : Nat} : ∀ {s : List Nat} {lo y : Nat}, s.Pairwise (· < ·) → (∀ x ∈ s, lo ≤ x ∧ x < n) → lo ≤ y → y < n → y ∉ s → s.length < n - lo
  | [], _, _, _, _, _, _, _ => by
    show 0 < _
    omega
  | x :: r, lo, y, h, hb, h1, h2, hy => by
    obtain ⟨g1, g2⟩ := List.pairwise_cons.mp h
    have b := hb x List.mem_cons_self
    have ne : y ≠ x := fun z => hy (by rw [z]; exact List.mem_cons_self)
    rw [List.length_cons]
    by_cases c : y < x
    · have := rising_len2 (s := r) (lo := x + 1) g2 fun z hz => ⟨g1 z hz, (hb z (List.mem_cons_of_mem _ hz)).2⟩
      omega
    · have := rising_lt2 (s := r) (lo := x + 1) (y := y) g2 (fun z hz => ⟨g1 z hz, (hb z (List.mem_cons_of_mem _ hz)).2⟩) (by omega) h2 fun z => hy (List.mem_cons_of_mem _ z)
      omega
theorem rising_lt {n y : Nat} {s : List Nat} (h : Rising n s) (h2 : y < n) (hy : y ∉ s) : s.length < n := rising_lt2 (lo := 0) h.1 (fun x hx => ⟨Nat.zero_le _, h.2 x hx⟩) (Nat.zero_le _) h2 hy
theorem pure_are_ends {K : PySem.W.Frag} {mg : Str → Option Value} (E : En K mg) : ∀ vs H Q, u3 (sp_are_ends K) vs H Q → t_are_ends K (u2 (sp_are_rising K)) { nx := fun _ H' => Q .non H', rt := Q } (L2.start ["web", "froms", "tos", "place"] vs) H := by
  rintro _ H Q ⟨_, _, _, rfl, w, n, es, F, T, rfl, hw, hn, ⟨l, m, rfl, rfl, hF, hT⟩, ⟨rF, rT, nF, nT, dj⟩, hQ⟩
  obtain ⟨dx, wd, tt, kvs, rows, h1, h2, h3, h4, h5⟩ := hw
  unfold t_are_ends
  walk_at "st"
  walk_at "gs"
  refine fW_many E h1 ?_
  walk_at "gs"
  refine ⟨n, l, F, rfl, rfl, hF, rF, fun H1 s1 => ?_⟩
  walk_at "gs"
  refine fW_many E (s1 _ _ h1) ?_
  walk_at "gs"
  refine ⟨n, m, T, rfl, rfl, s1.seqT hT, rT, fun H2 s2 => ?_⟩
  have s := s1.trans s2
  have hF2 := s.seqT hF
  have hT2 := s.seqT hT
  walk_at "gs"
  rw [nv_len]
  have lF : 0 < F.length := List.length_pos_iff.mpr nF
  have lT : 0 < T.length := List.length_pos_iff.mpr nT
  refine ite_dec (fun _ => ?_) fun h => absurd (by omega) h
  walk_at "gs"
  rw [nv_len]
  refine ite_dec (fun _ => ?_) fun h => absurd (by omega) h
  walk_at "gs"
  have lb := rising_len rF
  refine ⟨l, rfl, ⟨_, hF2⟩, lcT hF2 (fOf F fun x => decide (x ∈ T)) (fun _ i H y => ∃ x, F[i]? = some x ∧ y = V.int (x : Nat)) (by rw [nv_len]; omega) (fun _ _ _ _ _ _ _ h => h) ?_ ?_⟩
  · intro D i x H3 N N' hx hD s3 mu q1 q2
    obtain ⟨z, hz, rfl⟩ := nv_get hx
    rw [fOf_at hz] at q1 q2
    walk_at "gs"
    refine ⟨rfl, ?_⟩
    walk_at "gs"
    refine go_in (.inr (s3.seqT hT2)) ?_
    walk_at "gs"
    cases hb : decide (z ∈ T) with
    | true =>
      walk_at "gs"
      exact q1 hb _ H3 (Same.refl _) ⟨z, hz, rfl⟩
    | false =>
      walk_at "gs"
      exact q2 hb H3 (Same.refl _)
  · intro D H3 ys hD s3 hy pr
    have e := kept_nv pr
    have em : F.filter (fun x => decide (x ∈ T)) = [] := List.filter_eq_nil_iff.mpr fun x hx => by simpa using dj x hx
    rw [em] at e
    subst e
    walk_at "gs"
    intro q nq
    refine go_eqL (ns := []) (ms := []) (SqL.of (sameNew nq _ _ hy)) (SqL.of upd_same) ?_
    exact hQ _ ((s.trans s3).trans (sameNew nq))
def sp_ask_ends (K : PySem.W.Frag) (a b c : V) (H : Hp) (Q : VK) : Prop := ∃ w n es F T, a = .ref w ∧ WebI K H w n es ∧ n ≤ 40 ∧ EndsT K H b c F T ∧ Cs.Ends n F T ∧ ∀ H1, Same H H1 → Q .non H1
theorem pure_ask_ends {K : PySem.W.Frag} : ∀ vs H Q, u3 (sp_ask_ends K) vs H Q → t_ask_ends K (u3 (sp_are_ends K)) { nx := fun _ H' => Q .non H', rt := Q } (L2.start ["web", "froms", "tos"] vs) H := by
  rintro _ H Q ⟨_, b, c, rfl, w, n, es, F, T, rfl, hw, hn, hE, ok, hQ⟩
  unfold t_ask_ends
  walk_at "st"
  walk_at "gs"
  refine ⟨w, n, es, F, T, rfl, hw, hn, hE, ok, fun H1 s1 => ?_⟩
  walk_at "gs"
  exact hQ H1 s1
/-- one row of a flow -/
def FRow (n : Nat) (e : Tie) : Prop := e.1 < n ∧ e.2.1 < n ∧ e.1 ≠ e.2.1 ∧ 0 < e.2.2
def sp_is_flow_row (K : PySem.W.Frag) (a b : V) (H : Hp) (Q : VK) : Prop := ∃ (n : Nat) (e : Tie), a = .int n ∧ Row3 K H b e ∧ FRow n e ∧ ∀ H1, Same H H1 → Q (.bl true) H1
theorem pure_is_flow_row {K : PySem.W.Frag} : ∀ vs H Q, u2 (sp_is_flow_row K) vs H Q → t_is_flow_row K (u1 (sp_is_row K)) (u3 sp_is_whole) (u1 (sp_is_amount K)) { nx := fun _ H' => Q .non H', rt := Q } (L2.start ["many", "row"] vs) H := by
  rintro _ H Q ⟨_, _, rfl, n, e, rfl, ⟨a, w, rfl, ha, c, rfl, hc⟩, ⟨o1, o2, o3, o4⟩, hQ⟩
  unfold t_is_flow_row
  walk_at "st"
  walk_at "gs"
  refine .inr ⟨⟨_, a, rfl, .inr ha⟩, fun H1 s1 => ?_⟩
  have ha1 := s1.seqT ha
  walk_at "gs"
  refine ite_ndec (fun h => absurd rfl h) fun _ => ?_
  walk_at "gs"
  refine ⟨e.1, 0, n - 1, rfl, rfl, rfl, ?_⟩
  rw [decide_eq_true (show (0 : Int) ≤ e.1 by omega), decide_eq_true (show (e.1 : Int) ≤ n - 1 by omega), Bool.and_true]
  walk_at "gs"
  refine ⟨e.2.1, 0, n - 1, rfl, rfl, rfl, ?_⟩
  rw [decide_eq_true (show (0 : Int) ≤ e.2.1 by omega), decide_eq_true (show (e.2.1 : Int) ≤ n - 1 by omega), Bool.and_true]
  walk_at "gs"
  refine ite_dec (fun h => absurd h (by omega)) fun _ => ?_
  walk_at "gs"
  refine ⟨e.2.2, ⟨c, rfl, .inr (s1.seqT hc)⟩, fun H2 s2 => ?_⟩
  have ha2 := s2.seqT ha1
  have hc2 := (s1.trans s2).seqT hc
  walk_at "gs"
  have l0 : 0 < lowA e.2.2 := Nat.pos_of_ne_zero fun z => by
    have := lowA_zero.mp z
    omega
  refine ite_dec (fun _ => ?_) fun h => absurd (by omega) h
  walk_at "gs"
  · have := lowB_pos e.2.2
    omega
  walk_at "gs"
  have e0 : (55440 : Int) % (lowB e.2.2 : Nat) = 0 := by
    rw [show (55440 : Int) = ((55440 : Nat) : Int) from rfl, ← Int.natCast_emod, Nat.mod_eq_zero_of_dvd (lowB_dvd e.2.2)]
    rfl
  rw [e0]
  exact hQ H2 (s1.trans s2)
def FlowT (K : PySem.W.Frag) (H : Hp) (v : V) (fl : List Tie) : Prop := ∃ l rows, v = .ref l ∧ SqT K H l rows ∧ Rows K H rows fl
theorem _root_.L2.Same.flowT {K : PySem.W.Frag} {H H' : Hp} {v : V} {fl : List Tie} (s : Same H H') (h : FlowT K H v fl) : FlowT K H' v fl := by
  obtain ⟨l, rows, e1, h1, h2⟩ := h
  exact ⟨l, rows, e1, s.seqT h1, s.rows h2⟩
/-- no two places twice -/
def NoBack (fl : List Tie) : Prop := ∀ e ∈ fl, ∀ e' ∈ fl, ¬ (e'.1 = e.2.1 ∧ e'.2.1 = e.1)
theorem sqS_nv {K : PySem.W.Frag} {H H' : Hp} {a : Addr} {s : List Nat} (e : Same H H') (h : SqS K H a (nv s)) : SqS K H' a (nv s) := e.seqS h
def outOf (fl : List Tie) (s : List Nat) : Nat := ((fl.filter fun e => decide (e.1 ∈ s) && !decide (e.2.1 ∈ s)).map fun e => e.2.2).sum
def inTo (fl : List Tie) (s : List Nat) : Nat := ((fl.filter fun e => decide (e.2.1 ∈ s) && !decide (e.1 ∈ s)).map fun e => e.2.2).sum
/-- what goes over: f says of which row -/
def sp_going (f : List Tie → List Nat → Nat) (K : PySem.W.Frag) (a b : V) (H : Hp) (Q : VK) : Prop := ∃ fl l s, FlowT K H a fl ∧ fl.length ≤ 1000 ∧ b = .ref l ∧ SqS K H l (nv s) ∧ ∀ v H1, Same H H1 → Amt K H1 v (f fl s) → Q v H1
theorem pure_going_out {K : PySem.W.Frag} : ∀ vs H Q, u2 (sp_going outOf K) vs H Q → t_going_out K (u1 (sp_total K)) { nx := fun _ H' => Q .non H', rt := Q } (L2.start ["flow", "places", "i", "j", "amount"] vs) H := by
  rintro _ H Q ⟨_, _, rfl, fl, l, s, ⟨t, rows, rfl, ht, hr⟩, hz, rfl, hs, hQ⟩
  unfold t_going_out
  walk_at "st"
  walk_at "gs"
  have hl := pairLen hr
  refine ⟨t, rfl, ⟨_, ht⟩, lcT ht (fOf fl fun e => decide (e.1 ∈ s) && !decide (e.2.1 ∈ s)) (fun _ i H y => ∃ e, fl[i]? = some e ∧ Amt K H y e.2.2) (by omega) ?_ ?_ ?_⟩
  · rintro D i H2 H3 v bu mu ⟨e, he, ha⟩
    exact ⟨e, he, bu.amt mu ha⟩
  · intro D i x H2 N N' hx hD s2 mu q1 q2
    obtain ⟨e, he, a, v, rfl, ha, hv⟩ := pairGet hr hx
    rw [fOf_at he] at q1 q2
    have ha2 := s2.seqT ha
    have hs2 := s2.seqS hs
    walk_at "gs"
    refine ⟨rfl, ?_⟩
    walk_at "gs"
    refine go_in hs2 ?_
    walk_at "gs"
    cases hb1 : decide (e.1 ∈ s) with
    | true =>
      walk_at "gs"
      refine go_notin hs2 ?_
      walk_at "gs"
      cases hb2 : decide (e.2.1 ∈ s) with
      | true =>
        walk_at "gs"
        exact q2 (by rw [hb1, hb2]; rfl) H2 (Same.refl _)
      | false =>
        walk_at "gs"
        exact q1 (by rw [hb1, hb2]; rfl) _ H2 (Same.refl _) ⟨e, he, s2.amt hv⟩
    | false =>
      walk_at "gs"
      exact q2 (by rw [hb1]; rfl) H2 (Same.refl _)
  · intro D H2 ys hD s2 hy pr
    walk_at "gs"
    rw [hl] at pr
    have pr2 := paired_kept (S := fun y (e : Tie) => Amt K H2 y e.2.2) (fun i e he => fOf_at he) pr
    exact ⟨D, ys, _, rfl, SqL.of hy, pairMap (g := fun e : Tie => e.2.2) pr2, fun v H3 s3 hv => hQ v H3 (s2.trans s3) hv⟩
theorem pure_coming_in {K : PySem.W.Frag} : ∀ vs H Q, u2 (sp_going inTo K) vs H Q → t_coming_in K (u1 (sp_total K)) { nx := fun _ H' => Q .non H', rt := Q } (L2.start ["flow", "places", "i", "j", "amount"] vs) H := by
  rintro _ H Q ⟨_, _, rfl, fl, l, s, ⟨t, rows, rfl, ht, hr⟩, hz, rfl, hs, hQ⟩
  unfold t_coming_in
  walk_at "st"
  walk_at "gs"
  have hl := pairLen hr
  refine ⟨t, rfl, ⟨_, ht⟩, lcT ht (fOf fl fun e => decide (e.2.1 ∈ s) && !decide (e.1 ∈ s)) (fun _ i H y => ∃ e, fl[i]? = some e ∧ Amt K H y e.2.2) (by omega) ?_ ?_ ?_⟩
  · rintro D i H2 H3 v bu mu ⟨e, he, ha⟩
    exact ⟨e, he, bu.amt mu ha⟩
  · intro D i x H2 N N' hx hD s2 mu q1 q2
    obtain ⟨e, he, a, v, rfl, ha, hv⟩ := pairGet hr hx
    rw [fOf_at he] at q1 q2
    have ha2 := s2.seqT ha
    have hs2 := s2.seqS hs
    walk_at "gs"
    refine ⟨rfl, ?_⟩
    walk_at "gs"
    refine go_in hs2 ?_
    walk_at "gs"
    cases hb1 : decide (e.2.1 ∈ s) with
    | true =>
      walk_at "gs"
      refine go_notin hs2 ?_
      walk_at "gs"
      cases hb2 : decide (e.1 ∈ s) with
      | true =>
        walk_at "gs"
        exact q2 (by rw [hb1, hb2]; rfl) H2 (Same.refl _)
      | false =>
        walk_at "gs"
        exact q1 (by rw [hb1, hb2]; rfl) _ H2 (Same.refl _) ⟨e, he, s2.amt hv⟩
    | false =>
      walk_at "gs"
      exact q2 (by rw [hb1]; rfl) H2 (Same.refl _)
  · intro D H2 ys hD s2 hy pr
    walk_at "gs"
    rw [hl] at pr
    have pr2 := paired_kept (S := fun y (e : Tie) => Amt K H2 y e.2.2) (fun i e he => fOf_at he) pr
    exact ⟨D, ys, _, rfl, SqL.of hy, pairMap (g := fun e : Tie => e.2.2) pr2, fun v H3 s3 hv => hQ v H3 (s2.trans s3) hv⟩
theorem go_leT2 {K : PySem.W.Frag} {H : Hp} {Q : VK} {a b : Addr} {x y z w : Int} (ha : SqT K H a [.int x, .int y]) (hb : SqT K H b [.int z, .int w]) (h : Q (.bl (decide (x < z ∨ (x = z ∧ y ≤ w)))) H) : rLeT K (.ref a) (.ref b) H Q := by
  refine ⟨a, b, [x, y], [z, w], rfl, rfl, ha, hb, ?_⟩
  have e : (Ob.lexAt (fun j => decide (([x, y] : List Int).getD j 0 = ([z, w] : List Int).getD j 0)) (fun j => decide (([x, y] : List Int).getD j 0 ≤ ([z, w] : List Int).getD j 0)) (decide (([x, y] : List Int).length ≤ ([z, w] : List Int).length)) 0 (min ([x, y] : List Int).length ([z, w] : List Int).length)) = decide (x < z ∨ (x = z ∧ y ≤ w)) := by
    show (if decide (x = z) = true then (if decide (y = w) = true then decide (2 ≤ 2) else decide (y ≤ w)) else decide (x ≤ z)) = decide (x < z ∨ (x = z ∧ y ≤ w))
    by_cases h1 : x = z
    · subst h1
      by_cases h2 : y = w
      · subst h2; simp
      · have : (x < x ∨ (x = x ∧ y ≤ w)) ↔ y ≤ w := by omega
        simp [h2]
    · have : (x < z ∨ (x = z ∧ y ≤ w)) ↔ x ≤ z := by omega
      rw [decide_eq_false h1, if_neg (by decide), decide_eq_decide]
      exact this.symm
  rw [e]
  exact h
def sp_are_flow_rows (K : PySem.W.Frag) (a b : V) (H : Hp) (Q : VK) : Prop := ∃ (n : Nat) (fl : List Tie), a = .int n ∧ FlowT K H b fl ∧ fl.length ≤ 1000 ∧ Sorted fl ∧ (∀ e ∈ fl, FRow n e) ∧ NoBack fl ∧ ∀ H1, Same H H1 → Q (.bl true) H1
/-- the row ahead of the i-th: (-1, -1) at first -/
def lastOf (fl : List Tie) : Nat → Int × Int
  | 0 => (-1, -1)
  | i + 1 => match fl[i]? with
    | some e => keyI e
    | none => (-1, -1)
theorem lastOf_lt {n : Nat} {fl : List Tie} (up : Sorted fl) {i : Nat} {e : Tie} (he : fl[i]? = some e) : ¬ ((e.1 : Int) < (lastOf fl i).1 ∨ ((e.1 : Int) = (lastOf fl i).1 ∧ (e.2.1 : Int) ≤ (lastOf fl i).2)) := by
  cases i with
  | zero =>
    unfold lastOf
    simp only
    omega
  | succ i =>
    obtain ⟨h1, h2⟩ := List.getElem?_eq_some_iff.mp he
    have := List.pairwise_iff_getElem.mp up i (i + 1) (by omega) h1 (by omega)
    have hla : lastOf fl (i + 1) = keyI fl[i] := by
      show (match fl[i]? with | some e => keyI e | none => (-1, -1)) = keyI fl[i]
      rw [List.getElem?_eq_getElem (by omega)]
    rw [hla]
    unfold keyI
    simp only
    rw [h2] at this
    omega
theorem sorted_keys {fl : List Tie} (up : Sorted fl) : (keysN fl).Nodup := by
  unfold keysN
  refine List.pairwise_map.mpr (up.imp ?_)
  intro x y h z
  have h1 := congrArg Prod.fst z
  have h2 := congrArg Prod.snd z
  simp only at h1 h2
  omega
theorem pure_are_flow_rows {K : PySem.W.Frag} : ∀ vs H Q, u2 (sp_are_flow_rows K) vs H Q → t_are_flow_rows K (u1 (sp_is_row K)) (u2 (sp_is_flow_row K)) { nx := fun _ H' => Q .non H', rt := Q } (L2.start ["many", "flow", "known", "last", "row"] vs) H := by
  rintro _ H Q ⟨_, _, rfl, n, fl, rfl, ⟨t, rows, rfl, ht, hr⟩, hz, up, ok, nb, hQ⟩
  unfold t_are_flow_rows
  walk_at "st"
  walk_at "gs"
  refine .inr ⟨⟨_, t, rfl, .inr ht⟩, fun H1 s1 => ?_⟩
  walk_at "gs"
  intro d nd1
  walk_at "gs"
  intro la nla
  walk_at "gs"
  have d0 : H d = none := s1.free nd1
  have hl := pairLen hr
  have s2 : Same H (upd H1 d (.dT [])) := s1.trans (sameNew nd1)
  have s3 : Same H (upd (upd H1 d (.dT [])) la (.tup [.int (-1), .int (-1)])) := s2.trans (sameNew nla)
  refine ⟨t, rfl, ⟨_, s3.seqT ht⟩, for_tup (xs := rows) (fun i σ H' => Same H H' ∧ ∃ lv y, σ = [some (.int n), some (.ref t), some (.ref d), some (.ref lv), y] ∧ H' d = some (.dT (kT (fl.take i))) ∧ H' lv = some (.tup [.int (lastOf fl i).1, .int (lastOf fl i).2]))
    ⟨s3, la, none, rfl, sameNew nla _ _ upd_same, upd_same⟩ (fun i σ H' _ p => p.1.seqT ht) ?_ ?_⟩
  · rintro i x σ H' hx ⟨s, lv, y, rfl, hd, hlv⟩
    obtain ⟨e, he, hre⟩ := pairGet hr hx
    have hem := List.mem_of_getElem? he
    obtain ⟨a, w, rfl, ha, c, rfl, hc⟩ := s.row3 hre
    walk_at "gs"
    refine ⟨n, e, rfl, ⟨a, .ref c, rfl, ha, c, rfl, hc⟩, ok e hem, fun H2 sa => ?_⟩
    have ha2 := sa.seqT ha
    walk_at "gs"
    intro p np
    walk_at "gs"
    refine go_leT2 (SqT.of upd_same) (SqT.of (sameNew np _ _ (sa _ _ hlv))) ?_
    refine ⟨_, rfl, ?_⟩
    refine ite_dec (fun h => absurd h (lastOf_lt (n := n) up he)) fun _ => ?_
    have ha3 := (sameNew (o := .tup [.int e.1, .int e.2.1]) np).seqT ha2
    walk_at "gs"
    intro p2 np2
    walk_at "gs"
    have sb := sa.trans ((sameNew (o := .tup [.int e.1, .int e.2.1]) np).trans (sameNew (o := .tup [.int e.2.1, .int e.1]) np2))
    refine ⟨d, _, rfl, DGet.pk (i := e.2.1) (j := e.1) (Rd.of (sb _ _ hd)) upd_same, ?_⟩
    have hv : valV (kT (fl.take i)) (pkN e.2.1 e.1) = none := by
      refine valV_none fun h => ?_
      unfold kT at h
      rw [List.map_map] at h
      obtain ⟨e', he', eq⟩ := List.mem_map.mp h
      obtain ⟨q1, q2⟩ := pkN_inj eq
      exact nb e hem e' (List.mem_of_mem_take he') ⟨q1, q2⟩
    simp only [hv, Option.isSome_none]
    have ha4 := sb.seqT ha
    walk_at "gs"
    intro p3 np3
    have sc := sb.trans (sameNew (o := .tup [.int e.1, .int e.2.1]) np3)
    walk_at "gs"
    have hv2 : valV (kT (fl.take i)) (pkN e.1 e.2.1) = none := valV_none (pk_not (f := fun _ => V.bl true) (sorted_keys up) he)
    refine ⟨d, _, rfl, DPut.pk (i := e.1) (j := e.2.1) (sc _ _ hd) upd_same ?_, ?_⟩
    · unfold kT
      rw [List.length_map, List.length_take, sizeLine_eq]
      omega
    · have npd : p3 ≠ d := ne_of upd_same (sc _ _ hd) (by intro z; cases z)
      refine ⟨But.same butUpd (s.trans sc) d0, p3, _, rfl, ?_, ?_⟩
      · rw [upd_same, putK_new _ hv2]
        have ht : fl.take (i + 1) = fl.take i ++ [e] := by rw [List.take_add_one, he]; rfl
        rw [ht]
        unfold kT
        rw [List.map_append]
        rfl
      · have hla : lastOf fl (i + 1) = keyI e := by
          show (match fl[i]? with | some e => keyI e | none => (-1, -1)) = keyI e
          rw [he]
        rw [upd_ne npd, upd_same, hla]
        rfl
  · rintro σ H' ⟨s, lv, y, rfl, hd, hlv⟩
    walk_at "gs"
    exact hQ H' s
/-! ### a flow, a cut, checked -/
def Balanced (n : Nat) (F T : List Nat) (fl : List Tie) : Prop := (∀ v, v < n → v ∉ F → v ∉ T → outOf fl [v] = inTo fl [v]) ∧ inTo fl F ≤ outOf fl F
def sp_is_balanced (K : PySem.W.Frag) (a b c d : V) (H : Hp) (Q : VK) : Prop := ∃ (n : Nat) (F T : List Nat) (fl : List Tie), a = .int n ∧ n ≤ 40 ∧ EndsT K H b c F T ∧ FlowT K H d fl ∧ fl.length ≤ 1000 ∧ Balanced n F T fl ∧ ∀ H1, Same H H1 → Q (.bl true) H1
theorem pure_is_balanced {K : PySem.W.Frag} : ∀ vs H Q, u4 (sp_is_balanced K) vs H Q → t_is_balanced K (u2 (sp_going outOf K)) (u2 (sp_going inTo K)) (u2 (sp_is_below K)) { nx := fun _ H' => Q .non H', rt := Q } (L2.start ["many", "froms", "tos", "flow", "place"] vs) H := by
  rintro _ H Q ⟨_, _, _, _, rfl, n, F, T, fl, rfl, hn, ⟨l, m, rfl, rfl, hF, hT⟩, ⟨t, rows, rfl, ht, hr⟩, hz, ⟨bal, bel⟩, hQ⟩
  unfold t_is_balanced
  walk_at "st"
  walk_at "gs"
  refine ⟨n, rfl, by omega, by omega, for_range (lo := 0) (n := (n : Int).toNat) (fun i σ H' => Same H H' ∧ ∃ y, σ = [some (.int n), some (.ref l), some (.ref m), some (.ref t), y]) ⟨Same.refl _, none, rfl⟩ ?_ ?_⟩
  · rintro i σ H' hi ⟨s, y, rfl⟩
    have e0 : (0 : Int) + (i : Int) = (i : Int) := Int.zero_add _
    rw [e0]
    have hF2 := s.seqT hF
    have hT2 := s.seqT hT
    walk_at "gs"
    refine go_notin (.inr hF2) ?_
    walk_at "gs"
    cases h1 : decide (i ∈ F) with
    | true =>
      walk_at "gs"
      exact ⟨s, _, rfl⟩
    | false =>
      walk_at "gs"
      refine go_notin (.inr hT2) ?_
      walk_at "gs"
      cases h2 : decide (i ∈ T) with
      | true =>
        walk_at "gs"
        exact ⟨s, _, rfl⟩
      | false =>
        walk_at "gs"
        intro p np
        walk_at "gs"
        have fT := s.flowT (K := K) (v := .ref t) ⟨t, rows, rfl, ht, hr⟩
        refine ⟨fl, p, [i], (sameNew np).flowT fT, hz, rfl, .inl (SqL.of upd_same), fun v H2 s2 hv => ?_⟩
        walk_at "gs"
        intro p2 np2
        walk_at "gs"
        refine ⟨fl, p2, [i], (((sameNew np).trans s2).trans (sameNew np2)).flowT fT, hz, rfl, .inl (SqL.of upd_same), fun w H3 s3 hw => ?_⟩
        walk_at "gs"
        refine amtNe (((sameNew np2).trans s3).amt hv) hw ?_
        rw [bal i (by omega) (of_decide_eq_false h1) (of_decide_eq_false h2), decide_eq_true rfl]
        walk_at "gs"
        exact ⟨s.trans ((((sameNew np).trans s2).trans (sameNew np2)).trans s3), _, rfl⟩
  · rintro σ H' ⟨s, y, rfl⟩
    have fT := s.flowT (K := K) (v := .ref t) ⟨t, rows, rfl, ht, hr⟩
    walk_at "gs"
    refine ⟨fl, l, F, fT, hz, rfl, .inr (s.seqT hF), fun v H2 s2 hv => ?_⟩
    walk_at "gs"
    refine ⟨fl, l, F, s2.flowT fT, hz, rfl, .inr ((s.trans s2).seqT hF), fun w H3 s3 hw => ?_⟩
    walk_at "gs"
    refine ⟨_, _, s3.amt hv, hw, ?_⟩
    rw [decide_eq_false (Nat.not_lt.mpr bel)]
    walk_at "gs"
    exact hQ H3 ((s.trans s2).trans s3)
def sp_fits (K : PySem.W.Frag) (a b : V) (H : Hp) (Q : VK) : Prop := ∃ (w : Addr) (n : Nat) (es fl : List Tie), a = .ref w ∧ WebI K H w n es ∧ FlowT K H b fl ∧ fl.length ≤ 1000 ∧ (∀ e ∈ fl, e.2.2 ≤ tieW es e.1 e.2.1) ∧ ∀ H1, Same H H1 → Q (.bl true) H1
theorem pure_fits {K : PySem.W.Frag} : ∀ vs H Q, u2 (sp_fits K) vs H Q → t_fits K (u3 (sp_Web_tie K)) (u2 (sp_is_below K)) { nx := fun _ H' => Q .non H', rt := Q } (L2.start ["web", "flow", "row"] vs) H := by
  rintro _ H Q ⟨_, _, rfl, w, n, es, fl, rfl, hw, ⟨t, rows, rfl, ht, hr⟩, hz, ok, hQ⟩
  unfold t_fits
  walk_at "st"
  walk_at "gs"
  have hl := pairLen hr
  refine ⟨t, rfl, ⟨_, ht⟩, lcT ht (fun _ => false) (fun _ i H y => True) (by omega) (fun _ _ _ _ _ _ _ h => h) ?_ ?_⟩
  · intro D i x H2 N N' hx hD s2 mu q1 q2
    obtain ⟨e, he, hre⟩ := pairGet hr hx
    obtain ⟨a, v, rfl, ha, c, rfl, hc⟩ := s2.row3 hre
    have hw2 := s2.web hw
    obtain ⟨dx, wd, tt, kvs, rows2, h1, h2, h3, h4, h5⟩ := id hw2
    walk_at "gs"
    refine ⟨rfl, ?_⟩
    walk_at "gs"
    refine ⟨w, _, _, rfl, h1, by rfl, ?_⟩
    walk_at "gs"
    refine ⟨w, n, es, e.1, e.2.1, rfl, hw2, rfl, rfl, fun z H3 s3 hz => ?_⟩
    have ha3 := s3.seqT ha
    walk_at "gs"
    refine ⟨_, e.2.2, hz, ⟨c, rfl, s3.seqT hc⟩, ?_⟩
    rw [decide_eq_false (Nat.not_lt.mpr (ok e (List.mem_of_getElem? he)))]
    walk_at "gs"
    exact q2 rfl H3 s3
  · intro D H2 ys hD s2 hy pr
    have e : ys = [] := by
      have := pairLen pr
      have k : kept rows.length (fun _ => false) = [] := by
        unfold kept
        exact List.filter_eq_nil_iff.mpr fun _ _ => by decide
      rw [k] at this
      exact List.length_eq_zero_iff.mp this
    subst e
    walk_at "gs"
    intro q nq
    refine go_eqL (ns := []) (ms := []) (SqL.of (sameNew nq _ _ hy)) (SqL.of upd_same) ?_
    exact hQ _ (s2.trans (sameNew nq))
/-- a flow of the web from F to T -/
structure FlowOk (n : Nat) (es : List Tie) (F T : List Nat) (fl : List Tie) : Prop where
  up : Sorted fl
  rows : ∀ e ∈ fl, FRow n e
  nb : NoBack fl
  len : fl.length ≤ 1000
  fit : ∀ e ∈ fl, e.2.2 ≤ tieW es e.1 e.2.1
  bal : Balanced n F T fl
def sp_is_flow (K : PySem.W.Frag) (a b c d : V) (H : Hp) (Q : VK) : Prop := ∃ (w : Addr) (n : Nat) (es : List Tie) (F T : List Nat) (fl : List Tie), a = .ref w ∧ WebI K H w n es ∧ n ≤ 40 ∧ EndsT K H b c F T ∧ Cs.Ends n F T ∧ FlowT K H d fl ∧ FlowOk n es F T fl ∧ ∀ H1, Same H H1 → Q (.bl true) H1
theorem pure_is_flow {K : PySem.W.Frag} {mg : Str → Option Value} (E : En K mg) : ∀ vs H Q, u4 (sp_is_flow K) vs H Q → t_is_flow K (u3 (sp_ask_ends K)) (u2 (sp_are_flow_rows K)) (u2 (sp_fits K)) (u4 (sp_is_balanced K)) { nx := fun _ H' => Q .non H', rt := Q } (L2.start ["web", "froms", "tos", "flow"] vs) H := by
  rintro _ H Q ⟨_, b, c, d, rfl, w, n, es, F, T, fl, rfl, hw, hn, hE, ok, hf, fo, hQ⟩
  unfold t_is_flow
  walk_at "st"
  walk_at "gs"
  refine ⟨w, n, es, F, T, rfl, hw, hn, hE, ok, fun H1 s1 => ?_⟩
  obtain ⟨dx, wd, tt, kvs, rows2, h1, h2, h3, h4, h5⟩ := id hw
  walk_at "gs"
  refine fW_many E (s1 _ _ h1) ?_
  walk_at "gs"
  refine ⟨n, fl, rfl, s1.flowT hf, fo.len, fo.up, fo.rows, fo.nb, fun H2 s2 => ?_⟩
  have sa := s1.trans s2
  walk_at "gs"
  refine ⟨w, n, es, fl, rfl, sa.web hw, sa.flowT hf, fo.len, fo.fit, fun H3 s3 => ?_⟩
  have sb := sa.trans s3
  walk_at "gs"
  refine fW_many E (sb _ _ h1) ?_
  walk_at "gs"
  exact ⟨n, F, T, fl, rfl, hn, sb.endsT hE, sb.flowT hf, fo.len, fo.bal, fun H4 s4 => hQ H4 (sb.trans s4)⟩
def sp_worth_of (K : PySem.W.Frag) (a b : V) (H : Hp) (Q : VK) : Prop := ∃ (l : Addr) (F : List Nat) (fl : List Tie), a = .ref l ∧ SqT K H l (nv F) ∧ FlowT K H b fl ∧ fl.length ≤ 1000 ∧ inTo fl F ≤ outOf fl F ∧ ∀ v H1, Same H H1 → Amt K H1 v (outOf fl F - inTo fl F) → Q v H1
theorem pure_worth_of {K : PySem.W.Frag} {mg : Str → Option Value} (E : En K mg) : ∀ vs H Q, u2 (sp_worth_of K) vs H Q → t_worth_of K (u2 (sp_going inTo K)) (u2 (sp_going outOf K)) (u2 (sp_less K)) { nx := fun _ H' => Q .non H', rt := Q } (L2.start ["froms", "flow"] vs) H := by
  rintro _ H Q ⟨_, _, rfl, l, F, fl, rfl, hF, ⟨t, rows, rfl, ht, hr⟩, hz, bel, hQ⟩
  unfold t_worth_of
  walk_at "st"
  walk_at "gs"
  have hl := pairLen hr
  refine ite_dec (fun h => ?_) fun _ => ?_
  · have h0 : fl = [] := List.length_eq_zero_iff.mp (by omega)
    subst h0
    walk_at "gs"
    exact hQ _ H (Same.refl _) (E.amt0 H)
  · walk_at "gs"
    refine ⟨fl, l, F, ⟨t, rows, rfl, ht, hr⟩, hz, rfl, .inr hF, fun v H2 s2 hv => ?_⟩
    walk_at "gs"
    refine ⟨fl, l, F, s2.flowT ⟨t, rows, rfl, ht, hr⟩, hz, rfl, .inr (s2.seqT hF), fun w H3 s3 hw => ?_⟩
    walk_at "gs"
    exact ⟨_, _, s3.amt hv, hw, bel, fun z H4 s4 hz => hQ z H4 ((s2.trans s3).trans s4) hz⟩
def sp_is_between (K : PySem.W.Frag) (a b c : V) (H : Hp) (Q : VK) : Prop := ∃ (F T s : List Nat) (q : Addr), EndsT K H a b F T ∧ F.length ≤ 1000 ∧ T.length ≤ 1000 ∧ c = .ref q ∧ SqT K H q (nv s) ∧ (∀ x ∈ F, x ∈ s) ∧ (∀ x ∈ T, x ∉ s) ∧ ∀ H1, Same H H1 → Q (.bl true) H1
theorem pure_is_between {K : PySem.W.Frag} : ∀ vs H Q, u3 (sp_is_between K) vs H Q → t_is_between K { nx := fun _ H' => Q .non H', rt := Q } (L2.start ["froms", "tos", "side", "place"] vs) H := by
  rintro _ H Q ⟨_, _, _, rfl, F, T, s, q, ⟨l, m, rfl, rfl, hF, hT⟩, lF, lT, rfl, hs, sF, sT, hQ⟩
  unfold t_is_between
  walk_at "st"
  walk_at "gs"
  refine ⟨l, rfl, ⟨_, hF⟩, lcT hF (fOf F fun x => !decide (x ∈ s)) (fun _ i H y => ∃ x, F[i]? = some x ∧ y = V.int (x : Nat)) (by rw [nv_len]; omega) (fun _ _ _ _ _ _ _ h => h) ?_ ?_⟩
  · intro D i x H3 N N' hx hD s3 mu q1 q2
    obtain ⟨z, hz, rfl⟩ := nv_get hx
    rw [fOf_at hz] at q1 q2
    walk_at "gs"
    refine ⟨rfl, ?_⟩
    walk_at "gs"
    refine go_notin (.inr (s3.seqT hs)) ?_
    have := sF z (List.mem_of_getElem? hz)
    rw [decide_eq_true this] at q1 q2 ⊢
    walk_at "gs"
    exact q2 rfl H3 (Same.refl _)
  · intro D H3 ys hD s3 hy pr
    have e := kept_nv pr
    have em : F.filter (fun x => !decide (x ∈ s)) = [] := List.filter_eq_nil_iff.mpr fun x hx => by simpa using sF x hx
    rw [em] at e
    subst e
    walk_at "gs"
    intro p np
    refine go_eqL (ns := []) (ms := []) (SqL.of (sameNew np _ _ hy)) (SqL.of upd_same) ?_
    walk_at "gs"
    refine ite_dec (fun _ => ?_) fun h => absurd rfl h
    walk_at "gs"
    have s4 := s3.trans (sameNew (o := .lst []) np)
    refine ⟨m, rfl, ⟨_, s4.seqT hT⟩, lcT (s4.seqT hT) (fOf T fun x => decide (x ∈ s)) (fun _ i H y => ∃ x, T[i]? = some x ∧ y = V.int (x : Nat)) (by rw [nv_len]; omega) (fun _ _ _ _ _ _ _ h => h) ?_ ?_⟩
    · intro D i x H4 N N' hx hD s5 mu q1 q2
      obtain ⟨z, hz, rfl⟩ := nv_get hx
      rw [fOf_at hz] at q1 q2
      walk_at "gs"
      refine ⟨rfl, ?_⟩
      walk_at "gs"
      refine go_in (.inr ((s4.trans s5).seqT hs)) ?_
      have := sT z (List.mem_of_getElem? hz)
      rw [decide_eq_false this] at q1 q2 ⊢
      walk_at "gs"
      exact q2 rfl H4 (Same.refl _)
    · intro D H4 ys hD s5 hy pr
      have e := kept_nv pr
      have em : T.filter (fun x => decide (x ∈ s)) = [] := List.filter_eq_nil_iff.mpr fun x hx => by simpa using sT x hx
      rw [em] at e
      subst e
      walk_at "gs"
      intro p np
      refine go_eqL (ns := []) (ms := []) (SqL.of (sameNew np _ _ hy)) (SqL.of upd_same) ?_
      exact hQ _ ((s4.trans s5).trans (sameNew np))
def sp_is_least_cut (K : PySem.W.Frag) (a b c d : V) (H : Hp) (Q : VK) : Prop := ∃ (w : Addr) (n : Nat) (es : List Tie) (F T : List Nat) (fl : List Tie) (p q : Addr) (v : V) (s : List Nat), a = .ref w ∧ WebI K H w n es ∧ es.length ≤ 1000 ∧ n ≤ 40 ∧ EndsT K H b c F T ∧ Cs.Ends n F T ∧ d = .ref p ∧ SqL K H p [v, .ref q] ∧ FlowT K H v fl ∧ FlowOk n es F T fl ∧
  SqT K H q (nv s) ∧ Rising n s ∧ (∀ x ∈ F, x ∈ s) ∧ (∀ x ∈ T, x ∉ s) ∧ ∀ H1, Same H H1 → Q (.bl (decide (outOf fl F - inTo fl F = wOut es s))) H1
theorem pure_is_least_cut {K : PySem.W.Frag} : ∀ vs H Q, u4 (sp_is_least_cut K) vs H Q → t_is_least_cut K (u3 (sp_ask_ends K)) (u1 (sp_is_row K)) (u2 (sp_is_side K)) (u3 (sp_is_between K)) (u4 (sp_is_flow K)) (u2 (sp_worth_of K)) (u2 (sp_weight_out K)) { nx := fun _ H' => Q .non H', rt := Q } (L2.start ["web", "froms", "tos", "paper"] vs) H := by
  rintro _ H Q ⟨_, b, c, _, rfl, w, n, es, F, T, fl, p, q, v, s, rfl, hw, hez, hn, hE, ok, rfl, hp, hf, fo, hs, rs, sF, sT, hQ⟩
  obtain ⟨rF, rT, nF, nT, dj⟩ := id ok
  have l1 : 1 ≤ s.length := by
    obtain ⟨x, hx⟩ := List.exists_mem_of_ne_nil F nF
    exact List.length_pos_iff.mpr (List.ne_nil_of_mem (sF x hx))
  have l2 : s.length < n := by
    obtain ⟨y, hy⟩ := List.exists_mem_of_ne_nil T nT
    exact rising_lt rs (rT.2 y hy) (sT y hy)
  unfold t_is_least_cut
  walk_at "st"
  walk_at "gs"
  refine ⟨w, n, es, F, T, rfl, hw, hn, hE, ok, fun H1 s1 => ?_⟩
  walk_at "gs"
  refine .inr ⟨⟨_, p, rfl, .inl (s1.seqL hp)⟩, fun H2 s2 => ?_⟩
  have sa := s1.trans s2
  have hp2 := sa.seqL hp
  walk_at "gs"
  refine ite_ndec (fun h => absurd rfl h) fun _ => ?_
  walk_at "gs"
  refine ⟨w, n, es, q, s, rfl, sa.web hw, rfl, sa.seqT hs, rs, l1, l2, fun H3 s3 => ?_⟩
  have sb := sa.trans s3
  have hp3 := sb.seqL hp
  walk_at "gs"
  refine ⟨F, T, s, q, sb.endsT hE, by have := rising_len rF; omega, by have := rising_len rT; omega, rfl, sb.seqT hs, sF, sT, fun H4 s4 => ?_⟩
  have sc := sb.trans s4
  have hp4 := sc.seqL hp
  walk_at "gs"
  refine ⟨w, n, es, F, T, fl, rfl, sc.web hw, hn, sc.endsT hE, ok, sc.flowT hf, fo, fun H5 s5 => ?_⟩
  have sd := sc.trans s5
  have hp5 := sd.seqL hp
  obtain ⟨lF, lT, rfl, rfl, hF, hT⟩ := hE
  walk_at "gs"
  refine ⟨lF, F, fl, rfl, sd.seqT hF, sd.flowT hf, fo.len, fo.bal.2, fun x H6 s6 hx => ?_⟩
  have se := sd.trans s6
  have hp6 := se.seqL hp
  walk_at "gs"
  refine ⟨w, n, es, q, s, rfl, se.web hw, hez, rfl, se.seqT hs, fun y H7 s7 hy => ?_⟩
  refine amtEq (s7.amt hx) hy ?_
  exact hQ H7 (se.trans s7)
/-! ### rooms -/
def rf (n : Nat) (wd bd cl : V) : List (Str × V) := [("size", .int n), ("weights", wd), ("brought", bd), ("close", cl)]
section
variable {K : PySem.W.Frag} {mg : Str → Option Value} {H : Hp} {w dx : Addr} {n : Nat} {wd bd cl : V} {R : V → Prop}
theorem fR_size (E : En K mg) (h : H w = some (.ins (He.ga K "Rooms") dx (rf n wd bd cl))) (q : R (.int n)) : ∃ a C dx fs v, V.ref w = .ref a ∧ H a = some (.ins C dx fs) ∧ Cls K C ∧ NoAttr K C "size" ∧ fs.lookup ("size" : Str) = some v ∧ R v :=
  ⟨_, _, _, _, _, rfl, h, E.cls_Rooms, E.na_Rooms_size, rfl, q⟩
theorem fR_weights (E : En K mg) (h : H w = some (.ins (He.ga K "Rooms") dx (rf n wd bd cl))) (q : R wd) : ∃ a C dx fs v, V.ref w = .ref a ∧ H a = some (.ins C dx fs) ∧ Cls K C ∧ NoAttr K C "weights" ∧ fs.lookup ("weights" : Str) = some v ∧ R v :=
  ⟨_, _, _, _, _, rfl, h, E.cls_Rooms, E.na_Rooms_weights, rfl, q⟩
theorem fR_brought (E : En K mg) (h : H w = some (.ins (He.ga K "Rooms") dx (rf n wd bd cl))) (q : R bd) : ∃ a C dx fs v, V.ref w = .ref a ∧ H a = some (.ins C dx fs) ∧ Cls K C ∧ NoAttr K C "brought" ∧ fs.lookup ("brought" : Str) = some v ∧ R v :=
  ⟨_, _, _, _, _, rfl, h, E.cls_Rooms, E.na_Rooms_brought, rfl, q⟩
theorem fR_close (E : En K mg) (h : H w = some (.ins (He.ga K "Rooms") dx (rf n wd bd cl))) (q : R cl) : ∃ a C dx fs v, V.ref w = .ref a ∧ H a = some (.ins C dx fs) ∧ Cls K C ∧ NoAttr K C "close" ∧ fs.lookup ("close" : Str) = some v ∧ R v :=
  ⟨_, _, _, _, _, rfl, h, E.cls_Rooms, E.na_Rooms_close, rfl, q⟩
end
/-- the weights' dict: c in parts, no noughts -/
structure WD (kw : List (List Key × V)) (c : Nat → Nat → Nat) : Prop where
  val : ∀ i j, valV kw (pkN i j) = if c i j = 0 then none else some (.int (c i j : Nat))
  all : ∀ kv ∈ kw, ∃ p : Nat, kv.2 = .int p
  key : ∀ kv ∈ kw, ∃ i j, kv.1 = pkN i j
  len : kw.length ≤ 1000
theorem WD.get {kw : List (List Key × V)} {c : Nat → Nat → Nat} (h : WD kw c) (i j : Nat) : (valV kw (pkN i j)).getD (.int 0) = .int (c i j : Nat) := by
  rw [h.val]
  by_cases e : c i j = 0
  · rw [if_pos e, e]; rfl
  · rw [if_neg e]; rfl
/-- the brought's dict: g, net, in parts -/
structure BD (kb : List (List Key × V)) (n : Nat) (g : Nat → Nat → Int) : Prop where
  val : ∀ i j, (valV kb (pkN i j)).getD (.int 0) = .int (max 0 (g i j))
  anti : ∀ i j, g j i = - g i j
  key : ∀ kv ∈ kb, ∃ i j, i < n ∧ j < n ∧ kv.1 = pkN i j
  nd : (kb.map (·.1)).Nodup
def grid (n : Nat) : List (Nat × Nat) := (List.range n).flatMap fun i => (List.range n).map fun j => (i, j)
theorem grid_len (n : Nat) : (grid n).length = n * n := by
  unfold grid
  rw [List.length_flatMap]
  simp only [List.length_map, List.length_range]
  have : ∀ l : List Nat, (l.map fun _ => n).sum = l.length * n := by
    intro l
    induction l with
    | nil => simp
    | cons a r ih => rw [List.map_cons, List.sum_cons, ih, List.length_cons, Nat.add_mul, Nat.one_mul, Nat.add_comm]
  rw [this, List.length_range]
theorem grid_mem {n i j : Nat} : (i, j) ∈ grid n ↔ i < n ∧ j < n := by
  unfold grid
  simp only [List.mem_flatMap, List.mem_map, List.mem_range, Prod.mk.injEq]
  constructor
  · rintro ⟨a, ha, b, hb, rfl, rfl⟩
    exact ⟨ha, hb⟩
  · rintro ⟨h1, h2⟩
    exact ⟨i, h1, j, h2, rfl, rfl⟩
theorem BD.len {kb : List (List Key × V)} {n : Nat} {g : Nat → Nat → Int} (h : BD kb n g) : kb.length ≤ n * n := by
  have := nodup_le (l := kb.map (·.1)) (m := (grid n).map fun k => pkN k.1 k.2) h.nd fun x hx => by
    obtain ⟨kv, hkv, rfl⟩ := List.mem_map.mp hx
    obtain ⟨i, j, h1, h2, h3⟩ := h.key kv hkv
    rw [h3]
    exact List.mem_map.mpr ⟨(i, j), grid_mem.mpr ⟨h1, h2⟩, rfl⟩
  rw [List.length_map, List.length_map, grid_len] at this
  exact this
theorem BD.len2 {kb : List (List Key × V)} {n : Nat} {g : Nat → Nat → Int} (h : BD kb n g) (hn : n ≤ 9) : kb.length ≤ 81 := by
  have h1 := h.len
  have : n * n ≤ 9 * 9 := Nat.mul_le_mul hn hn
  omega
def CloseI (H : Hp) (cl : Addr) (n : Nat) (nb : Nat → List Nat) : Prop := ∃ ls : List Addr, H cl = some (.lst (ls.map V.ref)) ∧ ls.length = n ∧ ∀ i, i < n → ∃ l, ls[i]? = some l ∧ H l = some (.lst (nv (nb i)))
/-- neighbours: those with a tie -/
structure Caps (n : Nat) (c : Nat → Nat → Nat) (nb : Nat → List Nat) : Prop where
  small : n ≤ 9
  sym : ∀ i j, c i j = c j i
  nz : ∀ i j, c i j ≠ 0 → i < n ∧ j < n ∧ i ≠ j
  up : ∀ i, i < n → Rising n (nb i)
  mem : ∀ i j, i < n → (j ∈ nb i ↔ c i j ≠ 0)
/-- rooms at r; what is brought is at bd -/
def RmI (K : PySem.W.Frag) (H : Hp) (r : Addr) (n : Nat) (c : Nat → Nat → Nat) (nb : Nat → List Nat) (bd : Addr) : Prop := ∃ dx wd cl kw, H r = some (.ins (He.ga K "Rooms") dx (rf n (.ref wd) (.ref bd) (.ref cl))) ∧ H wd = some (.dT kw) ∧ wd ≠ bd ∧ WD kw c ∧ CloseI H cl n nb ∧ Caps n c nb
def BrI (H : Hp) (bd : Addr) (n : Nat) (g : Nat → Nat → Int) : Prop := ∃ kb, H bd = some (.dT kb) ∧ BD kb n g
theorem _root_.L2.Same.close {H H' : Hp} {cl : Addr} {n : Nat} {nb : Nat → List Nat} (s : Same H H') (h : CloseI H cl n nb) : CloseI H' cl n nb := by
  obtain ⟨ls, h1, h2, h3⟩ := h
  exact ⟨ls, s _ _ h1, h2, fun i hi => (h3 i hi).imp fun l q => ⟨q.1, s _ _ q.2⟩⟩
theorem _root_.L2.Same.rm {K : PySem.W.Frag} {H H' : Hp} {r : Addr} {n : Nat} {c : Nat → Nat → Nat} {nb : Nat → List Nat} {bd : Addr} (s : Same H H') (h : RmI K H r n c nb bd) : RmI K H' r n c nb bd := by
  obtain ⟨dx, wd, cl, kw, h1, h2, h3, h4, h5, h6⟩ := h
  exact ⟨dx, wd, cl, kw, s _ _ h1, s _ _ h2, h3, h4, s.close h5, h6⟩
theorem _root_.L2.Same.br {H H' : Hp} {bd : Addr} {n : Nat} {g : Nat → Nat → Int} (s : Same H H') (h : BrI H bd n g) : BrI H' bd n g := by
  obtain ⟨kb, h1, h2⟩ := h
  exact ⟨kb, s _ _ h1, h2⟩
/-- what is brought changes; the rest of the rooms stays -/
theorem But.rm {K : PySem.W.Frag} {H H' : Hp} {r : Addr} {n : Nat} {c : Nat → Nat → Nat} {nb : Nat → List Nat} {bd : Addr} {g : Nat → Nat → Int} (s : But bd H H') (b : BrI H bd n g) (h : RmI K H r n c nb bd) : RmI K H' r n c nb bd := by
  obtain ⟨dx, wd, cl, kw, h1, h2, h3, h4, ⟨ls, h5, h6, h7⟩, h8⟩ := h
  obtain ⟨kb, hb, _⟩ := b
  refine ⟨dx, wd, cl, kw, s _ _ (ne_of h1 hb (by intro z; cases z)) h1, s _ _ h3 h2, h3, h4, ⟨ls, s _ _ (ne_of h5 hb (by intro z; cases z)) h5, h6, fun i hi => ?_⟩, h8⟩
  obtain ⟨l, q1, q2⟩ := h7 i hi
  exact ⟨l, q1, s _ _ (ne_of q2 hb (by intro z; cases z)) q2⟩
def sp_Rooms_parts (K : PySem.W.Frag) (a b : V) (H : Hp) (Q : VK) : Prop := ∃ p, Amt K H b p ∧ Q (.int (p : Nat)) H
theorem pure_Rooms_parts {K : PySem.W.Frag} : ∀ vs H Q, u2 (sp_Rooms_parts K) vs H Q → t_Rooms_parts K { nx := fun _ H' => Q .non H', rt := Q } (L2.start ["self", "amount"] vs) H := by
  rintro _ H Q ⟨_, _, rfl, p, ⟨a, rfl, ha⟩, hQ⟩
  unfold t_Rooms_parts
  walk_at "st"
  walk_at "gs"
  · exact divW (lowB_pos p) (lowB_le p) (by decide)
  have e0 : (55440 : Int) / ((lowB p : Nat) : Int) = ((55440 / lowB p : Nat) : Int) := by
    rw [show (55440 : Int) = ((55440 : Nat) : Int) from rfl, ← Int.natCast_ediv]
  rw [e0]
  have l0 : 55440 / lowB p ≤ 55440 := Nat.div_le_self _ _
  have lp := low_parts p
  generalize 55440 / lowB p = z at *
  refine go_I (Or.inr (by constructor <;> omega)) ?_
  have e : ((lowA p : Nat) : Int) * (z : Int) = ((p : Nat) : Int) := by
    rw [← Int.natCast_mul, lp]
  rw [e]
  exact hQ
def sp_Rooms_spare (K : PySem.W.Frag) (a b c : V) (H : Hp) (Q : VK) : Prop := ∃ (r : Addr) (n : Nat) (cp : Nat → Nat → Nat) (nb : Nat → List Nat) (bd : Addr) (g : Nat → Nat → Int) (i j : Nat), a = .ref r ∧ RmI K H r n cp nb bd ∧ BrI H bd n g ∧ b = .int i ∧ c = .int j ∧ ∀ H1, Same H H1 → Q (.int ((cp i j : Nat) - g i j)) H1
theorem pure_Rooms_spare {K : PySem.W.Frag} {mg : Str → Option Value} (E : En K mg) : ∀ vs H Q, u3 (sp_Rooms_spare K) vs H Q → t_Rooms_spare K { nx := fun _ H' => Q .non H', rt := Q } (L2.start ["self", "i", "j"] vs) H := by
  rintro _ H Q ⟨_, _, _, rfl, r, n, cp, nb, bd, g, i, j, rfl, ⟨dx, wd, cl, kw, h1, h2, h3, h4, h5, h6⟩, ⟨kb, hb, B⟩, rfl, rfl, hQ⟩
  unfold t_Rooms_spare
  walk_at "st"
  walk_at "gs"
  refine fR_weights E h1 ?_
  refine ⟨wd, rfl, .inr ⟨kw, Rd.of h2⟩, ?_⟩
  walk_at "gs"
  intro p np
  have s1 : Same H (upd H p (.tup [.int i, .int j])) := sameNew np
  walk_at "gs"
  refine ⟨_, DGet.pk (i := i) (j := j) (Rd.of (s1 _ _ h2)) upd_same, ?_⟩
  rw [h4.get]
  walk_at "gs"
  refine fR_brought E (s1 _ _ h1) ?_
  refine ⟨bd, rfl, .inr ⟨kb, Rd.of (s1 _ _ hb)⟩, ?_⟩
  walk_at "gs"
  intro p2 np2
  have s2 := s1.trans (sameNew (o := .tup [.int i, .int j]) np2)
  walk_at "gs"
  refine ⟨_, DGet.pk (i := i) (j := j) (Rd.of (s2 _ _ hb)) upd_same, ?_⟩
  rw [B.val]
  walk_at "gs"
  refine fR_brought E (s2 _ _ h1) ?_
  refine ⟨bd, rfl, .inr ⟨kb, Rd.of (s2 _ _ hb)⟩, ?_⟩
  walk_at "gs"
  intro p3 np3
  have s3 := s2.trans (sameNew (o := .tup [.int j, .int i]) np3)
  walk_at "gs"
  refine ⟨_, DGet.pk (i := j) (j := i) (Rd.of (s3 _ _ hb)) upd_same, ?_⟩
  rw [B.val]
  walk_at "gs"
  have e : ((cp i j : Nat) : Int) - max 0 (g i j) + max 0 (g j i) = (cp i j : Nat) - g i j := by
    rw [B.anti i j]
    omega
  rw [e]
  exact hQ _ s3
def putG (g : Nat → Nat → Int) (i j : Nat) (x : Int) : Nat → Nat → Int := fun a b => if a = i ∧ b = j then g i j + x else if a = j ∧ b = i then g j i - x else g a b
theorem max_if (x : Int) : (if x > 0 then x else 0) = max 0 x := by
  split <;> omega
theorem putK_key {κ : Type} [DecidableEq κ] {kvs : List (κ × V)} {k : κ} {v : V} {x : κ × V} (h : x ∈ putK kvs k v) : x.1 = k ∨ ∃ y ∈ kvs, y.1 = x.1 := by
  have hv : valV kvs k = none ∨ ∃ w, valV kvs k = some w := by
    cases valV kvs k with
    | none => exact .inl rfl
    | some w => exact .inr ⟨w, rfl⟩
  rcases hv with e | ⟨w, e⟩
  · rw [putK_new _ e] at h
    rcases List.mem_append.mp h with h | h
    · exact .inr ⟨x, h, rfl⟩
    · rw [List.mem_singleton] at h
      exact .inl (by rw [h])
  · by_cases z : x.1 = k
    · exact .inl z
    · refine .inr ?_
      unfold putK at h
      have q : (kvs.any fun kv => decide (kv.1 = k)) = true := by
        rw [valV_any, e]
        rfl
      rw [if_pos q] at h
      obtain ⟨y, hy, rfl⟩ := List.mem_map.mp h
      refine ⟨y, hy, ?_⟩
      split <;> rfl
theorem putK_nd {κ : Type} [DecidableEq κ] {kvs : List (κ × V)} {k : κ} {v : V} (h : (kvs.map (·.1)).Nodup) : ((putK kvs k v).map (·.1)).Nodup := by
  cases e : valV kvs k with
  | none => exact nd_putK v h e
  | some w =>
    unfold putK
    have q : (kvs.any fun kv => decide (kv.1 = k)) = true := by
      rw [valV_any, e]
      rfl
    rw [if_pos q, List.map_map]
    have : ((fun x : κ × V => x.1) ∘ fun kv : κ × V => if kv.1 = k then (kv.1, v) else kv) = fun x => x.1 := by
      funext x
      show (if x.1 = k then (x.1, v) else x).1 = x.1
      split <;> rfl
    rw [this]
    exact h
theorem BD.put {kb : List (List Key × V)} {n : Nat} {g : Nat → Nat → Int} {i j : Nat} {x : Int} (h : BD kb n g) (hi : i < n) (hj : j < n) (ne : i ≠ j) :
    BD (putK (putK kb (pkN i j) (.int (max 0 (g i j + x)))) (pkN j i) (.int (max 0 (0 - (g i j + x))))) n (putG g i j x) := by
  refine ⟨fun a b => ?_, fun a b => ?_, fun kv hkv => ?_, putK_nd (putK_nd h.nd)⟩
  · rw [valV_put, valV_put]
    unfold putG
    by_cases e1 : a = i ∧ b = j
    · obtain ⟨rfl, rfl⟩ := e1
      rw [if_neg (fun z => ne (pkN_inj z).1), if_pos rfl, if_pos ⟨rfl, rfl⟩]
      rfl
    · by_cases e2 : a = j ∧ b = i
      · obtain ⟨rfl, rfl⟩ := e2
        rw [if_pos rfl, if_neg e1, if_pos ⟨rfl, rfl⟩]
        have : g a b = - g b a := h.anti b a
        rw [this]
        show V.int _ = V.int _
        congr 1
        omega
      · rw [if_neg (fun z => e2 (pkN_inj z)), if_neg (fun z => e1 (pkN_inj z)), if_neg e1, if_neg e2]
        exact h.val a b
  · unfold putG
    have q := h.anti a b
    have q2 := h.anti i j
    by_cases e1 : a = i ∧ b = j
    · obtain ⟨rfl, rfl⟩ := e1
      rw [if_neg (by omega), if_pos ⟨rfl, rfl⟩, if_pos ⟨rfl, rfl⟩]
      omega
    · by_cases e2 : a = j ∧ b = i
      · obtain ⟨rfl, rfl⟩ := e2
        rw [if_pos ⟨rfl, rfl⟩, if_neg (by omega), if_pos ⟨rfl, rfl⟩]
        omega
      · rw [if_neg (by omega), if_neg (by omega), if_neg e1, if_neg e2]
        exact q
  · rcases putK_key hkv with e | ⟨y, hy, e⟩
    · exact ⟨j, i, hj, hi, e⟩
    · rcases putK_key hy with e2 | ⟨z, hz, e2⟩
      · exact ⟨i, j, hi, hj, e ▸ e2⟩
      · obtain ⟨a, b, q1, q2, q3⟩ := h.key z hz
        exact ⟨a, b, q1, q2, by rw [← e, ← e2, q3]⟩
def sp_Rooms_put (K : PySem.W.Frag) (a b c d : V) (H : Hp) (Q : VK) : Prop := ∃ (r : Addr) (n : Nat) (cp : Nat → Nat → Nat) (nb : Nat → List Nat) (bd : Addr) (g : Nat → Nat → Int) (i j : Nat) (x : Int), a = .ref r ∧ RmI K H r n cp nb bd ∧ BrI H bd n g ∧ b = .int i ∧ c = .int j ∧ d = .int x ∧ i < n ∧ j < n ∧ i ≠ j ∧
  ∀ H1, But bd H H1 → BrI H1 bd n (putG g i j x) → Q .non H1
theorem pure_Rooms_put {K : PySem.W.Frag} {mg : Str → Option Value} (E : En K mg) : ∀ vs H Q, u4 (sp_Rooms_put K) vs H Q → t_Rooms_put K { nx := fun _ H' => Q .non H', rt := Q } (L2.start ["self", "i", "j", "number", "back"] vs) H := by
  rintro _ H Q ⟨_, _, _, _, rfl, r, n, cp, nb, bd, g, i, j, x, rfl, ⟨dx, wd, cl, kw, h1, h2, h3, h4, h5, h6⟩, ⟨kb, hb, B⟩, rfl, rfl, rfl, hi, hj, ne, hQ⟩
  have l1 := B.len2 h6.small
  have l2 := length_putK kb (pkN i j) (.int (max 0 (g i j + x)))
  unfold t_Rooms_put
  walk_at "st"
  walk_at "gs"
  refine fR_brought E h1 ?_
  refine ⟨bd, rfl, .inr ⟨kb, Rd.of hb⟩, ?_⟩
  walk_at "gs"
  intro p np
  have s1 : Same H (upd H p (.tup [.int j, .int i])) := sameNew np
  walk_at "gs"
  refine ⟨_, DGet.pk (i := j) (j := i) (Rd.of (s1 _ _ hb)) upd_same, ?_⟩
  rw [B.val]
  walk_at "gs"
  refine fR_brought E (s1 _ _ h1) ?_
  refine ⟨bd, rfl, .inr ⟨kb, Rd.of (s1 _ _ hb)⟩, ?_⟩
  walk_at "gs"
  intro p2 np2
  have s2 := s1.trans (sameNew (o := .tup [.int i, .int j]) np2)
  walk_at "gs"
  refine ⟨_, DGet.pk (i := i) (j := j) (Rd.of (s2 _ _ hb)) upd_same, ?_⟩
  rw [B.val]
  walk_at "gs"
  have e : max 0 (g i j) + x - max 0 (g j i) = g i j + x := by
    rw [B.anti i j]
    omega
  rw [e]
  refine fR_brought E (s2 _ _ h1) ?_
  walk_at "gs"
  intro p3 np3
  have s3 := s2.trans (sameNew (o := .tup [.int i, .int j]) np3)
  walk_at "gs"
  refine ⟨bd, _, rfl, DPut.pk (i := i) (j := j) (s3 _ _ hb) upd_same (by rw [sizeLine_eq]; omega), ?_⟩
  generalize hH3 : upd (upd (upd H p (.tup [.int j, .int i])) p2 (.tup [.int i, .int j])) p3 (.tup [.int i, .int j]) = H3 at *
  have hb3 := s3 _ _ hb
  have hr3 := s3 _ _ h1
  have b4 : But bd H3 (upd H3 bd (.dT (putK kb (pkN i j) (.int (max 0 (g i j + x)))))) := butUpd
  have hr4 := b4 _ _ (ne_of hr3 hb3 (by intro z; cases z)) hr3
  have hb4 : (upd H3 bd (.dT (putK kb (pkN i j) (.int (max 0 (g i j + x)))))) bd = some (.dT (putK kb (pkN i j) (.int (max 0 (g i j + x))))) := upd_same
  have bH := s3.but.trans b4
  generalize upd H3 bd (.dT (putK kb (pkN i j) (.int (max 0 (g i j + x))))) = H4 at *
  walk_at "gs"
  refine fR_brought E hr4 ?_
  walk_at "gs"
  intro p5 np5
  have s5 : Same H4 (upd H4 p5 (.tup [.int j, .int i])) := sameNew np5
  walk_at "gs"
  refine ⟨bd, _, rfl, DPut.pk (i := j) (j := i) (s5 _ _ hb4) upd_same (by rw [sizeLine_eq]; omega), ?_⟩
  exact hQ _ ((bH.trans s5.but).trans butUpd) ⟨_, upd_same, B.put hi hj ne⟩
theorem insRow {n j : Nat} {l : List Nat} {zs : List Int} (hl : Rising n l) (hj : j < n) (hn : j ∉ l) (hp : zs.Perm ((l.map fun x : Nat => (x : Int)) ++ [(j : Int)])) (hs : zs.Pairwise (· ≤ ·)) :
    ∃ m : List Nat, zs.map V.int = nv m ∧ Rising n m ∧ ∀ x, x ∈ m ↔ x ∈ l ∨ x = j := by
  have he : ((l.map fun x : Nat => (x : Int)) ++ [(j : Int)]) = (l ++ [j]).map fun x : Nat => (x : Int) := by rw [List.map_append]; rfl
  obtain ⟨m, hm, e⟩ := perm_map (f := fun x : Nat => (x : Int)) hp he
  have hnd : (l ++ [j]).Nodup := by
    rw [List.nodup_append]
    refine ⟨hl.1.imp fun h => Nat.ne_of_lt h, by simp, fun x hx y hy => ?_⟩
    rw [List.mem_singleton] at hy
    subst hy
    exact fun z => hn (z ▸ hx)
  have hmn : m.Nodup := hm.nodup_iff.mpr hnd
  have hle : m.Pairwise (· ≤ ·) := by
    rw [← e] at hs
    exact (List.pairwise_map.mp hs).imp fun h => by omega
  refine ⟨m, ?_, ⟨?_, fun x hx => ?_⟩, fun x => ?_⟩
  · rw [← e, List.map_map]
    rfl
  · exact (hle.and hmn).imp fun h => Nat.lt_of_le_of_ne h.1 h.2
  · rcases List.mem_append.mp (hm.mem_iff.mp hx) with h | h
    · exact hl.2 x h
    · rw [List.mem_singleton] at h
      omega
  · rw [hm.mem_iff, List.mem_append, List.mem_singleton]
def sp_Rooms_meet (K : PySem.W.Frag) (a b c : V) (H : Hp) (Q : VK) : Prop := ∃ (r dx : Addr) (n : Nat) (wd bd : V) (cl : Addr) (nb : Nat → List Nat) (i j : Nat), a = .ref r ∧ H r = some (.ins (He.ga K "Rooms") dx (rf n wd bd (.ref cl))) ∧ CloseI H cl n nb ∧ (∀ k, k < n → Rising n (nb k)) ∧ n ≤ 9 ∧
  b = .int i ∧ c = .int j ∧ i < n ∧ j < n ∧ i ≠ j ∧ j ∉ nb i ∧ i ∉ nb j ∧
  ∀ H1 nb', But cl H H1 → CloseI H1 cl n nb' → (∀ k, k < n → Rising n (nb' k)) → (∀ k x, x ∈ nb' k ↔ x ∈ nb k ∨ (k = i ∧ x = j) ∨ (k = j ∧ x = i)) → Q .non H1
theorem closeSet {H : Hp} {cl q : Addr} {n i : Nat} {nb : Nat → List Nat} {ls : List Addr} {m : List Nat} (h1 : H cl = some (.lst (ls.map V.ref))) (h2 : ls.length = n) (h3 : ∀ i, i < n → ∃ l, ls[i]? = some l ∧ H l = some (.lst (nv (nb i)))) (hi : i < n) (hq : H q = some (.lst (nv m))) (hc : ∀ (k : Nat) l, ls[k]? = some l → l ≠ cl) (nq : q ≠ cl) :
    (upd H cl (.lst ((ls.map V.ref).set i (.ref q)))) cl = some (.lst ((ls.set i q).map V.ref)) ∧ (ls.set i q).length = n ∧ ∀ k, k < n → ∃ l, (ls.set i q)[k]? = some l ∧ (upd H cl (.lst ((ls.map V.ref).set i (.ref q)))) l = some (.lst (nv (if k = i then m else nb k))) := by
  refine ⟨by rw [upd_same, List.map_set], by rw [List.length_set]; exact h2, fun k hk => ?_⟩
  by_cases e : k = i
  · subst e
    rw [if_pos rfl]
    exact ⟨q, by rw [List.getElem?_set_self (by omega)], by rw [upd_ne nq]; exact hq⟩
  · rw [if_neg e]
    obtain ⟨l, q1, q2⟩ := h3 k hk
    exact ⟨l, by rw [List.getElem?_set_ne (fun z => e z.symm)]; exact q1, by rw [upd_ne (hc k l q1)]; exact q2⟩
theorem pure_Rooms_meet {K : PySem.W.Frag} {mg : Str → Option Value} (E : En K mg) : ∀ vs H Q, u3 (sp_Rooms_meet K) vs H Q → t_Rooms_meet K { nx := fun _ H' => Q .non H', rt := Q } (L2.start ["self", "i", "j"] vs) H := by
  rintro _ H Q ⟨_, _, _, rfl, r, dx, n, wd, bd, cl, nb, i, j, rfl, h1, ⟨ls, h2, h3, h4⟩, up, hn, rfl, rfl, hi, hj, ne, nj, ni, hQ⟩
  obtain ⟨li, ei, hli⟩ := h4 i hi
  obtain ⟨lj, ej, hlj⟩ := h4 j hj
  have gi : (ls.map V.ref)[i]? = some (.ref li) := by rw [List.getElem?_map, ei]; rfl
  have gj : (ls.map V.ref)[j]? = some (.ref lj) := by rw [List.getElem?_map, ej]; rfl
  have hc : ∀ (k : Nat) l, ls[k]? = some l → l ≠ cl := fun k l hl => by
    have hk : k < n := by
      have := (List.getElem?_eq_some_iff.mp hl).1
      omega
    obtain ⟨l2, q1, q2⟩ := h4 k hk
    rw [hl] at q1
    cases q1
    intro z
    subst z
    rw [h2] at q2
    have := congrArg (fun o : Option HO => match o with | some (.lst xs) => xs | _ => []) q2
    simp only at this
    unfold nv at this
    cases hls : ls with
    | nil => rw [hls] at h3; simp at h3; omega
    | cons y ys =>
      rw [hls, List.map_cons] at this
      cases hm : nb k with
      | nil => rw [hm] at this; cases this
      | cons z zs => rw [hm, List.map_cons] at this; cases this
  unfold t_Rooms_meet
  walk_at "st"
  walk_at "gs"
  refine fR_close E h1 ?_
  walk_at "gs"
  refine go_ixL (SqL.of h2) (atI_nat gi) ?_
  refine go_notin (.inl (SqL.of hli)) ?_
  rw [decide_eq_false nj]
  walk_at "gs"
  refine fR_close E h1 ?_
  walk_at "gs"
  refine go_ixL (SqL.of h2) (atI_nat gi) ?_
  walk_at "gs"
  intro p np
  have s1 : Same H (upd H p (.lst [.int j])) := sameNew np
  have ru := rising_len (up i hi)
  have ru2 := rising_len (up j hj)
  refine ⟨li, p, nv (nb i), [.int j], rfl, rfl, s1 _ _ hli, upd_same, by rw [nv_len, sizeLine_eq]; simp; omega, fun p2 np2 => ?_⟩
  have s2 := s1.trans (sameNew (o := .lst (nv (nb i) ++ [.int j])) np2)
  refine ⟨p2, ((nb i).map fun x : Nat => (x : Int)) ++ [(j : Int)], rfl, SqL.of (by rw [upd_same, List.map_append, List.map_map]; rfl), fun zs p3 pm srt np3 => ?_⟩
  have s3 := s2.trans (sameNew (o := .lst (zs.map V.int)) np3)
  obtain ⟨m, em, rm, mm⟩ := insRow (up i hi) hj nj pm srt
  have n3 : p3 ≠ cl := ne_of_none (s2 _ _ h2) np3 |>.symm
  walk_at "gs"
  refine fR_close E (s3 _ _ h1) ?_
  walk_at "gs"
  refine go_setL (s3 _ _ h2) (ixN_nat (by rw [List.length_map]; omega)) ?_
  have hq : (upd (upd (upd H p (.lst [.int j])) p2 (.lst (nv (nb i) ++ [.int j]))) p3 (.lst (zs.map V.int))) p3 = some (.lst (nv m)) := by rw [upd_same, em]
  generalize upd (upd (upd H p (.lst [.int j])) p2 (.lst (nv (nb i) ++ [.int j]))) p3 (.lst (zs.map V.int)) = H3 at *
  obtain ⟨k1, k2, k3⟩ := closeSet (i := i) (q := p3) (m := m) (s3 _ _ h2) h3 (fun k hk => (h4 k hk).imp fun l q => ⟨q.1, s3 _ _ q.2⟩) hi hq hc n3
  have b4 : But cl H3 (upd H3 cl (.lst ((ls.map V.ref).set i (.ref p3)))) := butUpd
  have hr4 := b4 _ _ (ne_of (s3 _ _ h1) (s3 _ _ h2) (by intro z; cases z)) (s3 _ _ h1)
  have bH := s3.but.trans b4
  have hc2 : ∀ (k : Nat) l, (ls.set i p3)[k]? = some l → l ≠ cl := fun k l hl => by
    rcases List.mem_or_eq_of_mem_set (List.mem_of_getElem? hl) with q | q
    · obtain ⟨k2, hk2⟩ := List.getElem?_of_mem q
      exact hc k2 l hk2
    · rw [q]; exact n3
  generalize upd H3 cl (.lst ((ls.map V.ref).set i (.ref p3))) = H4 at *
  obtain ⟨lj', ej', hlj'⟩ := k3 j hj
  rw [if_neg ne.symm] at hlj'
  have gj' : ((ls.set i p3).map V.ref)[j]? = some (.ref lj') := by rw [List.getElem?_map, ej']; rfl
  walk_at "gs"
  refine fR_close E hr4 ?_
  walk_at "gs"
  refine go_ixL (SqL.of k1) (atI_nat gj') ?_
  walk_at "gs"
  intro p5 np5
  have s5 : Same H4 (upd H4 p5 (.lst [.int i])) := sameNew np5
  refine ⟨lj', p5, nv (nb j), [.int i], rfl, rfl, s5 _ _ hlj', upd_same, by rw [nv_len, sizeLine_eq]; simp; omega, fun p6 np6 => ?_⟩
  have s6 := s5.trans (sameNew (o := .lst (nv (nb j) ++ [.int i])) np6)
  refine ⟨p6, ((nb j).map fun x : Nat => (x : Int)) ++ [(i : Int)], rfl, SqL.of (by rw [upd_same, List.map_append, List.map_map]; rfl), fun zs2 p7 pm2 srt2 np7 => ?_⟩
  have s7 := s6.trans (sameNew (o := .lst (zs2.map V.int)) np7)
  obtain ⟨m2, em2, rm2, mm2⟩ := insRow (up j hj) hi ni pm2 srt2
  have n7 : p7 ≠ cl := ne_of_none (s6 _ _ k1) np7 |>.symm
  walk_at "gs"
  refine fR_close E (s7 _ _ hr4) ?_
  walk_at "gs"
  refine go_setL (s7 _ _ k1) (ixN_nat (by rw [List.length_map]; omega)) ?_
  have hq2 : (upd (upd (upd H4 p5 (.lst [.int i])) p6 (.lst (nv (nb j) ++ [.int i]))) p7 (.lst (zs2.map V.int))) p7 = some (.lst (nv m2)) := by rw [upd_same, em2]
  generalize upd (upd (upd H4 p5 (.lst [.int i])) p6 (.lst (nv (nb j) ++ [.int i]))) p7 (.lst (zs2.map V.int)) = H7 at *
  obtain ⟨w1, w2, w3⟩ := closeSet (i := j) (q := p7) (m := m2) (nb := fun k => if k = i then m else nb k) (s7 _ _ k1) k2 (fun k hk => (k3 k hk).imp fun l q => ⟨q.1, s7 _ _ q.2⟩) hj hq2 hc2 n7
  refine hQ _ (fun k => if k = j then m2 else if k = i then m else nb k) ((bH.trans s7.but).trans butUpd) ⟨_, w1, w2, w3⟩ (fun k hk => ?_) fun k x => ?_
  · show Rising n (if k = j then m2 else if k = i then m else nb k)
    split
    · exact rm2
    · split
      · exact rm
      · exact up k hk
  · show x ∈ (if k = j then m2 else if k = i then m else nb k) ↔ _
    by_cases e1 : k = j
    · subst e1
      rw [if_pos rfl, mm2]
      constructor
      · rintro (h | h)
        · exact .inl h
        · exact .inr (.inr ⟨rfl, h⟩)
      · rintro (h | ⟨h, _⟩ | ⟨_, h⟩)
        · exact .inl h
        · exact absurd h.symm ne
        · exact .inr h
    · by_cases e2 : k = i
      · subst e2
        rw [if_neg e1, if_pos rfl, mm]
        constructor
        · rintro (h | h)
          · exact .inl h
          · exact .inr (.inl ⟨rfl, h⟩)
        · rintro (h | ⟨_, h⟩ | ⟨h, _⟩)
          · exact .inl h
          · exact .inr h
          · exact absurd h ne
      · rw [if_neg e1, if_neg e2]
        constructor
        · exact .inl
        · rintro (h | ⟨h, _⟩ | ⟨h, _⟩)
          · exact h
          · exact absurd h e2
          · exact absurd h e1
/-- put at each step of a way, k steps -/
def carryK (g : Nat → Nat → Int) (w : Nat → Nat) (x : Int) : Nat → Nat → Nat → Int
  | 0 => g
  | k + 1 => putG (carryK g w x k) (w k) (w (k + 1)) x
def atN (way : List Nat) (k : Nat) : Nat := way.getD k 0
theorem atN_get {way : List Nat} {k : Nat} (h : k < way.length) : (nv way)[k]? = some (.int (atN way k : Nat)) := by
  refine nv_at ?_
  unfold atN
  rw [List.getD_eq_getElem?_getD, List.getElem?_eq_getElem h]
  rfl
theorem atN_mem {way : List Nat} {k : Nat} (h : k < way.length) : atN way k ∈ way := by
  unfold atN
  rw [List.getD_eq_getElem?_getD, List.getElem?_eq_getElem h]
  exact List.getElem_mem h
/-- a way: places of a web, each next one another one -/
def WayIn (n : Nat) (way : List Nat) : Prop := (∀ x ∈ way, x < n) ∧ ∀ k, k + 1 < way.length → atN way k ≠ atN way (k + 1)
def sp_Rooms_carry (K : PySem.W.Frag) (a b c : V) (H : Hp) (Q : VK) : Prop := ∃ (r : Addr) (n : Nat) (cp : Nat → Nat → Nat) (nb : Nat → List Nat) (bd : Addr) (g : Nat → Nat → Int) (l : Addr) (way : List Nat) (x : Int), a = .ref r ∧ RmI K H r n cp nb bd ∧ BrI H bd n g ∧ b = .ref l ∧ SqT K H l (nv way) ∧ 2 ≤ way.length ∧ way.length ≤ 1000 ∧ WayIn n way ∧ c = .int x ∧
  ∀ H1, But bd H H1 → BrI H1 bd n (carryK g (atN way) x (way.length - 1)) → Q .non H1
theorem rm_ins {K : PySem.W.Frag} {H : Hp} {r : Addr} {n : Nat} {c : Nat → Nat → Nat} {nb : Nat → List Nat} {bd : Addr} (h : RmI K H r n c nb bd) {m : Str} {R : Prop} (hm : ∀ wd bd cl, (rf n wd bd cl).lookup m = none) (q : R) : ∃ a dx fs, V.ref r = .ref a ∧ H a = some (.ins (He.ga K "Rooms") dx fs) ∧ fs.lookup m = none ∧ R := by
  obtain ⟨dx, wd, cl, kw, h1, _⟩ := h
  exact ⟨r, dx, _, rfl, h1, hm _ _ _, q⟩
theorem But.sqT {K : PySem.W.Frag} {H H' : Hp} {bd a : Addr} {n : Nat} {g : Nat → Nat → Int} {xs : List V} (s : But bd H H') (b : BrI H bd n g) (h : SqT K H a xs) : SqT K H' a xs := by
  obtain ⟨kb, hb, _⟩ := b
  exact s.tupM (by rw [hb]; trivial) h
theorem pure_Rooms_carry {K : PySem.W.Frag} : ∀ vs H Q, u3 (sp_Rooms_carry K) vs H Q → t_Rooms_carry K (u4 (sp_Rooms_put K)) { nx := fun _ H' => Q .non H', rt := Q } (L2.start ["self", "way", "number", "at"] vs) H := by
  rintro _ H Q ⟨_, _, _, rfl, r, n, cp, nb, bd, g, l, way, x, rfl, hr, hb, rfl, hl, l2, l3, hw, rfl, hQ⟩
  unfold t_Rooms_carry
  walk_at "st"
  walk_at "gs"
  rw [nv_len]
  have e0 : ((way.length : Int) - 1).toNat = way.length - 1 := by omega
  refine ⟨1, way.length, rfl, by constructor <;> omega, ?_⟩
  rw [e0]
  refine for_range (fun i σ H' => But bd H H' ∧ BrI H' bd n (carryK g (atN way) x i) ∧ ∃ y, σ = [some (.ref r), some (.ref l), some (.int x), y]) ⟨fun _ _ _ h => h, hb, none, rfl⟩ ?_ ?_
  · rintro i σ H' hi ⟨bu, hb', y, rfl⟩
    have hr' := bu.rm hb hr
    have hl' := bu.sqT hb hl
    have e1 : (1 : Int) + (i : Int) - 1 = (i : Int) := by omega
    have e2 : (1 : Int) + (i : Int) = ((i + 1 : Nat) : Int) := by omega
    walk_at "gs"
    refine rm_ins hr' (fun _ _ _ => rfl) ?_
    walk_at "gs"
    rw [e1]
    refine go_ixT hl' (atI_nat (atN_get (by omega))) ?_
    walk_at "gs"
    rw [e2]
    refine go_ixT hl' (atI_nat (atN_get (by omega))) ?_
    walk_at "gs"
    refine ⟨r, n, cp, nb, bd, carryK g (atN way) x i, atN way i, atN way (i + 1), x, rfl, hr', hb', rfl, rfl, rfl, hw.1 _ (atN_mem (by omega)), hw.1 _ (atN_mem (by omega)), hw.2 i (by omega), fun H1 b1 h1 => ?_⟩
    exact ⟨bu.trans b1, h1, _, rfl⟩
  · rintro σ H' ⟨bu, hb', y, rfl⟩
    exact hQ H' bu hb'
def sp_Rooms_least_room (K : PySem.W.Frag) (a b : V) (H : Hp) (Q : VK) : Prop := ∃ (r : Addr) (n : Nat) (cp : Nat → Nat → Nat) (nb : Nat → List Nat) (bd : Addr) (g : Nat → Nat → Int) (l : Addr) (way : List Nat), a = .ref r ∧ RmI K H r n cp nb bd ∧ BrI H bd n g ∧ b = .ref l ∧ SqT K H l (nv way) ∧ 2 ≤ way.length ∧ way.length ≤ 1000 ∧
  ∀ m H1, Same H H1 → (∀ k, k + 1 < way.length → m ≤ (cp (atN way k) (atN way (k + 1)) : Nat) - g (atN way k) (atN way (k + 1))) → (∃ k, k + 1 < way.length ∧ m = (cp (atN way k) (atN way (k + 1)) : Nat) - g (atN way k) (atN way (k + 1))) → Q (.int m) H1
theorem pairIntF {f : Nat → Int} : ∀ {ys : List V} {ks : List Nat}, Paired (fun y k => y = V.int (f k)) ys ks → ys = (ks.map f).map V.int
  | _, _, .nil => rfl
  | _, _, .cons h t => by rw [h, pairIntF t]; rfl
theorem pure_Rooms_least_room {K : PySem.W.Frag} : ∀ vs H Q, u2 (sp_Rooms_least_room K) vs H Q → t_Rooms_least_room K (u3 (sp_Rooms_spare K)) { nx := fun _ H' => Q .non H', rt := Q } (L2.start ["self", "way", "at"] vs) H := by
  rintro _ H Q ⟨_, _, rfl, r, n, cp, nb, bd, g, l, way, rfl, hr, hb, rfl, hl, l2, l3, hQ⟩
  unfold t_Rooms_least_room
  walk_at "st"
  walk_at "gs"
  rw [nv_len]
  have e0 : ((way.length : Int) - 1).toNat = way.length - 1 := by omega
  refine ⟨1, way.length, rfl, by constructor <;> omega, ?_⟩
  rw [e0]
  refine lcR (fun _ => true) (fun _ i H y => y = V.int ((cp (atN way i) (atN way (i + 1)) : Nat) - g (atN way i) (atN way (i + 1)))) (by omega) (fun _ _ _ _ _ _ _ h => h) ?_ ?_
  · intro D i H2 N N' hi hD s2 mu q1 q2
    have hr' := s2.rm hr
    have hl' := s2.seqT hl
    have e1 : (1 : Int) + (i : Int) - 1 = (i : Int) := by omega
    have e2 : (1 : Int) + (i : Int) = ((i + 1 : Nat) : Int) := by omega
    walk_at "gs"
    refine ⟨rfl, ?_⟩
    walk_at "gs"
    refine rm_ins hr' (fun _ _ _ => rfl) ?_
    walk_at "gs"
    rw [e1]
    refine go_ixT hl' (atI_nat (atN_get (by omega))) ?_
    walk_at "gs"
    rw [e2]
    refine go_ixT hl' (atI_nat (atN_get (by omega))) ?_
    walk_at "gs"
    exact ⟨r, n, cp, nb, bd, g, atN way i, atN way (i + 1), rfl, hr', s2.br hb, rfl, rfl, fun H1 s1 => q1 rfl _ H1 s1 rfl⟩
  · intro D H2 ys hD s2 hy pr
    have e := pairIntF pr
    walk_at "gs"
    rw [kept_all fun _ _ => rfl] at e
    subst e
    refine ⟨D, _, rfl, SqL.of hy, by simp; omega, fun m hm hle => ?_⟩
    obtain ⟨k, hk, rfl⟩ := List.mem_map.mp hm
    rw [List.mem_range] at hk
    exact hQ _ H2 s2 (fun j hj => hle _ (List.mem_map.mpr ⟨j, List.mem_range.mpr (by omega), rfl⟩)) ⟨k, by omega, rfl⟩
/-- a flow's rows, of g -/
structure FlowOf (n : Nat) (g : Nat → Nat → Int) (fl : List Tie) : Prop where
  up : Sorted fl
  row : ∀ e ∈ fl, e.1 < n ∧ e.2.1 < n ∧ 0 < g e.1 e.2.1 ∧ (e.2.2 : Int) = g e.1 e.2.1
  all : ∀ i j, 0 < g i j → ∃ p : Nat, (i, j, p) ∈ fl ∧ (p : Int) = g i j
  len : fl.length ≤ 81
def sp_Rooms_flow (K : PySem.W.Frag) (a : V) (H : Hp) (Q : VK) : Prop := ∃ (r : Addr) (n : Nat) (cp : Nat → Nat → Nat) (nb : Nat → List Nat) (bd : Addr) (g : Nat → Nat → Int), a = .ref r ∧ RmI K H r n cp nb bd ∧ BrI H bd n g ∧
  ∀ v fl H1, Same H H1 → FlowT K H1 v fl → FlowOf n g fl → Q v H1
theorem pairPerm {α β : Type} {F : α → β → Prop} {l m : List α} (h : l.Perm m) : ∀ {es : List β}, Paired F m es → ∃ es2 : List β, es2.Perm es ∧ Paired F l es2 := by
  induction h with
  | nil => intro es e; exact ⟨es, List.Perm.refl _, e⟩
  | cons a _ ih =>
    intro es e
    cases e with
    | cons r t =>
      obtain ⟨e2, h1, h2⟩ := ih t
      exact ⟨_, List.Perm.cons _ h1, .cons r h2⟩
  | swap a b r =>
    intro es e
    cases e with
    | cons r1 t =>
      cases t with
      | cons r2 t => exact ⟨_, List.Perm.swap _ _ _, .cons r2 (.cons r1 t)⟩
  | trans _ _ ih1 ih2 =>
    intro es e
    obtain ⟨es2, h1, h2⟩ := ih2 e
    obtain ⟨es3, h3, h4⟩ := ih1 h2
    exact ⟨es3, h3.trans h1, h4⟩
theorem pairFun {α β γ : Type} {F : α → β → Prop} {f : α → γ} {g : β → γ} (h : ∀ x y, F x y → f x = g y) : ∀ {xs : List α} {ys : List β}, Paired F xs ys → xs.map f = ys.map g
  | _, _, .nil => rfl
  | _, _, .cons r t => by rw [List.map_cons, List.map_cons, h _ _ r, pairFun h t]
theorem keys_of {kb : List (List Key × V)} {n : Nat} (h : ∀ kv ∈ kb, ∃ i j, i < n ∧ j < n ∧ kv.1 = pkN i j) : ∃ ks : List (Nat × Nat), kb.map (·.1) = ks.map (fun k => pkN k.1 k.2) ∧ ∀ k ∈ ks, k.1 < n ∧ k.2 < n := by
  induction kb with
  | nil => exact ⟨[], rfl, fun _ h => by cases h⟩
  | cons a r ih =>
    obtain ⟨ks, h1, h2⟩ := ih fun kv hk => h kv (List.mem_cons_of_mem _ hk)
    obtain ⟨i, j, q1, q2, q3⟩ := h a List.mem_cons_self
    refine ⟨(i, j) :: ks, by rw [List.map_cons, List.map_cons, h1, q3], fun k hk => ?_⟩
    rcases List.mem_cons.mp hk with e | hk
    · rw [e]; exact ⟨q1, q2⟩
    · exact h2 k hk
theorem lockSame {H H2 : Hp} {d : Addr} {u : HO} {od : Obj} (h : H d = some u) (s : Same (upd H d (.frz od u)) H2) : Same H (upd H2 d u) := fun b o e => by
  by_cases q : b = d
  · subst q
    rw [h] at e
    cases e
    exact upd_same
  · rw [upd_ne q]
    exact s _ _ (by rw [upd_ne q]; exact e)
def Pq (H : Hp) (y : V) (k : Nat × Nat) : Prop := ∃ q, y = .ref q ∧ H q = some (.tup [.int k.1, .int k.2])
def keyAt (H : Hp) : V → Int × Int
  | .ref t => match H t with
    | some (.tup [.int a, .int b]) => (a, b)
    | _ => (0, 0)
  | _ => (0, 0)
theorem keyAt_of {H : Hp} {y : V} {k : Nat × Nat} (h : Pq H y k) : keyAt H y = ((k.1 : Int), (k.2 : Int)) := by
  obtain ⟨q, rfl, hq⟩ := h
  simp only [keyAt, hq]
theorem pairMem {α β : Type} {F : α → β → Prop} {xs : List α} {ys : List β} (h : Paired F xs ys) {x : α} (hx : x ∈ xs) : ∃ y ∈ ys, F x y := by
  obtain ⟨i, hi⟩ := List.mem_iff_getElem?.mp hx
  obtain ⟨y, h1, h2⟩ := pairGet h hi
  exact ⟨y, List.mem_of_getElem? h1, h2⟩
theorem nodup_of_map {α β : Type} {f : α → β} {l : List α} (h : (l.map f).Nodup) : l.Nodup := (List.pairwise_map.mp h).imp fun q z => q (congrArg f z)
theorem sortedK {H : Hp} {ys : List V} {ks : List (Nat × Nat)} (pr : Paired (Pq H) ys ks) (hs : SrtO.Srtd (ltP (keyAt H)) ys) (nd : ks.Nodup) : ks.Pairwise fun x y => x.1 < y.1 ∨ (x.1 = y.1 ∧ x.2 < y.2) := by
  have e : ys.map (keyAt H) = ks.map fun k => ((k.1 : Int), (k.2 : Int)) := pairFun (fun _ _ r => keyAt_of r) pr
  have h1 : (ys.map (keyAt H)).Pairwise (fun x y => SrtO.lexB y x = false) := List.pairwise_map.mpr hs
  rw [e] at h1
  refine ((List.pairwise_map.mp h1).and nd).imp ?_
  rintro x y ⟨q, ne⟩
  have := SrtO.lexB_no.mp q
  have ne2 : ¬ (x.1 = y.1 ∧ x.2 = y.2) := fun z => ne (Prod.ext z.1 z.2)
  simp only at this
  omega
theorem pure_Rooms_flow {K : PySem.W.Frag} {mg : Str → Option Value} (E : En K mg) : ∀ vs H Q, u1 (sp_Rooms_flow K) vs H Q → t_Rooms_flow K (u1 (sp_lowest K)) { nx := fun _ H' => Q .non H', rt := Q } (L2.start ["self", "rows", "pair", "i", "j"] vs) H := by
  rintro _ H Q ⟨_, rfl, r, n, cp, nb, bd, g, rfl, ⟨dx, wd, cl, kw, h1, h2, h3, h4, h5, h6⟩, ⟨kb, hb, B⟩, hQ⟩
  obtain ⟨ks, ek, hk⟩ := keys_of B.key
  have l1 := B.len2 h6.small
  have lk : ks.length = kb.length := by
    have := congrArg List.length ek
    rw [List.length_map, List.length_map] at this
    exact this.symm
  have ndk : ks.Nodup := nodup_of_map (f := fun k => pkN k.1 k.2) (ek ▸ B.nd)
  have vk : ∀ k ∈ ks, valV kb (pkN k.1 k.2) = some (.int (max 0 (g k.1 k.2))) := fun k hk => by
    have q := B.val k.1 k.2
    cases e : valV kb (pkN k.1 k.2) with
    | some v => rw [e] at q; exact congrArg some q
    | none =>
      refine absurd ?_ (valV_not e)
      rw [ek]
      exact List.mem_map.mpr ⟨k, hk, rfl⟩
  have ak : ∀ i j, 0 < g i j → (i, j) ∈ ks := fun i j hp => by
    have q := B.val i j
    cases e : valV kb (pkN i j) with
    | some v =>
      have := valV_in e
      rw [ek] at this
      obtain ⟨k, hk, e2⟩ := List.mem_map.mp this
      obtain ⟨e3, e4⟩ := pkN_inj e2
      have : k = (i, j) := Prod.ext e3 e4
      rw [← this]
      exact hk
    | none =>
      rw [e] at q
      have := V.int.inj (show V.int 0 = V.int (max 0 (g i j)) from q)
      omega
  unfold t_Rooms_flow
  walk_at "st"
  walk_at "gs"
  refine ⟨bd, .dT kb, hb, trivial, fun od => ?_⟩
  have hrf : (upd H bd (.frz od (.dT kb))) r = some (.ins (He.ga K "Rooms") dx (rf n (.ref wd) (.ref bd) (.ref cl))) := by
    rw [upd_ne (ne_of h1 hb (by intro z; cases z))]
    exact h1
  have hbf : (upd H bd (.frz od (.dT kb))) bd = some (.frz od (.dT kb)) := upd_same
  walk_at "gs"
  walk_at "gs"
  refine fR_brought E hrf ?_
  refine ⟨bd, od, rfl, .inr ⟨kb, hbf, ?_⟩⟩
  refine lcG walk_keysT (fOf ks fun k => decide (0 < g k.1 k.2)) (fun _ i H y => ∃ k, ks[i]? = some k ∧ Pq H y k) (by omega) ?_ (fun H2 s => s _ _ hbf) ?_ ?_
  · rintro D i H2 H3 v bu mu ⟨k, hk, q, rfl, hq⟩
    exact ⟨k, hk, q, rfl, bu.tupAt mu hq⟩
  · rintro D i x H2 H' N N' hi hD s mu ⟨rfl, ky, v, q, ei, rfl, hq⟩ q1 q2
    have ei2 : (ks.map fun k => pkN k.1 k.2)[i]? = some ky := by
      rw [← ek, List.getElem?_map, ei]
      rfl
    rw [List.getElem?_map] at ei2
    cases hks : ks[i]? with
    | none => rw [hks] at ei2; cases ei2
    | some k =>
      rw [hks] at ei2
      have e3 : pkN k.1 k.2 = ky := Option.some.inj ei2
      subst e3
      rw [fOf_at hks] at q1 q2
      have hq' : H' q = some (.tup [.int k.1, .int k.2]) := hq
      walk_at "gs"
      refine ⟨rfl, ?_⟩
      walk_at "gs"
      refine fR_brought E (s _ _ hrf) ?_
      walk_at "gs"
      refine ⟨bd, .int (max 0 (g k.1 k.2)), rfl, ?_, ?_⟩
      · have := DGet.pk (i := k.1) (j := k.2) (.inr ⟨od, s _ _ hbf⟩) hq'
        rw [vk k (List.mem_of_getElem? hks)] at this
        exact this
      walk_at "gs"
      by_cases hp : 0 < g k.1 k.2
      · rw [decide_eq_true hp] at q1 q2
        rw [decide_eq_true (show (0 : Int) < max 0 (g k.1 k.2) by omega)]
        walk_at "gs"
        exact q1 rfl _ H' (Same.refl _) ⟨k, hks, q, rfl, hq'⟩
      · rw [decide_eq_false hp] at q1 q2
        rw [decide_eq_false (show ¬ (0 : Int) < max 0 (g k.1 k.2) by omega)]
        walk_at "gs"
        exact q2 rfl H' (Same.refl _)
  · intro D H2 ys hD s2 hy pr
    rw [← lk] at pr
    have pr2 := paired_kept (S := fun y k => Pq H2 y k) (fun i k hk => fOf_at hk) pr
    walk_at "gs"
    refine ⟨s2 _ _ hbf, ?_⟩
    have s3 : Same H (upd H2 bd (.dT kb)) := lockSame hb s2
    have nD : D ≠ bd := ne_of_none hbf hD |>.symm
    have hy3 : (upd H2 bd (.dT kb)) D = some (.lst ys) := by rw [upd_ne nD]; exact hy
    have pr3 : Paired (Pq (upd H2 bd (.dT kb))) ys (ks.filter fun k => decide (0 < g k.1 k.2)) := pairMono (fun y k r => by
      obtain ⟨q, e1, e2⟩ := r
      exact ⟨q, e1, by rw [upd_ne (ne_of e2 (s2 _ _ hbf) (by intro z; cases z))]; exact e2⟩) pr2
    generalize upd H2 bd (.dT kb) = H3 at *
    walk_at "gs"
    refine ⟨D, ys, keyAt H3, rfl, SqL.of hy3, fun x hx => ?_, fun zs p srt stb np => ?_⟩
    · obtain ⟨k, hk, r⟩ := pairMem pr3 hx
      have e := keyAt_of r
      obtain ⟨q, e1, e2⟩ := r
      exact ⟨q, e1, by rw [e]; exact e2⟩
    · obtain ⟨ks2, pm, pr4⟩ := pairPerm stb.perm pr3
      have nd2 : ks2.Nodup := pm.nodup_iff.mpr (ndk.sublist List.filter_sublist)
      have sk := sortedK pr4 srt nd2
      have mk : ∀ k ∈ ks2, k ∈ ks ∧ 0 < g k.1 k.2 := fun k hk => by
        have := pm.mem_iff.mp hk
        rw [List.mem_filter] at this
        exact ⟨this.1, of_decide_eq_true this.2⟩
      have s4 : Same H3 (upd H3 p (.lst zs)) := sameNew np
      have pr5 : Paired (Pq (upd H3 p (.lst zs))) zs ks2 := pairMono (fun y k r => by
        obtain ⟨q, e1, e2⟩ := r
        exact ⟨q, e1, s4 _ _ e2⟩) pr4
      have hz : (upd H3 p (.lst zs)) p = some (.lst zs) := upd_same
      have sa := s3.trans s4
      have lz := pairLen pr5
      have lk2 : ks2.length ≤ 81 := by
        have := pm.length_eq
        have := List.length_filter_le (fun k : Nat × Nat => decide (0 < g k.1 k.2)) ks
        omega
      generalize upd H3 p (.lst zs) = H4 at *
      have hes : ∀ (i : Nat) k, ks2[i]? = some k → (ks2.map fun k => ((k.1, k.2, (g k.1 k.2).toNat) : Tie))[i]? = some (k.1, k.2, (g k.1 k.2).toNat) := fun i k h => by
        rw [List.getElem?_map, h]
        rfl
      refine ⟨p, rfl, ⟨_, SqL.of hz⟩, lcL (SqL.of hz) (fun _ => true) (fun _ i H y => ∃ e, (ks2.map fun k => ((k.1, k.2, (g k.1 k.2).toNat) : Tie))[i]? = some e ∧ Row3 K H y e) (by omega) ?_ ?_ ?_⟩
      · rintro D i H2 H3 v bu mu ⟨e, he, h⟩
        exact ⟨e, he, bu.row3 mu h⟩
      · intro D2 i x H5 N N' hx hD2 s5 mu q1 q2
        obtain ⟨k, hki, q, rfl, hq⟩ := pairGet pr5 hx
        obtain ⟨hk1, hk2⟩ := mk k (List.mem_of_getElem? hki)
        have hq5 := SqT.of (K := K) (s5 _ _ hq)
        have sb := sa.trans s5
        walk_at "gs"
        refine ⟨rfl, ?_⟩
        walk_at "gs"
        refine fR_brought E (sb _ _ h1) ?_
        walk_at "gs"
        intro t nt
        have s6 := sb.trans (sameNew (o := .tup [.int k.1, .int k.2]) nt)
        walk_at "gs"
        refine ⟨bd, .int (max 0 (g k.1 k.2)), rfl, ?_, ?_⟩
        · have := DGet.pk (i := k.1) (j := k.2) (Rd.of (s6 _ _ hb)) upd_same
          rw [vk k hk1] at this
          exact this
        walk_at "gs"
        have e9 : max 0 (g k.1 k.2) = (((g k.1 k.2).toNat : Nat) : Int) := by omega
        refine ⟨(g k.1 k.2).toNat, by rw [e9], fun a H6 s7 ha => ?_⟩
        walk_at "gs"
        intro b nb2
        walk_at "gs"
        have s8 : Same H6 (upd H6 b (.tup [.int k.1, .int k.2, .ref a])) := sameNew nb2
        exact q1 rfl _ _ (((sameNew nt).trans s7).trans s8) ⟨_, hes i k hki, b, .ref a, rfl, SqT.of upd_same, a, rfl, SqT.of (s8 _ _ ha)⟩
      · intro D2 H5 rs hD2 s5 hrs pr6
        have el : zs.length = (ks2.map fun k => ((k.1, k.2, (g k.1 k.2).toNat) : Tie)).length := by rw [List.length_map]; exact lz
        rw [el] at pr6
        have pr7 := paired_kept (p := fun _ => true) (S := fun y e => Row3 K H5 y e) (fun _ _ _ => rfl) pr6
        rw [filter_all] at pr7
        walk_at "gs"
        refine ⟨D2, rs, rfl, .inl ⟨SqL.of hrs, fun t nt => ?_⟩⟩
        have s8 : Same H5 (upd H5 t (.tup rs)) := sameNew nt
        refine hQ _ _ _ ((sa.trans s5).trans s8) ⟨t, rs, rfl, SqT.of upd_same, s8.rows pr7⟩ ⟨?_, ?_, ?_, by rw [List.length_map]; exact lk2⟩
        · exact List.pairwise_map.mpr sk
        · intro e he
          obtain ⟨k, hk0, rfl⟩ := List.mem_map.mp he
          obtain ⟨m1, m2⟩ := mk k hk0
          obtain ⟨m3, m4⟩ := hk k m1
          exact ⟨m3, m4, m2, by show (((g k.1 k.2).toNat : Nat) : Int) = g k.1 k.2; omega⟩
        · intro i j hp
          refine ⟨(g i j).toNat, List.mem_map.mpr ⟨(i, j), pm.mem_iff.mpr (List.mem_filter.mpr ⟨ak i j hp, decide_eq_true hp⟩), rfl⟩, by omega⟩
theorem But.chain {r p : Addr} {H H' H2 : Hp} (b : But r H H') (c : But p H' H2) (n : H p = none) : But r H H2 := fun x o ne h => c x o (ne_of_none h n) (b x o ne h)
theorem But.fresh {r p : Addr} {H H' : Hp} {o : HO} (b : But r H H') (hr : H' r = some o) (n : H' p = none) : H p = none := by
  cases e : H p with
  | none => rfl
  | some u =>
    have ne : p ≠ r := fun z => by rw [z, hr] at n; cases n
    have := b p u ne e
    rw [this] at n
    cases n
theorem tieW_nil (x y : Nat) : tieW [] x y = 0 := rfl
theorem tieW_no {l : List Tie} {x y : Nat} (h : (min x y, max x y) ∉ keysN l) : tieW l x y = 0 := by
  unfold tieW
  have : l.find? (fun e => decide (e.1 = min x y) && decide (e.2.1 = max x y)) = none := by
    rw [List.find?_eq_none]
    intro e he q
    rw [Bool.and_eq_true, decide_eq_true_iff, decide_eq_true_iff] at q
    exact h (List.mem_map.mpr ⟨e, he, Prod.ext q.1 q.2⟩)
  rw [this]
theorem tieW_snoc {l : List Tie} {e : Tie} (h : (e.1, e.2.1) ∉ keysN l) (x y : Nat) : tieW (l ++ [e]) x y = if e.1 = min x y ∧ e.2.1 = max x y then e.2.2 else tieW l x y := by
  by_cases q : e.1 = min x y ∧ e.2.1 = max x y
  · rw [if_pos q]
    have h2 : l.find? (fun e => decide (e.1 = min x y) && decide (e.2.1 = max x y)) = none := by
      rw [List.find?_eq_none]
      intro e' he q'
      rw [Bool.and_eq_true, decide_eq_true_iff, decide_eq_true_iff] at q'
      exact h (List.mem_map.mpr ⟨e', he, Prod.ext (by rw [q'.1, q.1]) (by rw [q'.2, q.2])⟩)
    unfold tieW
    rw [List.find?_append, h2]
    simp [q.1, q.2]
  · rw [if_neg q]
    unfold tieW
    have h2 : [e].find? (fun e => decide (e.1 = min x y) && decide (e.2.1 = max x y)) = none := by
      rw [List.find?_eq_none]
      intro e' he q'
      rw [List.mem_singleton] at he
      subst he
      rw [Bool.and_eq_true, decide_eq_true_iff, decide_eq_true_iff] at q'
      exact q q'
    rw [List.find?_append, h2]
    cases l.find? (fun e => decide (e.1 = min x y) && decide (e.2.1 = max x y)) <;> rfl
theorem tieW_sym (es : List Tie) (x y : Nat) : tieW es x y = tieW es y x := by
  unfold tieW
  rw [Nat.min_comm, Nat.max_comm]
theorem tieW_nz {n : Nat} {es : List Tie} (ok : ∀ e ∈ es, TieOk n e) {x y : Nat} (h : tieW es x y ≠ 0) : x < n ∧ y < n ∧ x ≠ y := by
  unfold tieW at h
  cases e : es.find? (fun e => decide (e.1 = min x y) && decide (e.2.1 = max x y)) with
  | none => rw [e] at h; exact absurd rfl h
  | some t =>
    have q := List.find?_some e
    rw [Bool.and_eq_true, decide_eq_true_iff, decide_eq_true_iff] at q
    obtain ⟨o1, o2, _⟩ := ok t (List.mem_of_find?_eq_some e)
    omega
theorem keys_small {n : Nat} {es : List Tie} (ok : ∀ e ∈ es, TieOk n e) (nd : (keysN es).Nodup) (hn : n ≤ 9) : es.length ≤ 81 := by
  have := nodup_le (l := keysN es) (m := grid n) nd fun x hx => by
    obtain ⟨e, he, rfl⟩ := List.mem_map.mp hx
    obtain ⟨o1, o2, _⟩ := ok e he
    exact grid_mem.mpr ⟨by omega, o2⟩
  rw [grid_len] at this
  have l : (keysN es).length = es.length := List.length_map _
  have : n * n ≤ 9 * 9 := Nat.mul_le_mul hn hn
  omega
theorem WD.put {kw : List (List Key × V)} {l : List Tie} {e : Tie} (h : ∀ x y, valV kw (pkN x y) = if tieW l x y = 0 then none else some (.int (tieW l x y : Nat))) (hk : (e.1, e.2.1) ∉ keysN l) (lt : e.1 < e.2.1) (nz : e.2.2 ≠ 0) (x y : Nat) :
    valV (putK (putK kw (pkN e.1 e.2.1) (.int (e.2.2 : Nat))) (pkN e.2.1 e.1) (.int (e.2.2 : Nat))) (pkN x y) = if tieW (l ++ [e]) x y = 0 then none else some (.int (tieW (l ++ [e]) x y : Nat)) := by
  have t := tieW_snoc hk x y
  rw [valV_put, valV_put]
  by_cases e1 : x = e.2.1 ∧ y = e.1
  · rw [if_pos (by omega)] at t
    rw [t, e1.1, e1.2, if_pos rfl, if_neg nz]
  · rw [if_neg (fun z => e1 (pkN_inj z))]
    by_cases e2 : x = e.1 ∧ y = e.2.1
    · rw [if_pos (by omega)] at t
      rw [t, e2.1, e2.2, if_pos rfl, if_neg nz]
    · rw [if_neg (by omega)] at t
      rw [t, if_neg (fun z => e2 (pkN_inj z))]
      exact h x y
theorem empties {H : Hp} {cl : Addr} : ∀ {ys : List V} {ks : List Nat}, Paired (fun y (_ : Nat) => ∃ l, y = V.ref l ∧ l ≠ cl ∧ H l = some (.lst [])) ys ks → ∃ ls : List Addr, ys = ls.map V.ref ∧ ∀ (i : Nat) l, ls[i]? = some l → l ≠ cl ∧ H l = some (.lst [])
  | _, _, .nil => ⟨[], rfl, fun i l h => by simp at h⟩
  | _, _, .cons h t => by
    obtain ⟨ls, e1, e2⟩ := empties t
    obtain ⟨l, rfl, h2, h3⟩ := h
    refine ⟨l :: ls, by rw [e1]; rfl, fun i m hm => ?_⟩
    cases i with
    | zero => simp at hm; subst hm; exact ⟨h2, h3⟩
    | succ i => exact e2 i m (by simpa using hm)
theorem putK_all {κ : Type} [DecidableEq κ] {kvs : List (κ × V)} {k : κ} {v : V} {P : V → Prop} (h : ∀ kv ∈ kvs, P kv.2) (hv : P v) : ∀ kv ∈ putK kvs k v, P kv.2 := by
  intro kv hkv
  unfold putK at hkv
  split at hkv
  · obtain ⟨y, hy, rfl⟩ := List.mem_map.mp hkv
    split
    · exact hv
    · exact h y hy
  · rcases List.mem_append.mp hkv with q | q
    · exact h kv q
    · rw [List.mem_singleton] at q
      rw [q]
      exact hv
/-- the ties of a web, as they are kept -/
structure EsOk (n : Nat) (es : List Tie) : Prop where
  small : n ≤ 9
  ok : ∀ e ∈ es, TieOk n e
  nz : ∀ e ∈ es, e.2.2 ≠ 0
  up : Sorted es
def sp_Rooms_init (K : PySem.W.Frag) (a b : V) (H : Hp) (Q : VK) : Prop := ∃ (r dx w : Addr) (n : Nat) (es : List Tie), a = .ref r ∧ H r = some (.ins (He.ga K "Rooms") dx []) ∧ b = .ref w ∧ WebI K H w n es ∧ EsOk n es ∧
  ∀ H1 nb bd, But r H H1 → H bd = none → RmI K H1 r n (tieW es) nb bd → BrI H1 bd n (fun _ _ => 0) → Q .non H1
theorem pure_Rooms_init {K : PySem.W.Frag} {mg : Str → Option Value} (E : En K mg) : ∀ vs H Q, u2 (sp_Rooms_init K) vs H Q → t_Rooms_init K (u2 (sp_Rooms_parts K)) (u3 (sp_Rooms_meet K)) { nx := fun _ H' => Q .non H', rt := Q } (L2.start ["self", "web", "i", "j", "weight", "place"] vs) H := by
  rintro _ H Q ⟨_, _, rfl, r, dx, w, n, es, rfl, hr, rfl, ⟨dxw, wdw, tt, kvw, rows, w1, w2, w3, w4, w5⟩, ok, hQ⟩
  have nd := sorted_keys ok.up
  have le := keys_small ok.ok nd ok.small
  have hn := ok.small
  have hle := pairLen w5
  have nwr : w ≠ r := ne_of w1 hr (by
    intro z
    have := congrArg (fun o : HO => match o with | .ins _ _ fs => fs.length | _ => 0) z
    revert this
    show ¬ (3 = 0)
    decide)
  have mr : Mut (H r) := by rw [hr]; trivial
  unfold t_Rooms_init
  walk_at "st"
  walk_at "gs"
  refine fW_many E w1 ?_
  walk_at "gs"
  refine ⟨r, _, dx, _, rfl, hr, E.cls_Rooms, E.na_Rooms_size, by show 0 < 1000; decide, ?_⟩
  have b1 : But r H (upd H r (.ins (He.ga K "Rooms") dx (putF "size" (.int n) []))) := butUpd
  have hr1 : (upd H r (.ins (He.ga K "Rooms") dx (putF "size" (.int n) []))) r = some (.ins (He.ga K "Rooms") dx [("size", .int n)]) := by rw [upd_same]; rfl
  generalize upd H r (.ins (He.ga K "Rooms") dx (putF "size" (.int n) [])) = H1 at *
  walk_at "gs"
  intro wd nwd
  have fwd := b1.fresh hr1 nwd
  have b2 : But r H (upd H1 wd (.dT [])) := b1.chain butUpd fwd
  have hr2 : (upd H1 wd (.dT [])) r = some (.ins (He.ga K "Rooms") dx [("size", .int n)]) := (sameNew nwd) _ _ hr1
  have hw2 : (upd H1 wd (.dT [])) wd = some (.dT []) := upd_same
  generalize upd H1 wd (.dT []) = H2 at *
  walk_at "gs"
  refine ⟨r, _, dx, _, rfl, hr2, E.cls_Rooms, E.na_Rooms_weights, by show 1 < 1000; decide, ?_⟩
  have c3 : But r H2 (upd H2 r (.ins (He.ga K "Rooms") dx (putF "weights" (.ref wd) [("size", .int n)]))) := butUpd
  have b3 := b2.trans c3
  have hr3 : (upd H2 r (.ins (He.ga K "Rooms") dx (putF "weights" (.ref wd) [("size", .int n)]))) r = some (.ins (He.ga K "Rooms") dx [("size", .int n), ("weights", .ref wd)]) := by rw [upd_same]; rfl
  have nwr2 : wd ≠ r := ne_of hw2 hr2 (by intro z; cases z)
  have hw3 := c3 _ _ nwr2 hw2
  generalize upd H2 r (.ins (He.ga K "Rooms") dx (putF "weights" (.ref wd) [("size", .int n)])) = H3 at *
  walk_at "gs"
  intro bd nbd
  have fbd := b3.fresh hr3 nbd
  have b4 : But r H (upd H3 bd (.dT [])) := b3.chain butUpd fbd
  have hr4 : (upd H3 bd (.dT [])) r = some (.ins (He.ga K "Rooms") dx [("size", .int n), ("weights", .ref wd)]) := (sameNew nbd) _ _ hr3
  have hw4 : (upd H3 bd (.dT [])) wd = some (.dT []) := (sameNew nbd) _ _ hw3
  have hb4 : (upd H3 bd (.dT [])) bd = some (.dT []) := upd_same
  have nwb : wd ≠ bd := ne_of_none hw3 nbd
  generalize upd H3 bd (.dT []) = H4 at *
  walk_at "gs"
  refine ⟨r, _, dx, _, rfl, hr4, E.cls_Rooms, E.na_Rooms_brought, by show 2 < 1000; decide, ?_⟩
  have c5 : But r H4 (upd H4 r (.ins (He.ga K "Rooms") dx (putF "brought" (.ref bd) [("size", .int n), ("weights", .ref wd)]))) := butUpd
  have b5 := b4.trans c5
  have hr5 : (upd H4 r (.ins (He.ga K "Rooms") dx (putF "brought" (.ref bd) [("size", .int n), ("weights", .ref wd)]))) r = some (.ins (He.ga K "Rooms") dx [("size", .int n), ("weights", .ref wd), ("brought", .ref bd)]) := by rw [upd_same]; rfl
  have nbr : bd ≠ r := ne_of hb4 hr4 (by intro z; cases z)
  have hw5 := c5 _ _ nwr2 hw4
  have hb5 := c5 _ _ nbr hb4
  generalize upd H4 r (.ins (He.ga K "Rooms") dx (putF "brought" (.ref bd) [("size", .int n), ("weights", .ref wd)])) = H5 at *
  walk_at "gs"
  refine fW_many E (b5 _ _ nwr w1) ?_
  walk_at "gs"
  refine ⟨n, rfl, by omega, by omega, lcR (fun _ => true) (fun D i H y => ∃ l, y = V.ref l ∧ l ≠ D ∧ H l = some (.lst [])) (by omega) ?_ ?_ ?_⟩
  · rintro D i H H' v bu mu ⟨l, h1, h2, h3⟩
    exact ⟨l, h1, h2, bu _ _ h2 h3⟩
  · intro D i H6 N N' hi hD s6 mu q1 q2
    walk_at "gs"
    refine ⟨rfl, ?_⟩
    walk_at "gs"
    intro p np
    refine q1 rfl _ _ (sameNew np) ⟨p, rfl, fun z => ?_, upd_same⟩
    rw [← z, np] at mu
    exact mu
  · intro cl H6 ys hD s6 hy pr
    rw [kept_all fun _ _ => rfl] at pr
    have lys := pairLen pr
    rw [List.length_range] at lys
    obtain ⟨ls, els, hls⟩ := empties pr
    have fcl := b5.fresh hr5 hD
    have b6 : But r H H6 := fun x o ne h => s6 _ _ (b5 x o ne h)
    have hr6 := s6 _ _ hr5
    walk_at "gs"
    refine ⟨r, _, dx, _, rfl, hr6, E.cls_Rooms, E.na_Rooms_close, by show 3 < 1000; decide, ?_⟩
    have c7 : But r H6 (upd H6 r (.ins (He.ga K "Rooms") dx (putF "close" (.ref cl) [("size", .int n), ("weights", .ref wd), ("brought", .ref bd)]))) := butUpd
    have b7 := b6.trans c7
    have hr7 : (upd H6 r (.ins (He.ga K "Rooms") dx (putF "close" (.ref cl) [("size", .int n), ("weights", .ref wd), ("brought", .ref bd)]))) r = some (.ins (He.ga K "Rooms") dx (rf n (.ref wd) (.ref bd) (.ref cl))) := by rw [upd_same]; rfl
    have ncr : cl ≠ r := ne_of hy hr6 (by intro z; cases z)
    have hw7 := c7 _ _ nwr2 (s6 _ _ hw5)
    have hb7 := c7 _ _ nbr (s6 _ _ hb5)
    have hc7 : CloseI (upd H6 r (.ins (He.ga K "Rooms") dx (putF "close" (.ref cl) [("size", .int n), ("weights", .ref wd), ("brought", .ref bd)]))) cl n (fun _ => []) := by
      refine ⟨ls, by rw [← els]; exact c7 _ _ ncr hy, ?_, fun i hi => ?_⟩
      · rw [els, List.length_map] at lys
        omega
      · have : i < ls.length := by
          rw [els, List.length_map] at lys
          omega
        refine ⟨ls[i], List.getElem?_eq_getElem this, ?_⟩
        have q := (hls i ls[i] (List.getElem?_eq_getElem this)).2
        exact c7 _ _ (ne_of q hr6 (by intro z; cases z)) q
    generalize upd H6 r (.ins (He.ga K "Rooms") dx (putF "close" (.ref cl) [("size", .int n), ("weights", .ref wd), ("brought", .ref bd)])) = H7 at *
    walk_at "gs"
    refine fW_ties E (b7 _ _ nwr w1) ?_
    refine ⟨tt, rfl, ⟨_, b7.tupM mr (SqT.of w4)⟩, for_tup (xs := rows) (fun i σ H' => (∃ y z u v, σ = [some (.ref r), some (.ref w), y, z, u, v]) ∧ But r H H' ∧ H' r = some (.ins (He.ga K "Rooms") dx (rf n (.ref wd) (.ref bd) (.ref cl))) ∧ H' bd = some (.dT []) ∧
      ∃ kw nb, H' wd = some (.dT kw) ∧ (∀ x y, valV kw (pkN x y) = if tieW (es.take i) x y = 0 then none else some (.int (tieW (es.take i) x y : Nat))) ∧ (∀ kv ∈ kw, ∃ p : Nat, kv.2 = .int p) ∧ (∀ kv ∈ kw, ∃ i j, kv.1 = pkN i j) ∧ kw.length ≤ 2 * i ∧ CloseI H' cl n nb ∧ (∀ k, k < n → Rising n (nb k)) ∧ ∀ k x, k < n → (x ∈ nb k ↔ tieW (es.take i) k x ≠ 0)) ?_ (fun i σ H' _ p => p.2.1.tupM mr (SqT.of w4)) ?_ ?_⟩
    · refine ⟨⟨_, _, _, _, rfl⟩, b7, hr7, hb7, [], fun _ => [], hw7, fun x y => ?_, (fun _ h => by cases h), (fun _ h => by cases h), Nat.zero_le _, hc7, (fun _ _ => ⟨List.Pairwise.nil, fun _ h => by cases h⟩), fun k x _ => ?_⟩
      · rw [List.take_zero, tieW_nil, if_pos rfl]; rfl
      · rw [List.take_zero, tieW_nil]
        simp
    · rintro i x σ H' hx ⟨⟨y, z, u, v, rfl⟩, bu, hr', hb', kw, nb, hw', wv, wa, wk, wl, hc', up, mem⟩
      obtain ⟨e, he, ra, rv, rfl, hra, hrv⟩ := pairGet w5 hx
      have hem := List.mem_of_getElem? he
      obtain ⟨o1, o2, o3⟩ := ok.ok e hem
      have onz := ok.nz e hem
      have hil : i < es.length := (List.getElem?_eq_some_iff.mp he).1
      have hk : (e.1, e.2.1) ∉ keysN (es.take i) := fun h => by
        unfold keysN at h
        obtain ⟨e', he', eq⟩ := List.mem_map.mp h
        obtain ⟨j, hj⟩ := List.mem_iff_getElem?.mp he'
        have hji : j < i := by
          have := (List.getElem?_eq_some_iff.mp hj).1
          rw [List.length_take] at this
          omega
        rw [List.getElem?_take_of_lt hji] at hj
        have hjl : j < es.length := by omega
        have up2 := List.pairwise_iff_getElem.mp ok.up j i hjl hil hji
        rw [(List.getElem?_eq_some_iff.mp hj).2, (List.getElem?_eq_some_iff.mp he).2] at up2
        have q1 := congrArg Prod.fst eq
        have q2 := congrArg Prod.snd eq
        simp only at q1 q2
        omega
      have tk : es.take (i + 1) = es.take i ++ [e] := by rw [List.take_add_one, he]; rfl
      have hra1 := bu.tupM mr hra
      have hrv1 : Amt K H' rv e.2.2 := bu.amt mr hrv
      walk_at "gs"
      refine ⟨r, dx, _, rfl, hr', by rfl, ?_⟩
      walk_at "gs"
      refine ⟨e.2.2, hrv1, ?_⟩
      walk_at "gs"
      refine fR_weights E hr' ?_
      walk_at "gs"
      intro p np
      have s1 : Same H' (upd H' p (.tup [.int e.1, .int e.2.1])) := sameNew np
      walk_at "gs"
      refine ⟨wd, _, rfl, DPut.pk (i := e.1) (j := e.2.1) (s1 _ _ hw') upd_same (by rw [sizeLine_eq]; omega), ?_⟩
      have ba : But wd H' (upd (upd H' p (.tup [.int e.1, .int e.2.1])) wd (.dT (putK kw (pkN e.1 e.2.1) (.int (e.2.2 : Nat))))) := s1.but.trans butUpd
      have wa2 : (upd (upd H' p (.tup [.int e.1, .int e.2.1])) wd (.dT (putK kw (pkN e.1 e.2.1) (.int (e.2.2 : Nat))))) wd = some (.dT (putK kw (pkN e.1 e.2.1) (.int (e.2.2 : Nat)))) := upd_same
      generalize upd (upd H' p (.tup [.int e.1, .int e.2.1])) wd (.dT (putK kw (pkN e.1 e.2.1) (.int (e.2.2 : Nat)))) = Ha at *
      have hra2 := ba _ _ (fun z => nwr2 z.symm) hr'
      have hrv2 : Amt K Ha rv e.2.2 := ba.amt (by rw [hw']; trivial) hrv1
      walk_at "gs"
      refine ⟨r, dx, _, rfl, hra2, by rfl, ?_⟩
      walk_at "gs"
      refine ⟨e.2.2, hrv2, ?_⟩
      walk_at "gs"
      refine fR_weights E hra2 ?_
      walk_at "gs"
      intro p2 np2
      have s2 : Same Ha (upd Ha p2 (.tup [.int e.2.1, .int e.1])) := sameNew np2
      walk_at "gs"
      have lp := length_putK kw (pkN e.1 e.2.1) (.int (e.2.2 : Nat))
      have lp2 := length_putK (putK kw (pkN e.1 e.2.1) (.int (e.2.2 : Nat))) (pkN e.2.1 e.1) (.int (e.2.2 : Nat))
      refine ⟨wd, _, rfl, DPut.pk (i := e.2.1) (j := e.1) (s2 _ _ wa2) upd_same (by rw [sizeLine_eq]; omega), ?_⟩
      have bb : But wd H' (upd (upd Ha p2 (.tup [.int e.2.1, .int e.1])) wd (.dT (putK (putK kw (pkN e.1 e.2.1) (.int (e.2.2 : Nat))) (pkN e.2.1 e.1) (.int (e.2.2 : Nat))))) := (ba.trans s2.but).trans butUpd
      have wb2 : (upd (upd Ha p2 (.tup [.int e.2.1, .int e.1])) wd (.dT (putK (putK kw (pkN e.1 e.2.1) (.int (e.2.2 : Nat))) (pkN e.2.1 e.1) (.int (e.2.2 : Nat))))) wd = some (.dT (putK (putK kw (pkN e.1 e.2.1) (.int (e.2.2 : Nat))) (pkN e.2.1 e.1) (.int (e.2.2 : Nat)))) := upd_same
      generalize upd (upd Ha p2 (.tup [.int e.2.1, .int e.1])) wd (.dT (putK (putK kw (pkN e.1 e.2.1) (.int (e.2.2 : Nat))) (pkN e.2.1 e.1) (.int (e.2.2 : Nat)))) = Hb at *
      have hrb := bb _ _ (fun z => nwr2 z.symm) hr'
      have hbb := bb _ _ nwb.symm hb'
      obtain ⟨ls2, k1, k2, k3⟩ := hc'
      have ncw : cl ≠ wd := ne_of k1 hw' (by intro z; cases z)
      have hcb : CloseI Hb cl n nb := ⟨ls2, bb _ _ ncw k1, k2, fun k hk => (k3 k hk).imp fun l q => ⟨q.1, bb _ _ (ne_of q.2 hw' (by intro z; cases z)) q.2⟩⟩
      walk_at "gs"
      refine ⟨r, dx, _, rfl, hrb, by rfl, ?_⟩
      walk_at "gs"
      have z0 := tieW_no (l := es.take i) (x := e.1) (y := e.2.1) (by rw [Nat.min_eq_left (by omega), Nat.max_eq_right (by omega)]; exact hk)
      refine ⟨r, dx, n, .ref wd, .ref bd, cl, nb, e.1, e.2.1, rfl, hrb, hcb, up, hn, rfl, rfl, by omega, o2, by omega, fun h => (mem e.1 e.2.1 (by omega)).mp h z0, fun h => (mem e.2.1 e.1 o2).mp h (by rw [tieW_sym]; exact z0), fun Hc nb' bc hcc up' mem' => ?_⟩
      have mcl : Hb cl = some (.lst (ls2.map V.ref)) := bb _ _ ncw k1
      refine ⟨⟨_, _, _, _, rfl⟩, (bu.chain bb fwd).chain bc fcl, bc _ _ (ne_of hrb mcl (by intro z; cases z)) hrb, bc _ _ (ne_of hbb mcl (by intro z; cases z)) hbb, _, nb', bc _ _ (ne_of wb2 mcl (by intro z; cases z)) wb2, fun x y => ?_, fun kv hkv => ?_, fun kv hkv => ?_, by omega, hcc, up', fun k x hk' => ?_⟩
      · rw [tk]
        exact WD.put wv hk o1 onz x y
      · exact putK_all (P := fun v => ∃ p : Nat, v = .int p) (putK_all (P := fun v => ∃ p : Nat, v = .int p) wa ⟨_, rfl⟩) ⟨_, rfl⟩ kv hkv
      · rcases putK_key hkv with q | ⟨y, hy, q⟩
        · exact ⟨_, _, q⟩
        · rcases putK_key hy with q2 | ⟨y2, hy2, q2⟩
          · exact ⟨_, _, q ▸ q2⟩
          · obtain ⟨a, b, q3⟩ := wk y2 hy2
            exact ⟨a, b, by rw [← q, ← q2, q3]⟩
      · rw [mem' k x, mem k x hk', tk, tieW_snoc hk]
        by_cases q : e.1 = min k x ∧ e.2.1 = max k x
        · rw [if_pos q]
          constructor
          · intro _; exact onz
          · intro _; omega
        · rw [if_neg q]
          constructor
          · rintro (h | h | h)
            · exact h
            · exact absurd (by omega) q
            · exact absurd (by omega) q
          · exact .inl
    · rintro σ H' ⟨⟨y, z, u, v, rfl⟩, bu, hr', hb', kw, nb, hw', wv, wa, wk, wl, hc', up, mem⟩
      rw [hle, List.take_length] at wv mem
      refine hQ H' nb bd bu fbd ⟨dx, wd, cl, kw, hr', hw', nwb, ⟨wv, wa, wk, by omega⟩, hc', ⟨ok.small, tieW_sym es, fun i j => tieW_nz ok.ok, up, fun i j hi => mem i j hi⟩⟩ ⟨[], hb', ⟨fun _ _ => rfl, fun _ _ => rfl, (fun _ h => by cases h), List.nodup_nil⟩⟩
def sp_rooms_of (K : PySem.W.Frag) (a b : V) (H : Hp) (Q : VK) : Prop := ∃ (w : Addr) (n : Nat) (es : List Tie) (l : Addr), a = .ref w ∧ WebI K H w n es ∧ EsOk n es ∧ b = .ref l ∧ SqT K H l [] ∧
  ∀ H1 r nb bd, Same H H1 → H bd = none → RmI K H1 r n (tieW es) nb bd → BrI H1 bd n (fun _ _ => 0) → Q (.ref r) H1
theorem sameMk {H : Hp} {x dx C : Addr} (n1 : H x = none) (n2 : H dx = none) : Same H (upd (upd H dx (.own x)) x (.ins C dx [])) := fun b o e => by
  rw [upd_ne (ne_of_none e n1), upd_ne (ne_of_none e n2)]
  exact e
theorem pure_rooms_of {K : PySem.W.Frag} : ∀ vs H Q, u2 (sp_rooms_of K) vs H Q → t_rooms_of K (u2 (sp_Rooms_init K)) (u3 (sp_Rooms_meet K)) (u4 (sp_Rooms_put K)) (u2 (sp_Rooms_parts K)) { nx := fun _ H' => Q .non H', rt := Q } (L2.start ["web", "flow", "rooms", "i", "j", "amount"] vs) H := by
  rintro _ H Q ⟨_, _, rfl, w, n, es, l, rfl, hw, ok, rfl, hl, hQ⟩
  unfold t_rooms_of
  walk_at "st"
  walk_at "gs"
  walk_at "gs"
  intro x dx nx ndx nee
  walk_at "gs"
  have s1 : Same H (upd (upd H dx (.own x)) x (.ins (He.ga K "Rooms") dx [])) := sameMk nx ndx
  refine ⟨x, dx, w, n, es, rfl, upd_same, rfl, s1.web hw, ok, fun H1 nb bd bu nbd hrm hbr => ⟨rfl, ?_⟩⟩
  have sa : Same H H1 := bu.same s1 nx
  have nbd0 : H bd = none := s1.free nbd
  generalize upd (upd H dx (.own x)) x (.ins (He.ga K "Rooms") dx []) = H0 at *
  walk_at "gs"
  refine ⟨l, rfl, ⟨_, sa.seqT hl⟩, for_tup (xs := []) (fun i σ H' => Same H1 H' ∧ ∃ y z u, σ = [some (.ref w), some (.ref l), some (.ref x), y, z, u]) ⟨Same.refl _, _, _, _, rfl⟩ (fun i σ H' _ p => p.1.seqT (sa.seqT hl)) (fun i y σ H' hi => by simp at hi) ?_⟩
  rintro σ H' ⟨s, y, z, u, rfl⟩
  walk_at "gs"
  exact hQ _ _ _ _ (sa.trans s) nbd0 (s.rm hrm) (s.br hbr)
def sp_first_bound (K : PySem.W.Frag) (a : V) (H : Hp) (Q : VK) : Prop := ∃ (r : Addr) (n : Nat) (cp : Nat → Nat → Nat) (nb : Nat → List Nat) (bd : Addr), a = .ref r ∧ RmI K H r n cp nb bd ∧
  ∀ (b : Nat) H1, Same H H1 → (b = 0 → ∀ i j, cp i j = 0) → Q (.int b) H1
theorem wd_ints : ∀ {kw : List (List Key × V)}, (∀ kv ∈ kw, ∃ p : Nat, kv.2 = .int p) → ∃ ps : List Int, kw.map (·.2) = ps.map V.int
  | [], _ => ⟨[], rfl⟩
  | a :: r, h => by
    obtain ⟨ps, e⟩ := wd_ints (kw := r) fun kv hk => h kv (List.mem_cons_of_mem _ hk)
    obtain ⟨p, hp⟩ := h a List.mem_cons_self
    exact ⟨(p : Int) :: ps, by rw [List.map_cons, List.map_cons, e, hp]⟩
theorem go_lv {td : TE} {σ : L2.St} {H : Hp} {Q : VK} (h : td σ H fun x H1 => ∃ d kvs, x = .ref d ∧ Rd H1 d (.dT kvs) ∧ kvs.length ≤ 1000 ∧ ∀ p, H1 p = none → Q (.ref p) (upd H1 p (.lst (kvs.map (·.2))))) : tListVals td σ H Q := h
theorem pure_first_bound {K : PySem.W.Frag} {mg : Str → Option Value} (E : En K mg) : ∀ vs H Q, u1 (sp_first_bound K) vs H Q → t_first_bound K { nx := fun _ H' => Q .non H', rt := Q } (L2.start ["rooms", "greatest", "bound"] vs) H := by
  rintro _ H Q ⟨_, rfl, r, n, cp, nb, bd, rfl, ⟨dx, wd, cl, kw, h1, h2, h3, h4, h5, h6⟩, hQ⟩
  obtain ⟨ps, eps⟩ := wd_ints h4.all
  have lps : ps.length = kw.length := by
    have := congrArg List.length eps
    rw [List.length_map, List.length_map] at this
    exact this.symm
  have hlen := h4.len
  unfold t_first_bound
  walk_at "st"
  walk_at "gs"
  intro p np
  have s1 : Same H (upd H p (.lst [.int 0])) := sameNew np
  walk_at "gs"
  refine go_lv ?_
  walk_at "gs"
  refine fR_weights E (s1 _ _ h1) ?_
  refine ⟨wd, kw, rfl, Rd.of (s1 _ _ h2), hlen, fun p2 np2 => ?_⟩
  have s2 : Same (upd H p (.lst [.int 0])) (upd (upd H p (.lst [.int 0])) p2 (.lst (kw.map (·.2)))) := sameNew np2
  refine ⟨p, p2, [.int 0], kw.map (·.2), rfl, rfl, s2 _ _ upd_same, upd_same, by rw [sizeLine_eq, List.length_map]; simp; omega, fun p3 np3 => ?_⟩
  have s3 := (s1.trans s2).trans (sameNew (o := .lst ([V.int 0] ++ kw.map (·.2))) np3)
  walk_at "gs"
  refine ⟨p3, 0 :: ps, rfl, SqL.of (by rw [upd_same, eps]; rfl), by simp, fun m hm hle => ?_⟩
  generalize upd (upd (upd H p (.lst [.int 0])) p2 (.lst (kw.map (·.2)))) p3 (.lst ([V.int 0] ++ kw.map (·.2))) = H3 at *
  have m0 : 0 ≤ m := hle 0 List.mem_cons_self
  have cz : m ≤ 0 → ∀ i j, cp i j = 0 := fun hm0 i j => by
    rcases Nat.eq_zero_or_pos (cp i j) with q | q
    · exact q
    · have v := h4.val i j
      rw [if_neg (by omega)] at v
      have := valV_mem v
      have : V.int (cp i j : Nat) ∈ kw.map (·.2) := List.mem_map.mpr ⟨_, this, rfl⟩
      rw [eps] at this
      obtain ⟨z, hz, e⟩ := List.mem_map.mp this
      have := hle z (List.mem_cons_of_mem _ hz)
      have e2 := V.int.inj e
      omega
  walk_at "gs"
  walk_at "gs"
  refine ⟨fun k σ H' => ∃ b : Nat, k = (m + 1 - b).toNat ∧ σ = [some (.ref r), some (.int m), some (.int b)] ∧ Same H H' ∧ (b = 0 → m ≤ 0), ⟨_, (if 0 < m then 1 else 0), rfl, ?_, s3, ?_⟩, ?_⟩
  · by_cases q : 0 < m
    · rw [decide_eq_true q, if_pos rfl, if_pos q]; rfl
    · rw [decide_eq_false q, if_neg q]; rfl
  · intro h
    by_cases q : 0 < m
    · rw [if_pos q] at h; omega
    · omega
  · rintro k σ H' ⟨b, rfl, rfl, s, hb⟩
    walk_at "gs"
    refine ite_dec (fun q1 => ?_) fun q1 => ?_
    · walk_at "gs"
      refine ite_dec (fun q2 => ?_) fun q2 => ?_
      · refine ⟨fun σ' H2 => ∃ b2 : Nat, b < b2 ∧ (b2 : Int) ≤ m ∧ σ' = [some (.ref r), some (.int m), some (.int b2)] ∧ Same H H2, ?_, ?_⟩
        · rintro σ' H2 ⟨b2, l1, l2, rfl, s'⟩
          exact ⟨_, by omega, b2, rfl, rfl, s', by omega⟩
        · walk_at "gs"
          exact ⟨2 * b, by omega, by omega, by simp, s⟩
      · walk_at "gs"
        exact hQ b H' s fun z => cz (hb z)
    · walk_at "gs"
      exact hQ b H' s fun z => cz (hb z)
/-! ### steps to the tos -/
def StV (kvs : List (Key × V)) (st : Nat → Option Nat) : Prop := ∀ v : Nat, valV kvs (.inl (v : Int)) = (st v).map fun x => V.int (x : Nat)
structure StepsOk (n : Nat) (cp : Nat → Nat → Nat) (g : Nat → Nat → Int) (F T : List Nat) (least : Int) (st : Nat → Option Nat) : Prop where
  lt : ∀ v, st v ≠ none → v < n
  zero : ∀ v, v ∈ T ↔ st v = some 0
  step : ∀ v d, st v = some (d + 1) → ∃ u, st u = some d ∧ u ∉ F ∧ cp v u ≠ 0 ∧ least ≤ (cp v u : Nat) - g v u
  closed : ∀ u v, st u ≠ none → u ∉ F → cp u v ≠ 0 → least ≤ (cp v u : Nat) - g v u → st v ≠ none
structure BfsC (n : Nat) (cp : Nat → Nat → Nat) (g : Nat → Nat → Int) (F T : List Nat) (least : Int) (st : Nat → Option Nat) (W : List Nat) : Prop where
  lt : ∀ v, st v ≠ none → v < n
  zero : ∀ v, v ∈ T ↔ st v = some 0
  step : ∀ v d, st v = some (d + 1) → ∃ u, st u = some d ∧ u ∉ F ∧ cp v u ≠ 0 ∧ least ≤ (cp v u : Nat) - g v u
  nd : W.Nodup
  mem : ∀ v, v ∈ W ↔ st v ≠ none ∧ v ∉ F
theorem BfsC.len {n : Nat} {cp : Nat → Nat → Nat} {g : Nat → Nat → Int} {F T : List Nat} {least : Int} {st : Nat → Option Nat} {W : List Nat} (h : BfsC n cp g F T least st W) : W.length ≤ n := by
  have := nodup_le (m := List.range n) h.nd fun x hx => List.mem_range.mpr (h.lt x ((h.mem x).mp hx).1)
  rw [List.length_range] at this
  exact this
def setSt (st : Nat → Option Nat) (o d : Nat) : Nat → Option Nat := fun v => if v = o then some d else st v
theorem setSt_ne {st : Nat → Option Nat} {o d v : Nat} (h : st v ≠ none) : setSt st o d v ≠ none := by
  unfold setSt
  split
  · exact fun z => by cases z
  · exact h
theorem BfsC.add {n : Nat} {cp : Nat → Nat → Nat} {g : Nat → Nat → Int} {F T : List Nat} {least : Int} {st : Nat → Option Nat} {W : List Nat} (h : BfsC n cp g F T least st W) {u o d : Nat} (hu : u ∈ W) (hd : st u = some d) (ho : st o = none) (on : o < n) (hc : cp o u ≠ 0)
    (hs : least ≤ (cp o u : Nat) - g o u) : BfsC n cp g F T least (setSt st o (d + 1)) (if o ∈ F then W else W ++ [o]) := by
  have ou : u ≠ o := fun z => by rw [z, ho] at hd; cases hd
  refine ⟨fun v hv => ?_, fun v => ?_, fun v e he => ?_, ?_, fun v => ?_⟩
  · unfold setSt at hv
    split at hv
    · omega
    · exact h.lt v hv
  · rw [h.zero]
    unfold setSt
    by_cases q : v = o
    · subst q
      rw [if_pos rfl, ho]
      constructor
      · intro z; cases z
      · intro z; cases z
    · rw [if_neg q]
  · unfold setSt at he
    by_cases q : v = o
    · subst q
      rw [if_pos rfl] at he
      have e1 : d = e := by simpa using he
      subst e1
      refine ⟨u, ?_, ((h.mem u).mp hu).2, hc, hs⟩
      unfold setSt
      rw [if_neg ou, hd]
    · rw [if_neg q] at he
      obtain ⟨w, h1, h2, h3, h4⟩ := h.step v e he
      refine ⟨w, ?_, h2, h3, h4⟩
      unfold setSt
      rw [if_neg (fun z => by rw [z, ho] at h1; cases h1), h1]
  · split
    · exact h.nd
    · rw [List.nodup_append]
      refine ⟨h.nd, by simp, fun x hx y hy => ?_⟩
      rw [List.mem_singleton] at hy
      subst hy
      exact fun z => ((h.mem x).mp hx).1 (by rw [z]; exact ho)
  · by_cases q : v = o
    · subst q
      have : setSt st v (d + 1) v ≠ none := by
        unfold setSt
        rw [if_pos rfl]
        exact fun z => by cases z
      split
      · rename_i hF
        rw [h.mem]
        exact ⟨fun z => absurd ho z.1, fun z => absurd hF z.2⟩
      · rename_i hF
        exact ⟨fun _ => ⟨this, hF⟩, fun _ => List.mem_append_right _ (by simp)⟩
    · have e : setSt st o (d + 1) v = st v := by
        unfold setSt
        rw [if_neg q]
      rw [e, ← h.mem]
      split
      · exact Iff.rfl
      · rw [List.mem_append, List.mem_singleton]
        exact ⟨fun z => z.elim id fun z => absurd z q, .inl⟩
theorem StV.put {kvs : List (Key × V)} {st : Nat → Option Nat} (h : StV kvs st) (o d : Nat) : StV (putK kvs (.inl (o : Int)) (.int (d : Nat))) (setSt st o d) := fun v => by
  rw [valV_put]
  unfold setSt
  by_cases q : v = o
  · subst q
    rw [if_pos rfl, if_pos rfl]
    rfl
  · rw [if_neg q, if_neg (fun z => q (by have := Sum.inl.inj z; omega))]
    exact h v
theorem merge_zero : ∀ (T : List Nat) (acc : List (Key × V)) (v : Nat), valV (mergeK acc (T.map fun t : Nat => ((.inl (t : Int) : Key), V.int 0))) (.inl (v : Int)) = if v ∈ T then some (.int 0) else valV acc (.inl (v : Int))
  | [], acc, v => by
    rw [if_neg (by simp)]
    rfl
  | t :: T, acc, v => by
    rw [List.map_cons]
    show valV (mergeK (putK acc (.inl (t : Int)) (V.int 0)) (T.map fun t : Nat => ((.inl (t : Int) : Key), V.int 0))) (.inl (v : Int)) = _
    rw [merge_zero T, valV_put]
    by_cases q : v ∈ T
    · rw [if_pos q, if_pos (List.mem_cons_of_mem _ q)]
    · rw [if_neg q]
      by_cases e : v = t
      · subst e
        rw [if_pos rfl, if_pos List.mem_cons_self]
      · rw [if_neg (fun z => e (by have := Sum.inl.inj z; omega)), if_neg (fun z => (List.mem_cons.mp z).elim e q)]
def sp_steps_to (K : PySem.W.Frag) (a b c d : V) (H : Hp) (Q : VK) : Prop := ∃ (r : Addr) (n : Nat) (cp : Nat → Nat → Nat) (nb : Nat → List Nat) (bd : Addr) (g : Nat → Nat → Int) (F T : List Nat) (least : Int), a = .ref r ∧ RmI K H r n cp nb bd ∧ BrI H bd n g ∧ EndsT K H b c F T ∧ Cs.Ends n F T ∧ d = .int least ∧
  ∀ p kvs st H1, Same H H1 → H1 p = some (.dK kvs) → StV kvs st → StepsOk n cp g F T least st → Q (.ref p) H1
theorem _root_.L2.Same.updFresh {H H' : Hp} {p : Addr} {o : HO} (s : Same H H') (n : H p = none) : Same H (upd H' p o) := fun b x e => by
  rw [upd_ne (ne_of_none e n)]
  exact s _ _ e
theorem pairPr0 {K : PySem.W.Frag} {H : Hp} : ∀ {ys : List V} {T : List Nat}, Paired (fun y (t : Nat) => ∃ p, y = V.ref p ∧ SqT K H p [.int t, .int 0]) ys T → ∃ ps : List Addr, ys = ps.map V.ref ∧ Paired (fun p (kv : Key × V) => SqT K H p [kV kv.1, kv.2]) ps (T.map fun t : Nat => ((.inl (t : Int) : Key), V.int 0))
  | _, _, .nil => ⟨[], rfl, .nil⟩
  | _, _, .cons h t => by
    obtain ⟨ps, e, q⟩ := pairPr0 t
    obtain ⟨p, rfl, hp⟩ := h
    exact ⟨p :: ps, by rw [e]; rfl, .cons hp q⟩
theorem But.sqTm {K : PySem.W.Frag} {H H' : Hp} {p a : Addr} {xs : List V} (s : But p H H') (m : Mut (H p)) (h : SqT K H a xs) : SqT K H' a xs := s.tupM m h
/-- turn k of the walk: what stands in the heap -/
def BfsH (K : PySem.W.Frag) (H : Hp) (n : Nat) (cp : Nat → Nat → Nat) (g : Nat → Nat → Int) (F T : List Nat) (least : Int) (dp wl : Addr) (a z : Nat) (st : Nat → Option Nat) (W : List Nat) (H' : Hp) : Prop :=
  Same H H' ∧ (∃ kvs, H' dp = some (.dK kvs) ∧ StV kvs st ∧ kvs.length ≤ z) ∧ H' wl = some (.lst (nv W)) ∧ BfsC n cp g F T least st W ∧
    ∀ k, k < a → ∀ u, W[k]? = some u → ∀ v, cp u v ≠ 0 → least ≤ (cp v u : Nat) - g v u → st v ≠ none
theorem get_if {W : List Nat} {o k u : Nat} {F : List Nat} (h : W[k]? = some u) : (if o ∈ F then W else W ++ [o])[k]? = some u := by
  split
  · exact h
  · rw [List.getElem?_append_left ((List.getElem?_eq_some_iff.mp h).1)]
    exact h
theorem get_if2 {W : List Nat} {o k u : Nat} {F : List Nat} (hk : k < W.length) (h : (if o ∈ F then W else W ++ [o])[k]? = some u) : W[k]? = some u := by
  split at h
  · exact h
  · rw [List.getElem?_append_left hk] at h
    exact h
theorem pure_steps_to {K : PySem.W.Frag} {mg : Str → Option Value} (E : En K mg) : ∀ vs H Q, u4 (sp_steps_to K) vs H Q → t_steps_to K (u3 (sp_Rooms_spare K)) { nx := fun _ H' => Q .non H', rt := Q } (L2.start ["rooms", "froms", "tos", "least", "steps", "waiting", "at", "place", "other"] vs) H := by
  rintro _ H Q ⟨_, _, _, _, rfl, r, n, cp, nb, bd, g, F, T, least, rfl, hr, hb, ⟨l, m, rfl, rfl, hF, hT⟩, ⟨rF, rT, nF, nT, dj⟩, rfl, hQ⟩
  obtain ⟨dx, wd, cl, kw, r1, r2, r3, r4, ⟨ls, r5, r6, r7⟩, C⟩ := id hr
  have hn := C.small
  have lT := rising_len rT
  unfold t_steps_to
  walk_at "st"
  walk_at "gs"
  refine ⟨m, rfl, ⟨_, hT⟩, lcT hT (fun _ => true) (fun _ i H y => ∃ t, T[i]? = some t ∧ ∃ p, y = V.ref p ∧ SqT K H p [.int t, .int 0]) (by rw [nv_len]; omega) ?_ ?_ ?_⟩
  · rintro D i H2 H3 v bu mu ⟨t, ht, p, rfl, hp⟩
    exact ⟨t, ht, p, rfl, bu.tupM mu hp⟩
  · intro D i x H2 N N' hx hD s2 mu q1 q2
    obtain ⟨t, ht, rfl⟩ := nv_get hx
    walk_at "gs"
    refine ⟨rfl, ?_⟩
    walk_at "gs"
    intro p np
    exact q1 rfl _ _ (sameNew np) ⟨t, ht, p, rfl, SqT.of upd_same⟩
  · intro D H2 ys hD s2 hy pr
    rw [nv_len] at pr
    have pr2 := paired_kept (p := fun _ => true) (S := fun y (t : Nat) => ∃ p, y = V.ref p ∧ SqT K H2 p [.int t, .int 0]) (fun _ _ _ => rfl) pr
    rw [filter_all] at pr2
    obtain ⟨ps, rfl, pr3⟩ := pairPr0 pr2
    walk_at "gs"
    refine ⟨D, ps, _, rfl, SqL.of hy, pr3, fun dp ndp => ?_⟩
    have s3 : Same H (upd H2 dp (.dK (mergeK [] (T.map fun t : Nat => ((.inl (t : Int) : Key), V.int 0))))) := s2.trans (sameNew ndp)
    have fdp := s2.free ndp
    walk_at "gs"
    refine ⟨m, nv T, rfl, .inr (s3.seqT hT), fun wl nwl => ?_⟩
    have fwl := s3.free nwl
    have ndw : dp ≠ wl := ne_of_none (upd_same (H := H2) (a := dp)) nwl
    walk_at "gs"
    have lm := length_mergeK (T.map fun t : Nat => ((.inl (t : Int) : Key), V.int 0)) []
    rw [List.length_map, List.length_nil] at lm
    refine ⟨fun k σ H' => ∃ (a : Nat) (y z : Option V) (st : Nat → Option Nat) (W : List Nat), k = n - a ∧ a ≤ W.length ∧ σ = [some (.ref r), some (.ref l), some (.ref m), some (.int least), some (.ref dp), some (.ref wl), some (.int a), y, z] ∧ BfsH K H n cp g F T least dp wl a (9 + 9 * a) st W H',
      ⟨_, 0, none, none, fun v => if v ∈ T then some 0 else none, T, rfl, Nat.zero_le _, rfl, s3.trans (sameNew nwl), ⟨_, by rw [upd_ne ndw]; exact upd_same, fun v => ?_, by omega⟩, upd_same, ⟨fun v hv => ?_, fun v => ?_, fun v d h => ?_, rT.1.imp fun h => Nat.ne_of_lt h, fun v => ?_⟩, fun k hk => absurd hk (Nat.not_lt_zero _)⟩, ?_⟩
    · rw [merge_zero]
      by_cases q : v ∈ T
      · simp only [if_pos q]; rfl
      · simp only [if_neg q]; rfl
    · by_cases q : v ∈ T
      · exact rT.2 v q
      · simp only [if_neg q] at hv; exact absurd rfl hv
    · by_cases q : v ∈ T
      · simp [q]
      · simp [q]
    · by_cases q : v ∈ T
      · simp only [if_pos q] at h; cases h
      · simp only [if_neg q] at h; cases h
    · by_cases q : v ∈ T
      · simp only [if_pos q]
        exact ⟨fun _ => ⟨fun z => (by cases z), fun z => dj v z q⟩, fun _ => q⟩
      · simp only [if_neg q]
        exact ⟨fun z => absurd z q, fun z => absurd rfl z.1⟩
    · rintro k σ H' ⟨a, y, z, st, W, rfl, ha, rfl, s, ⟨kvs, hd, hv, hlk⟩, hw, B, cz⟩
      have lW := B.len
      walk_at "gs"
      rw [nv_len]
      refine ite_dec (fun q1 => ?_) fun q1 => ?_
      · have haW : a < W.length := by omega
        obtain ⟨u, hu⟩ : ∃ u, W[a]? = some u := ⟨_, List.getElem?_eq_getElem haW⟩
        have huW := List.mem_of_getElem? hu
        obtain ⟨hu1, hu2⟩ := (B.mem u).mp huW
        have hun := B.lt u hu1
        obtain ⟨d, hd1⟩ : ∃ d, st u = some d := by
          cases e : st u with
          | none => exact absurd e hu1
          | some d => exact ⟨d, rfl⟩
        obtain ⟨lu, elu, hlu⟩ := r7 u hun
        have glu : (ls.map V.ref)[u]? = some (.ref lu) := by rw [List.getElem?_map, elu]; rfl
        have lnb := rising_len (C.up u hun)
        refine ⟨fun σ' H2 => ∃ (y z : Option V) (st : Nat → Option Nat) (W : List Nat), a + 1 ≤ W.length ∧ σ' = [some (.ref r), some (.ref l), some (.ref m), some (.int least), some (.ref dp), some (.ref wl), some (.int ((a + 1 : Nat) : Int)), y, z] ∧ BfsH K H n cp g F T least dp wl (a + 1) (9 + 9 * (a + 1)) st W H2, ?_, ?_⟩
        · rintro σ' H2 ⟨y, z, st, W, h1, rfl, h2⟩
          exact ⟨n - (a + 1), by omega, a + 1, y, z, st, W, rfl, h1, rfl, h2⟩
        · walk_at "gs"
          refine go_ixL (SqL.of hw) (atI_nat (nv_at hu)) ?_
          walk_at "gs"
          refine fR_close E (s _ _ r1) ?_
          walk_at "gs"
          refine go_ixL (SqL.of (s _ _ r5)) (atI_nat glu) ?_
          refine ⟨lu, rfl, ⟨_, SqL.of (s _ _ hlu)⟩, for_list (xs := nv (nb u)) (fun j σ H2 => ∃ (z : Option V) (st : Nat → Option Nat) (W : List Nat), σ = [some (.ref r), some (.ref l), some (.ref m), some (.int least), some (.ref dp), some (.ref wl), some (.int a), some (.int u), z] ∧ BfsH K H n cp g F T least dp wl a (9 + 9 * a + j) st W H2 ∧ W[a]? = some u ∧ st u = some d ∧
            ∀ i, i < j → ∀ o, (nb u)[i]? = some o → least ≤ (cp o u : Nat) - g o u → st o ≠ none) ⟨z, st, W, rfl, ⟨s, ⟨kvs, hd, hv, hlk⟩, hw, B, cz⟩, hu, hd1, fun i hi => absurd hi (Nat.not_lt_zero _)⟩ (fun j σ H2 _ p => ?_) ?_ ?_⟩
          · obtain ⟨z, st, W, _, h, _⟩ := p
            exact SqL.of (h.1 _ _ hlu)
          · rintro j x σ H2 hx ⟨z, st, W, rfl, ⟨s, ⟨kvs, hd, hv, hlk⟩, hw, B, cz⟩, hu, hd1, dn⟩
            obtain ⟨o, ho, rfl⟩ := nv_get hx
            have hj : j < (nb u).length := (List.getElem?_eq_some_iff.mp ho).1
            have hcu : cp u o ≠ 0 := (C.mem u o hun).mp (List.mem_of_getElem? ho)
            have hco : cp o u ≠ 0 := by rw [C.sym]; exact hcu
            obtain ⟨_, on, _⟩ := C.nz u o hcu
            have haW2 : a < W.length := (List.getElem?_eq_some_iff.mp hu).1
            walk_at "gs"
            refine ⟨dp, _, rfl, DGet.k (k := .inl (o : Int)) hd, ?_⟩
            rw [hv o]
            cases hst : st o with
            | some e =>
              walk_at "gs"
              refine ⟨_, st, W, rfl, ⟨s, ⟨kvs, hd, hv, by omega⟩, hw, B, cz⟩, hu, hd1, fun i hi o2 ho2 h => ?_⟩
              by_cases q : i = j
              · subst q
                rw [ho] at ho2
                cases ho2
                rw [hst]
                exact fun z => by cases z
              · exact dn i (by omega) o2 ho2 h
            | none =>
              simp only [Option.map_none, Option.isSome_none, Bool.not_false]
              walk_at "gs"
              refine rm_ins (s.rm hr) (fun _ _ _ => rfl) ?_
              walk_at "gs"
              refine ⟨r, n, cp, nb, bd, g, o, u, rfl, s.rm hr, s.br hb, rfl, rfl, fun H3 s3 => ?_⟩
              walk_at "gs"
              have sb := s.trans s3
              by_cases q : least ≤ (cp o u : Nat) - g o u
              · rw [decide_eq_true q]
                have hd3 := s3 _ _ hd
                have hw3 := s3 _ _ hw
                walk_at "gs"
                refine ⟨dp, .int d, rfl, ?_, ?_⟩
                · have := DGet.k (k := .inl (u : Int)) hd3
                  rw [hv u, hd1] at this
                  exact this
                walk_at "gs"
                have e1 : ((d : Nat) : Int) + 1 = ((d + 1 : Nat) : Int) := by omega
                rw [e1]
                refine ⟨dp, _, rfl, DPut.k (k := .inl (o : Int)) hd3 (by rw [sizeLine_eq]; omega), ?_⟩
                have hd4 : (upd H3 dp (.dK (putK kvs (.inl (o : Int)) (.int ((d + 1 : Nat) : Int))))) dp = some (.dK (putK kvs (.inl (o : Int)) (.int ((d + 1 : Nat) : Int)))) := upd_same
                have hw4 : (upd H3 dp (.dK (putK kvs (.inl (o : Int)) (.int ((d + 1 : Nat) : Int))))) wl = some (.lst (nv W)) := by rw [upd_ne ndw.symm]; exact hw3
                have s4 : Same H (upd H3 dp (.dK (putK kvs (.inl (o : Int)) (.int ((d + 1 : Nat) : Int))))) := sb.updFresh fdp
                generalize upd H3 dp (.dK (putK kvs (.inl (o : Int)) (.int ((d + 1 : Nat) : Int)))) = H4 at *
                have B2 := B.add (List.mem_of_getElem? hu) hd1 hst on hco q
                have lk2 := length_putK kvs (.inl (o : Int)) (.int ((d + 1 : Nat) : Int))
                have ed : setSt st o (d + 1) u = some d := by
                  unfold setSt
                  rw [if_neg (fun z => by rw [z, hst] at hd1; cases hd1), hd1]
                have fin : ∀ H5, Same H H5 → H5 dp = some (.dK (putK kvs (.inl (o : Int)) (.int ((d + 1 : Nat) : Int)))) → H5 wl = some (.lst (nv (if o ∈ F then W else W ++ [o]))) → ∃ (z : Option V) (st : Nat → Option Nat) (W : List Nat), [some (V.ref r), some (.ref l), some (.ref m), some (.int least), some (.ref dp), some (.ref wl), some (.int a), some (.int u), some (.int o)] = [some (V.ref r), some (.ref l), some (.ref m), some (.int least), some (.ref dp), some (.ref wl), some (.int a), some (.int u), z] ∧ BfsH K H n cp g F T least dp wl a (9 + 9 * a + (j + 1)) st W H5 ∧ W[a]? = some u ∧ st u = some d ∧
                    ∀ i, i < j + 1 → ∀ o, (nb u)[i]? = some o → least ≤ (cp o u : Nat) - g o u → st o ≠ none := fun H5 s5 h5 h6 => by
                  refine ⟨_, setSt st o (d + 1), _, rfl, ⟨s5, ⟨_, h5, hv.put o (d + 1), by omega⟩, h6, B2, fun k hk u2 hu2 v q1 q2 => setSt_ne (cz k hk u2 (get_if2 (by omega) hu2) v q1 q2)⟩, get_if hu, ed, fun i hi o2 ho2 h => ?_⟩
                  by_cases q : i = j
                  · subst q
                    rw [ho] at ho2
                    cases ho2
                    unfold setSt
                    rw [if_pos rfl]
                    exact fun z => by cases z
                  · exact setSt_ne (dn i (by omega) o2 ho2 h)
                walk_at "gs"
                refine go_notin (.inr (s4.seqT hF)) ?_
                walk_at "gs"
                by_cases oF : o ∈ F
                · rw [decide_eq_true oF]
                  walk_at "gs"
                  exact fin H4 s4 hd4 (by rw [if_pos oF]; exact hw4)
                · rw [decide_eq_false oF]
                  walk_at "gs"
                  refine ⟨.inl ⟨rfl, _, SqL.of hw4⟩, ?_⟩
                  walk_at "gs"
                  refine ⟨wl, nv W, .int o, rfl, rfl, hw4, by rw [nv_len, sizeLine_eq]; have := B.len; omega, ?_⟩
                  walk_at "gs"
                  exact fin _ (s4.updFresh fwl) (by rw [upd_ne ndw]; exact hd4) (by rw [upd_same, if_neg oF]; unfold nv; rw [List.map_append]; rfl)
              · rw [decide_eq_false q]
                walk_at "gs"
                refine ⟨_, st, W, rfl, ⟨sb, ⟨kvs, s3 _ _ hd, hv, by omega⟩, s3 _ _ hw, B, cz⟩, hu, hd1, fun i hi o2 ho2 h => ?_⟩
                by_cases q : i = j
                · subst q
                  rw [ho] at ho2
                  cases ho2
                  exact absurd h (by assumption)
                · exact dn i (by omega) o2 ho2 h
          · rintro σ H2 ⟨z, st, W, rfl, ⟨s, ⟨kvs, hd, hv, hlk⟩, hw, B, cz⟩, hu, hd1, dn⟩
            have haW2 : a < W.length := (List.getElem?_eq_some_iff.mp hu).1
            rw [nv_len] at hlk dn
            walk_at "gs"
            refine ⟨_, _, st, W, by omega, by rw [show ((a : Int) + 1) = ((a + 1 : Nat) : Int) by omega]; rfl, s, ⟨kvs, hd, hv, by omega⟩, hw, B, fun k hk u2 hu2 v q1 q2 => ?_⟩
            by_cases q : k = a
            · subst q
              rw [hu] at hu2
              cases hu2
              obtain ⟨i, hi⟩ := List.mem_iff_getElem?.mp ((C.mem u v hun).mpr q1)
              exact dn i (List.getElem?_eq_some_iff.mp hi).1 v hi q2
            · exact cz k (by omega) u2 hu2 v q1 q2
      · walk_at "gs"
        refine hQ dp kvs st H' s hd hv ⟨B.lt, B.zero, B.step, fun u v h1 h2 h3 h4 => ?_⟩
        obtain ⟨i, hi⟩ := List.mem_iff_getElem?.mp ((B.mem u).mpr ⟨h1, h2⟩)
        have := (List.getElem?_eq_some_iff.mp hi).1
        exact cz i (by omega) u hi v h3 h4
structure WayOk (n : Nat) (cp : Nat → Nat → Nat) (g : Nat → Nat → Int) (F T : List Nat) (least : Int) (way : List Nat) : Prop where
  two : 2 ≤ way.length
  nd : way.Nodup
  lt : ∀ x ∈ way, x < n
  fst : atN way 0 ∈ F
  lst : atN way (way.length - 1) ∈ T
  arc : ∀ k, k + 1 < way.length → least ≤ (cp (atN way k) (atN way (k + 1)) : Nat) - g (atN way k) (atN way (k + 1))
def sp_way_with (K : PySem.W.Frag) (a b c d : V) (H : Hp) (Q : VK) : Prop := ∃ (r : Addr) (n : Nat) (cp : Nat → Nat → Nat) (nb : Nat → List Nat) (bd : Addr) (g : Nat → Nat → Int) (F T : List Nat) (least : Int), a = .ref r ∧ RmI K H r n cp nb bd ∧ BrI H bd n g ∧ EndsT K H b c F T ∧ Cs.Ends n F T ∧ d = .int least ∧
  (∀ st H1, Same H H1 → StepsOk n cp g F T least st → (∀ v ∈ F, st v = none) → Q .non H1) ∧ ∀ p way H1, Same H H1 → H1 p = some (.tup (nv way)) → WayOk n cp g F T least way → Q (.ref p) H1
/-- a way up to z, steps known -/
structure WayC (n : Nat) (cp : Nat → Nat → Nat) (g : Nat → Nat → Int) (F : List Nat) (least : Int) (st : Nat → Option Nat) (pre : List Nat) (z d : Nat) : Prop where
  nd : (pre ++ [z]).Nodup
  lt : ∀ x ∈ pre ++ [z], x < n
  fst : atN (pre ++ [z]) 0 ∈ F
  arc : ∀ k, k + 1 < (pre ++ [z]).length → least ≤ (cp (atN (pre ++ [z]) k) (atN (pre ++ [z]) (k + 1)) : Nat) - g (atN (pre ++ [z]) k) (atN (pre ++ [z]) (k + 1))
  last : st z = some d
  up : ∀ x ∈ pre ++ [z], ∃ e, st x = some e ∧ d ≤ e
theorem atN_app {l : List Nat} {o k : Nat} (h : k < l.length) : atN (l ++ [o]) k = atN l k := by
  unfold atN
  rw [List.getD_eq_getElem?_getD, List.getElem?_append_left h, ← List.getD_eq_getElem?_getD]
theorem atN_last (l : List Nat) (o : Nat) : atN (l ++ [o]) l.length = o := by
  unfold atN
  rw [List.getD_eq_getElem?_getD, List.getElem?_append_right (Nat.le_refl _), Nat.sub_self]
  rfl
theorem WayC.add {n : Nat} {cp : Nat → Nat → Nat} {g : Nat → Nat → Int} {F : List Nat} {least : Int} {st : Nat → Option Nat} {pre : List Nat} {z d o : Nat} (h : WayC n cp g F least st pre z (d + 1)) (on : o < n) (ho : st o = some d)
    (ha : least ≤ (cp z o : Nat) - g z o) : WayC n cp g F least st (pre ++ [z]) o d := by
  refine ⟨?_, fun x hx => ?_, ?_, fun k hk => ?_, ho, fun x hx => ?_⟩
  · rw [List.nodup_append]
    refine ⟨h.nd, by simp, fun x hx y hy => ?_⟩
    rw [List.mem_singleton] at hy
    subst hy
    intro e
    obtain ⟨e', h1, h2⟩ := h.up x hx
    rw [e, ho] at h1
    have := Option.some.inj h1
    omega
  · rcases List.mem_append.mp hx with q | q
    · exact h.lt x q
    · rw [List.mem_singleton] at q
      omega
  · rw [atN_app (by simp)]
    exact h.fst
  · rw [List.length_append, List.length_singleton] at hk
    by_cases q : k + 1 < (pre ++ [z]).length
    · rw [atN_app (by omega), atN_app q]
      exact h.arc k q
    · have e1 : k + 1 = (pre ++ [z]).length := by omega
      have e2 : k = pre.length := by
        rw [List.length_append, List.length_singleton] at e1
        omega
      rw [e1, atN_last, atN_app (by omega), e2, atN_last]
      exact ha
  · rcases List.mem_append.mp hx with q | q
    · obtain ⟨e, h1, h2⟩ := h.up x q
      exact ⟨e, h1, by omega⟩
    · rw [List.mem_singleton] at q
      exact ⟨d, by rw [q]; exact ho, Nat.le_refl _⟩
theorem pure_way_with {K : PySem.W.Frag} {mg : Str → Option Value} (E : En K mg) : ∀ vs H Q, u4 (sp_way_with K) vs H Q → t_way_with K (u4 (sp_steps_to K)) (u3 (sp_Rooms_spare K)) { nx := fun _ H' => Q .non H', rt := Q } (L2.start ["rooms", "froms", "tos", "least", "steps", "begins", "fewest", "way", "left", "other", "fits", "place"] vs) H := by
  rintro _ H Q ⟨_, b, c, _, rfl, r, n, cp, nb, bd, g, F, T, least, rfl, hr, hb, hE, ok, rfl, hQ0, hQ⟩
  obtain ⟨rF, rT, nF, nT, dj⟩ := id ok
  obtain ⟨l, m, rfl, rfl, hF, hT⟩ := id hE
  obtain ⟨dx, wd, cl, kw, r1, r2, r3, r4, ⟨ls, r5, r6, r7⟩, C⟩ := id hr
  have hn := C.small
  have lF := rising_len rF
  unfold t_way_with
  walk_at "st"
  walk_at "gs"
  refine ⟨r, n, cp, nb, bd, g, F, T, least, rfl, hr, hb, hE, ok, rfl, fun dp kvs st H1 s1 hd hv S => ?_⟩
  walk_at "gs"
  refine ⟨l, rfl, ⟨_, s1.seqT hF⟩, lcT (s1.seqT hF) (fOf F fun x => (st x).isSome) (fun _ i H y => ∃ x, F[i]? = some x ∧ y = V.int (x : Nat)) (by rw [nv_len]; omega) (fun _ _ _ _ _ _ _ h => h) ?_ ?_⟩
  · intro D i x H2 N N' hx hD s2 mu q1 q2
    obtain ⟨z, hz, rfl⟩ := nv_get hx
    rw [fOf_at hz] at q1 q2
    walk_at "gs"
    refine ⟨rfl, ?_⟩
    walk_at "gs"
    refine ⟨dp, _, rfl, DGet.k (k := .inl (z : Int)) (s2 _ _ hd), ?_⟩
    rw [hv z]
    cases hst : st z with
    | some e =>
      rw [hst] at q1 q2
      simp only [Option.map_some, Option.isSome_some]
      walk_at "gs"
      exact q1 rfl _ H2 (Same.refl _) ⟨z, hz, rfl⟩
    | none =>
      rw [hst] at q1 q2
      simp only [Option.map_none, Option.isSome_none]
      walk_at "gs"
      exact q2 rfl H2 (Same.refl _)
  · intro D H2 ys hD s2 hy pr
    have e := kept_nv pr
    subst e
    have sB : ∀ x ∈ F.filter (fun x => (st x).isSome), x ∈ F ∧ ∃ d, st x = some d := fun x hx => by
      obtain ⟨h1, h2⟩ := List.mem_filter.mp hx
      exact ⟨h1, Option.isSome_iff_exists.mp h2⟩
    have lB : (F.filter (fun x => (st x).isSome)).length ≤ F.length := List.length_filter_le _ _
    have nB : F.filter (fun x => (st x).isSome) = [] → ∀ v ∈ F, st v = none := fun h v hv => by
      have := List.filter_eq_nil_iff.mp h v hv
      cases e : st v with
      | none => rfl
      | some d => rw [e] at this; exact absurd rfl this
    generalize F.filter (fun x => (st x).isSome) = B at *
    have sa := s1.trans s2
    walk_at "gs"
    intro p np
    have s3 : Same H2 (upd H2 p (.lst [])) := sameNew np
    refine go_eqL (ns := B.map fun x : Nat => (x : Int)) (ms := []) (SqL.of (by rw [s3 _ _ hy]; unfold nv; rw [List.map_map]; rfl)) (SqL.of upd_same) ?_
    walk_at "gs"
    have sb := sa.trans s3
    have hyb := s3 _ _ hy
    have hdb := s3 _ _ (s2 _ _ hd)
    generalize upd H2 p (.lst []) = H3 at *
    refine ite_dec (fun h => ?_) fun h => ?_
    · have hB : B = [] := List.map_eq_nil_iff.mp h
      walk_at "gs"
      exact hQ0 st H3 sb S (nB hB)
    · have hB : 0 < B.length := List.length_pos_iff.mpr fun z => h (by rw [z]; rfl)
      walk_at "gs"
      refine ⟨D, rfl, ⟨_, SqL.of hyb⟩, lcL (SqL.of hyb) (fun _ => true) (fun _ i H y => ∃ x, B[i]? = some x ∧ y = V.int (((st x).getD 0 : Nat) : Int)) (by rw [nv_len]; omega) (fun _ _ _ _ _ _ _ h => h) ?_ ?_⟩
      · intro D2 i x H4 N N' hx hD2 s4 mu q1 q2
        obtain ⟨z, hz, rfl⟩ := nv_get hx
        obtain ⟨_, e, he⟩ := sB z (List.mem_of_getElem? hz)
        walk_at "gs"
        refine ⟨rfl, ?_⟩
        walk_at "gs"
        refine ⟨dp, .int (e : Nat), rfl, ?_, ?_⟩
        · have := DGet.k (k := .inl (z : Int)) (s4 _ _ hdb)
          rw [hv z, he] at this
          exact this
        exact q1 rfl _ H4 (Same.refl _) ⟨z, hz, by rw [he]; rfl⟩
      · intro D2 H4 zs hD2 s4 hz pr2
        rw [nv_len] at pr2
        have pr3 := paired_kept (p := fun _ => true) (S := fun y (x : Nat) => y = V.int (((st x).getD 0 : Nat) : Int)) (fun _ _ _ => rfl) pr2
        rw [filter_all] at pr3
        have e := pairIntF pr3
        subst e
        walk_at "gs"
        refine ⟨D2, _, rfl, SqL.of hz, by rw [List.length_map]; exact hB, fun mn hmn hle => ?_⟩
        obtain ⟨x0, hx0, rfl⟩ := List.mem_map.mp hmn
        have sc := sb.trans s4
        have hyc := s4 _ _ hyb
        have hdc := s4 _ _ hdb
        walk_at "gs"
        refine ⟨D, rfl, ⟨_, SqL.of hyc⟩, lcL (SqL.of hyc) (fOf B fun x => decide ((((st x).getD 0 : Nat) : Int) = (((st x0).getD 0 : Nat) : Int))) (fun _ i H y => ∃ x, B[i]? = some x ∧ y = V.int (x : Nat)) (by rw [nv_len]; omega) (fun _ _ _ _ _ _ _ h => h) ?_ ?_⟩
        · intro D3 i x H5 N N' hx hD3 s5 mu q1 q2
          obtain ⟨z, hz, rfl⟩ := nv_get hx
          rw [fOf_at hz] at q1 q2
          obtain ⟨_, e, he⟩ := sB z (List.mem_of_getElem? hz)
          walk_at "gs"
          refine ⟨rfl, ?_⟩
          walk_at "gs"
          refine ⟨dp, .int (e : Nat), rfl, ?_, ?_⟩
          · have := DGet.k (k := .inl (z : Int)) (s5 _ _ hdc)
            rw [hv z, he] at this
            exact this
          walk_at "gs"
          rw [he] at q1 q2
          by_cases q : ((e : Nat) : Int) = (((st x0).getD 0 : Nat) : Int)
          · rw [decide_eq_true q]
            walk_at "gs"
            exact q1 (decide_eq_true q) _ H5 (Same.refl _) ⟨z, hz, rfl⟩
          · rw [decide_eq_false q]
            walk_at "gs"
            exact q2 (decide_eq_false q) H5 (Same.refl _)
        · intro D3 H5 ws hD3 s5 hw pr4
          have e := kept_nv pr4
          subst e
          have hx1 : x0 ∈ B.filter (fun x => decide ((((st x).getD 0 : Nat) : Int) = (((st x0).getD 0 : Nat) : Int))) := List.mem_filter.mpr ⟨hx0, decide_eq_true rfl⟩
          have hsub : ∀ x ∈ B.filter (fun x => decide ((((st x).getD 0 : Nat) : Int) = (((st x0).getD 0 : Nat) : Int))), x ∈ B := fun x hx => (List.mem_filter.mp hx).1
          generalize B.filter (fun x => decide ((((st x).getD 0 : Nat) : Int) = (((st x0).getD 0 : Nat) : Int))) = B2 at *
          walk_at "gs"
          refine ⟨D3, B2.map fun x : Nat => (x : Int), rfl, SqL.of (by rw [hw]; unfold nv; rw [List.map_map]; rfl), by rw [List.length_map]; exact List.length_pos_of_mem hx1, fun mn hmn hle => ?_⟩
          obtain ⟨p0, hp0, rfl⟩ := List.mem_map.mp hmn
          obtain ⟨pF, d0, hd0⟩ := sB p0 (hsub p0 hp0)
          have sd := sc.trans s5
          have hdd := s5 _ _ hdc
          walk_at "gs"
          intro wl nwl
          have fwl := sd.free nwl
          have ndw : dp ≠ wl := ne_of_none hdd nwl
          walk_at "gs"
          refine ⟨fun k σ H' => ∃ (y8 y9 y10 y11 : Option V) (pre : List Nat) (z : Nat), σ = [some (.ref r), some (.ref l), some (.ref m), some (.int least), some (.ref dp), some (.ref D), some (.int (((st x0).getD 0 : Nat) : Int)), some (.ref wl), y8, y9, y10, y11] ∧ Same H H' ∧ H' dp = some (.dK kvs) ∧ H' wl = some (.lst (nv (pre ++ [z]))) ∧ WayC n cp g F least st pre z k,
            ⟨d0, none, none, none, none, [], p0, rfl, sd.trans (sameNew nwl), by rw [upd_ne ndw]; exact hdd, upd_same, ⟨by simp, fun x hx => ?_, pF, fun k hk => ?_, hd0, fun x hx => ?_⟩⟩, ?_⟩
          · rw [List.nil_append, List.mem_singleton] at hx
            rw [hx]
            exact rF.2 p0 pF
          · simp at hk
          · rw [List.nil_append, List.mem_singleton] at hx
            exact ⟨d0, by rw [hx]; exact hd0, Nat.le_refl _⟩
          · rintro k σ H' ⟨y8, y9, y10, y11, pre, z, rfl, s, hd', hw', W⟩
            have nve : nv (pre ++ [z]) = nv pre ++ [V.int (z : Nat)] := by unfold nv; rw [List.map_append]; rfl
            have zn : z < n := W.lt z (by simp)
            have hat : atI (nv (pre ++ [z])) (-1) = some (V.int (z : Nat)) := by rw [nve]; exact atI_last _ _
            have hdz : DGet H' dp (.int (z : Nat)) (some (.int (k : Nat))) := by
              have := DGet.k (k := .inl (z : Int)) hd'
              rw [hv z, W.last] at this
              exact this
            walk_at "gs"
            refine go_ixL (SqL.of hw') hat ?_
            refine ⟨dp, _, rfl, hdz, ?_⟩
            walk_at "gs"
            refine ite_dec (fun hk => ?_) fun hk => ?_
            · obtain ⟨d, rfl⟩ : ∃ d, k = d + 1 := ⟨k - 1, by omega⟩
              obtain ⟨lz, elz, hlz⟩ := r7 z zn
              have glz : (ls.map V.ref)[z]? = some (.ref lz) := by rw [List.getElem?_map, elz]; rfl
              have lnb := rising_len (C.up z zn)
              refine ⟨fun σ H' => ∃ (y8 y9 y10 y11 : Option V) (pre : List Nat) (z : Nat), σ = [some (.ref r), some (.ref l), some (.ref m), some (.int least), some (.ref dp), some (.ref D), some (.int (((st x0).getD 0 : Nat) : Int)), some (.ref wl), y8, y9, y10, y11] ∧ Same H H' ∧ H' dp = some (.dK kvs) ∧ H' wl = some (.lst (nv (pre ++ [z]))) ∧ WayC n cp g F least st pre z d, fun σ' H2 h => ⟨d, by omega, h⟩, ?_⟩
              walk_at "gs"
              refine go_ixL (SqL.of hw') hat ?_
              refine ⟨dp, _, rfl, hdz, ?_⟩
              walk_at "gs"
              have e1 : ((d + 1 : Nat) : Int) - 1 = (d : Nat) := by omega
              rw [e1]
              refine fR_close E (s _ _ r1) ?_
              walk_at "gs"
              refine go_ixL (SqL.of hw') hat ?_
              refine go_ixL (SqL.of (s _ _ r5)) (atI_nat glz) ?_
              refine ⟨lz, rfl, ⟨_, SqL.of (s _ _ hlz)⟩, for_list (xs := nv (nb z)) (fun j σ H2 => (∃ (y9 y10 : Option V), σ = [some (.ref r), some (.ref l), some (.ref m), some (.int least), some (.ref dp), some (.ref D), some (.int (((st x0).getD 0 : Nat) : Int)), some (.ref wl), some (.int (d : Nat)), y9, y10, y11]) ∧ Same H H2 ∧ H2 dp = some (.dK kvs) ∧ H2 wl = some (.lst (nv (pre ++ [z]))) ∧
                ∀ i, i < j → ∀ o, (nb z)[i]? = some o → ¬ (st o = some d ∧ o ∉ F ∧ least ≤ (cp z o : Nat) - g z o)) ⟨⟨_, _, rfl⟩, s, hd', hw', fun i hi => absurd hi (Nat.not_lt_zero _)⟩ (fun j σ H2 _ p => SqL.of (p.2.1 _ _ hlz)) ?_ ?_⟩
              · rintro j x σ H2 hx ⟨⟨y9, y10, rfl⟩, s, hd', hw', dn⟩
                obtain ⟨o, ho, rfl⟩ := nv_get hx
                have hcz : cp z o ≠ 0 := (C.mem z o zn).mp (List.mem_of_getElem? ho)
                obtain ⟨_, on, _⟩ := C.nz z o hcz
                have goOn : ∀ H3 y10, Same H H3 → H3 dp = some (.dK kvs) → H3 wl = some (.lst (nv (pre ++ [z]))) → ¬ (st o = some d ∧ o ∉ F ∧ least ≤ (cp z o : Nat) - g z o) → (∃ (y9 y10' : Option V), [some (V.ref r), some (.ref l), some (.ref m), some (.int least), some (.ref dp), some (.ref D), some (.int (((st x0).getD 0 : Nat) : Int)), some (.ref wl), some (.int (d : Nat)), some (.int (o : Nat)), y10, y11] = [some (V.ref r), some (.ref l), some (.ref m), some (.int least), some (.ref dp), some (.ref D), some (.int (((st x0).getD 0 : Nat) : Int)), some (.ref wl), some (.int (d : Nat)), y9, y10', y11]) ∧ Same H H3 ∧ H3 dp = some (.dK kvs) ∧ H3 wl = some (.lst (nv (pre ++ [z]))) ∧
                    ∀ i, i < j + 1 → ∀ o, (nb z)[i]? = some o → ¬ (st o = some d ∧ o ∉ F ∧ least ≤ (cp z o : Nat) - g z o) := fun H3 y10 s3 h1 h2 h3 => by
                  refine ⟨⟨_, _, rfl⟩, s3, h1, h2, fun i hi o2 ho2 => ?_⟩
                  by_cases q : i = j
                  · subst q
                    rw [ho] at ho2
                    cases ho2
                    exact h3
                  · exact dn i (by omega) o2 ho2
                have hdo := DGet.k (k := .inl (o : Int)) hd'
                rw [hv o] at hdo
                walk_at "gs"
                refine ⟨dp, _, rfl, hdo, ?_⟩
                cases hst : st o with
                | none =>
                  simp only [Option.map_none, Option.isSome_none]
                  walk_at "gs"
                  exact goOn H2 _ s hd' hw' fun z => by rw [hst] at z; cases z.1
                | some e =>
                  rw [hst] at hdo
                  simp only [Option.map_some, Option.isSome_some]
                  walk_at "gs"
                  refine ⟨dp, .int (e : Nat), rfl, hdo, ?_⟩
                  walk_at "gs"
                  by_cases q : ((e : Nat) : Int) = (d : Nat)
                  · have qe : e = d := by omega
                    subst qe
                    rw [decide_eq_true q]
                    walk_at "gs"
                    refine go_notin (.inr (s.seqT hF)) ?_
                    walk_at "gs"
                    by_cases oF : o ∈ F
                    · rw [decide_eq_true oF]
                      walk_at "gs"
                      exact goOn H2 _ s hd' hw' fun z => z.2.1 oF
                    · rw [decide_eq_false oF]
                      walk_at "gs"
                      refine rm_ins (s.rm hr) (fun _ _ _ => rfl) ?_
                      walk_at "gs"
                      refine go_ixL (SqL.of hw') hat ?_
                      walk_at "gs"
                      refine ⟨r, n, cp, nb, bd, g, z, o, rfl, s.rm hr, s.br hb, rfl, rfl, fun H3 s3 => ?_⟩
                      walk_at "gs"
                      have sb3 := s.trans s3
                      have hd3 := s3 _ _ hd'
                      have hw3 := s3 _ _ hw'
                      by_cases q2 : least ≤ (cp z o : Nat) - g z o
                      · rw [decide_eq_true q2]
                        walk_at "gs"
                        refine ⟨.inl ⟨rfl, _, SqL.of hw3⟩, ?_⟩
                        walk_at "gs"
                        have lw : (pre ++ [z]).length ≤ n := by
                          have := nodup_le (m := List.range n) W.nd fun x hx => List.mem_range.mpr (W.lt x hx)
                          rw [List.length_range] at this
                          exact this
                        refine ⟨wl, nv (pre ++ [z]), .int (o : Nat), rfl, rfl, hw3, by rw [nv_len, sizeLine_eq]; omega, ?_⟩
                        dsimp only
                        refine go_break ?_
                        exact ⟨_, _, _, _, pre ++ [z], o, rfl, sb3.updFresh fwl, by rw [upd_ne ndw]; exact hd3, by rw [upd_same]; unfold nv; rw [List.map_append (l₁ := pre ++ [z])]; rfl, W.add on hst q2⟩
                      · rw [decide_eq_false q2]
                        walk_at "gs"
                        exact goOn H3 _ sb3 hd3 hw3 fun z => q2 z.2.2
                  · rw [decide_eq_false q]
                    walk_at "gs"
                    exact goOn H2 _ s hd' hw' fun z => q (by rw [hst] at z; have := Option.some.inj z.1; omega)
              · rintro σ H2 ⟨⟨y9, y10, rfl⟩, s, hd', hw', dn⟩
                rw [nv_len] at dn
                obtain ⟨u, h1, h2, h3, h4⟩ := S.step z d W.last
                obtain ⟨i, hi⟩ := List.mem_iff_getElem?.mp ((C.mem z u zn).mpr h3)
                exact absurd ⟨h1, h2, h4⟩ (dn i (List.getElem?_eq_some_iff.mp hi).1 u hi)
            · have k0 : k = 0 := by omega
              subst k0
              have zT : z ∈ T := (S.zero z).mpr W.last
              walk_at "gs"
              refine ⟨wl, _, rfl, .inl ⟨SqL.of hw', fun t nt => ?_⟩⟩
              refine hQ t (pre ++ [z]) _ (s.trans (sameNew nt)) upd_same ⟨?_, W.nd, W.lt, W.fst, ?_, W.arc⟩
              · cases pre with
                | nil =>
                  have := W.fst
                  exact absurd zT (dj z this)
                | cons y ys => rw [List.length_append, List.length_cons, List.length_singleton]; omega
              · rw [List.length_append, List.length_singleton, Nat.add_sub_cancel, atN_last]
                exact zT
/-! ### sums over places -/
def sm : Nat → (Nat → Int) → Int
  | 0, _ => 0
  | n + 1, f => sm n f + f n
theorem sm_congr {f g : Nat → Int} : ∀ {n : Nat}, (∀ i, i < n → f i = g i) → sm n f = sm n g
  | 0, _ => rfl
  | n + 1, h => by
    show sm n f + f n = sm n g + g n
    rw [sm_congr fun i hi => h i (by omega), h n (by omega)]
theorem sm_add (f g : Nat → Int) : ∀ n, sm n (fun i => f i + g i) = sm n f + sm n g
  | 0 => rfl
  | n + 1 => by
    show sm n (fun i => f i + g i) + (f n + g n) = sm n f + f n + (sm n g + g n)
    rw [sm_add f g n]; omega
theorem sm_neg (f : Nat → Int) : ∀ n, sm n (fun i => - f i) = - sm n f
  | 0 => rfl
  | n + 1 => by
    show sm n (fun i => - f i) + - f n = - (sm n f + f n)
    rw [sm_neg f n]; omega
theorem sm_zero : ∀ n, sm n (fun _ => 0) = 0
  | 0 => rfl
  | n + 1 => by
    show sm n (fun _ => 0) + 0 = 0
    rw [sm_zero n]; rfl
theorem sm_le {f g : Nat → Int} : ∀ {n : Nat}, (∀ i, i < n → f i ≤ g i) → sm n f ≤ sm n g
  | 0, _ => Int.le_refl _
  | n + 1, h => by
    show sm n f + f n ≤ sm n g + g n
    have := sm_le (n := n) fun i hi => h i (by omega)
    have := h n (by omega)
    omega
theorem sm_nonneg {f : Nat → Int} {n : Nat} (h : ∀ i, i < n → 0 ≤ f i) : 0 ≤ sm n f := by
  have := sm_le (f := fun _ => 0) (g := f) (n := n) h
  rw [sm_zero] at this
  exact this
theorem sm_one (k : Nat) (x : Int) : ∀ n, sm n (fun i => if i = k then x else 0) = if k < n then x else 0
  | 0 => by rw [if_neg (by omega)]; rfl
  | n + 1 => by
    show sm n (fun i => if i = k then x else 0) + (if n = k then x else 0) = _
    rw [sm_one k x n]
    by_cases h : n = k
    · subst h
      rw [if_neg (by omega), if_pos rfl, if_pos (by omega)]; omega
    · rw [if_neg h]
      by_cases q : k < n
      · rw [if_pos q, if_pos (by omega)]; omega
      · rw [if_neg q, if_neg (by omega)]; rfl
theorem sm_comm (f : Nat → Nat → Int) (m : Nat) : ∀ n, sm n (fun i => sm m (fun j => f i j)) = sm m (fun j => sm n (fun i => f i j))
  | 0 => by
    show 0 = sm m (fun j => 0)
    rw [sm_zero]
  | n + 1 => by
    show sm n (fun i => sm m (fun j => f i j)) + sm m (fun j => f n j) = sm m (fun j => sm n (fun i => f i j) + f n j)
    rw [sm_comm f m n, sm_add]
/-- sums over pairs -/
def ss (n : Nat) (f : Nat → Nat → Int) : Int := sm n fun i => sm n fun j => f i j
theorem ss_congr {n : Nat} {f g : Nat → Nat → Int} (h : ∀ i j, i < n → j < n → f i j = g i j) : ss n f = ss n g := sm_congr fun i hi => sm_congr fun j hj => h i j hi hj
theorem ss_add (n : Nat) (f g : Nat → Nat → Int) : ss n (fun i j => f i j + g i j) = ss n f + ss n g := by
  unfold ss
  rw [← sm_add]
  exact sm_congr fun i _ => sm_add _ _ _
theorem ss_neg (n : Nat) (f : Nat → Nat → Int) : ss n (fun i j => - f i j) = - ss n f := by
  unfold ss
  rw [← sm_neg]
  exact sm_congr fun i _ => sm_neg _ _
theorem ss_comm (n : Nat) (f : Nat → Nat → Int) : ss n f = ss n fun i j => f j i := sm_comm f n n
theorem ss_le {n : Nat} {f g : Nat → Nat → Int} (h : ∀ i j, i < n → j < n → f i j ≤ g i j) : ss n f ≤ ss n g := sm_le fun i hi => sm_le fun j hj => h i j hi hj
theorem ss_one {n a b : Nat} (x : Int) (ha : a < n) (hb : b < n) : ss n (fun i j => if i = a ∧ j = b then x else 0) = x := by
  unfold ss
  have : ∀ i, i < n → sm n (fun j => if i = a ∧ j = b then x else 0) = if i = a then x else 0 := fun i _ => by
    by_cases h : i = a
    · rw [if_pos h, sm_congr (g := fun j => if j = b then x else 0) fun j _ => by simp [h], sm_one, if_pos hb]
    · rw [if_neg h, sm_congr (g := fun _ => 0) fun j _ => by simp [h], sm_zero]
  rw [sm_congr this, sm_one, if_pos ha]
/-! ### flows as antisymmetric nets -/
def outN (n : Nat) (g : Nat → Nat → Int) (v : Nat) : Int := sm n (g v)
def wor (n : Nat) (g : Nat → Nat → Int) (F : List Nat) : Int := sm n fun v => if v ∈ F then outN n g v else 0
/-- what goes over from S -/
def cross (n : Nat) (g : Nat → Nat → Int) (S : Nat → Bool) : Int := ss n fun i j => if (S i && !S j) = true then g i j else 0
def capI (cp : Nat → Nat → Nat) : Nat → Nat → Int := fun i j => (cp i j : Nat)
structure GOk (n : Nat) (cp : Nat → Nat → Nat) (g : Nat → Nat → Int) (F T : List Nat) : Prop where
  anti : ∀ i j, g j i = - g i j
  le : ∀ i j, g i j ≤ (cp i j : Nat)
  cons : ∀ v, v < n → v ∉ F → v ∉ T → outN n g v = 0
theorem cross_eq {n : Nat} {g : Nat → Nat → Int} (anti : ∀ i j, g j i = - g i j) (S : Nat → Bool) : (sm n fun v => if S v = true then outN n g v else 0) = cross n g S := by
  have h0 : ss n (fun i j => if (S i && S j) = true then g i j else 0) = 0 := by
    have h1 := ss_comm n (fun i j => if (S i && S j) = true then g i j else 0)
    have h2 : ss n (fun i j => if (S j && S i) = true then g j i else 0) = ss n (fun i j => - (if (S i && S j) = true then g i j else 0)) := ss_congr fun i j _ _ => by
      rw [Bool.and_comm, anti i j]
      by_cases q : (S i && S j) = true
      · rw [if_pos q, if_pos q]
      · rw [if_neg q, if_neg q]; rfl
    rw [ss_neg] at h2
    have h3 := h1.trans h2
    omega
  have h1 : (sm n fun v => if S v = true then outN n g v else 0) = ss n fun i j => (if (S i && S j) = true then g i j else 0) + if (S i && !S j) = true then g i j else 0 := sm_congr fun i _ => by
    cases hi : S i with
    | true =>
      rw [if_pos rfl]
      exact sm_congr fun j _ => by cases hj : S j <;> simp [hi, hj]
    | false =>
      rw [if_neg (by decide)]
      rw [sm_congr (g := fun _ => 0) fun j _ => by simp [hi], sm_zero]
  rw [h1, ss_add, h0]
  unfold cross
  omega
theorem wor_cut {n : Nat} {cp : Nat → Nat → Nat} {g : Nat → Nat → Int} {F T : List Nat} (h : GOk n cp g F T) {S : Nat → Bool} (hF : ∀ v ∈ F, S v = true) (hT : ∀ v ∈ T, S v = false) : wor n g F = cross n g S := by
  rw [← cross_eq h.anti S]
  refine sm_congr fun v hv => ?_
  by_cases q : v ∈ F
  · rw [if_pos q, if_pos (hF v q)]
  · rw [if_neg q]
    by_cases q2 : S v = true
    · rw [if_pos q2, h.cons v hv q fun z => by rw [hT v z] at q2; cases q2]
    · rw [if_neg q2]
theorem wor_le {n : Nat} {cp : Nat → Nat → Nat} {g : Nat → Nat → Int} {F T : List Nat} (h : GOk n cp g F T) {S : Nat → Bool} (hF : ∀ v ∈ F, S v = true) (hT : ∀ v ∈ T, S v = false) : wor n g F ≤ cross n (capI cp) S := by
  rw [wor_cut h hF hT]
  refine ss_le fun i j _ _ => ?_
  split
  · exact h.le i j
  · exact Int.le_refl _
theorem wor_sat {n : Nat} {cp : Nat → Nat → Nat} {g : Nat → Nat → Int} {F T : List Nat} (h : GOk n cp g F T) {S : Nat → Bool} (hF : ∀ v ∈ F, S v = true) (hT : ∀ v ∈ T, S v = false) (sat : ∀ i j, i < n → j < n → S i = true → S j = false → g i j = (cp i j : Nat)) : wor n g F = cross n (capI cp) S := by
  rw [wor_cut h hF hT]
  refine ss_congr fun i j hi hj => ?_
  split
  · rename_i q
    rw [Bool.and_eq_true] at q
    exact sat i j hi hj q.1 (by simpa using q.2)
  · rfl
theorem wor_bd {n : Nat} {cp : Nat → Nat → Nat} {g : Nat → Nat → Int} {F T : List Nat} (h : GOk n cp g F T) (dj : ∀ x ∈ F, x ∉ T) : wor n g F ≤ cross n (capI cp) (fun v => decide (v ∈ F)) := wor_le h (fun v hv => decide_eq_true hv) fun v hv => decide_eq_false fun z => dj v z hv
theorem putG_at {g : Nat → Nat → Int} {i j : Nat} (x : Int) (ne : i ≠ j) (a b : Nat) : putG g i j x a b = g a b + (if a = i ∧ b = j then x else 0) - (if a = j ∧ b = i then x else 0) := by
  unfold putG
  by_cases e1 : a = i ∧ b = j
  · obtain ⟨rfl, rfl⟩ := e1
    rw [if_pos ⟨rfl, rfl⟩, if_pos ⟨rfl, rfl⟩, if_neg (by omega)]; omega
  · by_cases e2 : a = j ∧ b = i
    · obtain ⟨rfl, rfl⟩ := e2
      rw [if_neg (by omega), if_pos ⟨rfl, rfl⟩, if_neg (by omega), if_pos ⟨rfl, rfl⟩]; omega
    · rw [if_neg e1, if_neg e2, if_neg e1, if_neg e2]; omega
theorem putG_anti {g : Nat → Nat → Int} {i j : Nat} {x : Int} (ne : i ≠ j) (h : ∀ a b, g b a = - g a b) (a b : Nat) : putG g i j x b a = - putG g i j x a b := by
  rw [putG_at x ne, putG_at x ne, h a b]
  by_cases e1 : a = i ∧ b = j
  · rw [if_neg (show ¬ (b = i ∧ a = j) by omega), if_pos (show b = j ∧ a = i from ⟨e1.2, e1.1⟩), if_pos e1, if_neg (show ¬ (a = j ∧ b = i) by omega)]; omega
  · by_cases e2 : a = j ∧ b = i
    · rw [if_pos (show b = i ∧ a = j from ⟨e2.2, e2.1⟩), if_neg (show ¬ (b = j ∧ a = i) by omega), if_neg e1, if_pos e2]; omega
    · rw [if_neg (show ¬ (b = i ∧ a = j) by omega), if_neg (show ¬ (b = j ∧ a = i) by omega), if_neg e1, if_neg e2]; omega
theorem outN_put {n : Nat} {g : Nat → Nat → Int} {i j : Nat} {x : Int} (ne : i ≠ j) (hi : i < n) (hj : j < n) (v : Nat) : outN n (putG g i j x) v = outN n g v + (if v = i then x else 0) - (if v = j then x else 0) := by
  unfold outN
  have e : sm n (putG g i j x v) = sm n (fun b => (g v b + (if b = j then (if v = i then x else 0) else 0)) + - (if b = i then (if v = j then x else 0) else 0)) := sm_congr fun b _ => by
    rw [putG_at x ne]
    by_cases e1 : v = i
    · by_cases e2 : v = j
      · omega
      · by_cases e3 : b = j
        · rw [if_pos ⟨e1, e3⟩, if_neg (by omega), if_pos e3, if_pos e1, if_neg e2]; simp
        · rw [if_neg (by omega), if_neg (by omega), if_neg e3, if_neg e2]; simp
    · by_cases e2 : v = j
      · by_cases e3 : b = i
        · rw [if_neg (by omega), if_pos ⟨e2, e3⟩, if_neg e1, if_pos e3, if_pos e2]; simp; omega
        · rw [if_neg (by omega), if_neg (by omega), if_neg e1, if_neg e3]; simp
      · rw [if_neg (by omega), if_neg (by omega), if_neg e1, if_neg e2]; simp
  rw [e, sm_add, sm_add, sm_neg, sm_one, sm_one, if_pos hj, if_pos hi]
  omega
theorem carry_anti {g : Nat → Nat → Int} {w : Nat → Nat} {x : Int} (h : ∀ a b, g b a = - g a b) : ∀ k, (∀ t, t < k → w t ≠ w (t + 1)) → ∀ a b, carryK g w x k b a = - carryK g w x k a b
  | 0, _, a, b => h a b
  | k + 1, ne, a, b => putG_anti (ne k (by omega)) (carry_anti h k fun t ht => ne t (by omega)) a b
theorem carry_out {n : Nat} {g : Nat → Nat → Int} {w : Nat → Nat} {x : Int} : ∀ k, (∀ t, t < k → w t ≠ w (t + 1)) → (∀ t, t ≤ k → w t < n) → ∀ v, outN n (carryK g w x k) v = outN n g v + (if v = w 0 then x else 0) - (if v = w k then x else 0)
  | 0, _, _, v => by
    show outN n g v = _
    omega
  | k + 1, ne, lt, v => by
    show outN n (putG (carryK g w x k) (w k) (w (k + 1)) x) v = _
    rw [outN_put (ne k (by omega)) (lt k (by omega)) (lt (k + 1) (by omega)), carry_out k (fun t ht => ne t (by omega)) (fun t ht => lt t (by omega))]
    omega
theorem carry_off {g : Nat → Nat → Int} {w : Nat → Nat} {x : Int} {a b : Nat} : ∀ k, (∀ t, t < k → ¬ (a = w t ∧ b = w (t + 1)) ∧ ¬ (a = w (t + 1) ∧ b = w t)) → carryK g w x k a b = g a b
  | 0, _ => rfl
  | k + 1, h => by
    show putG (carryK g w x k) (w k) (w (k + 1)) x a b = _
    unfold putG
    rw [if_neg (h k (by omega)).1, if_neg (h k (by omega)).2]
    exact carry_off k fun t ht => h t (by omega)
theorem carry_le {cp : Nat → Nat → Nat} {g : Nat → Nat → Int} {w : Nat → Nat} {x : Int} {m : Nat} (x0 : 0 ≤ x) (h : ∀ a b, g a b ≤ (cp a b : Nat)) (inj : ∀ s t, s ≤ m → t ≤ m → w s = w t → s = t) (ha : ∀ t, t < m → x ≤ (cp (w t) (w (t + 1)) : Nat) - g (w t) (w (t + 1))) :
    ∀ k, k ≤ m → ∀ a b, carryK g w x k a b ≤ (cp a b : Nat)
  | 0, _, a, b => h a b
  | k + 1, hk, a, b => by
    have ih := carry_le x0 h inj ha k (by omega)
    show putG (carryK g w x k) (w k) (w (k + 1)) x a b ≤ _
    unfold putG
    split
    · rename_i e
      rw [e.1, e.2, carry_off k fun t ht => ⟨fun z => by have := inj k t (by omega) (by omega) z.1; omega, fun z => by have := inj k (t + 1) (by omega) (by omega) z.1; have := inj (k + 1) t (by omega) (by omega) z.2; omega⟩]
      have := ha k (by omega)
      omega
    · split
      · rename_i e
        have := ih (w (k + 1)) (w k)
        rw [e.1, e.2]
        omega
      · exact ih a b
theorem atN_inj {way : List Nat} (nd : way.Nodup) {s t : Nat} (hs : s < way.length) (ht : t < way.length) (h : atN way s = atN way t) : s = t := by
  unfold atN at h
  rw [List.getD_eq_getElem?_getD, List.getD_eq_getElem?_getD, List.getElem?_eq_getElem hs, List.getElem?_eq_getElem ht] at h
  exact (List.getElem_inj nd).mp h
theorem WayOk.inn {n : Nat} {cp : Nat → Nat → Nat} {g : Nat → Nat → Int} {F T : List Nat} {least : Int} {way : List Nat} (h : WayOk n cp g F T least way) : WayIn n way :=
  ⟨h.lt, fun k hk z => by have := atN_inj h.nd (by omega) hk z; omega⟩
theorem GOk.carry {n : Nat} {cp : Nat → Nat → Nat} {g : Nat → Nat → Int} {F T : List Nat} {least x : Int} {way : List Nat} (G : GOk n cp g F T) (W : WayOk n cp g F T least way) (dj : ∀ v ∈ F, v ∉ T) (x0 : 0 ≤ x) (ha : ∀ k, k + 1 < way.length → x ≤ (cp (atN way k) (atN way (k + 1)) : Nat) - g (atN way k) (atN way (k + 1))) :
    GOk n cp (carryK g (atN way) x (way.length - 1)) F T ∧ wor n (carryK g (atN way) x (way.length - 1)) F = wor n g F + x := by
  have l2 := W.two
  have ne : ∀ t, t < way.length - 1 → atN way t ≠ atN way (t + 1) := fun t ht => W.inn.2 t (by omega)
  have lt : ∀ t, t ≤ way.length - 1 → atN way t < n := fun t ht => W.lt _ (atN_mem (by omega))
  refine ⟨⟨carry_anti G.anti _ ne, fun a b => carry_le x0 G.le (fun s t hs ht z => atN_inj W.nd (by omega) (by omega) z) (fun t ht => ha t (by omega)) _ (Nat.le_refl _) a b, fun v hv h1 h2 => ?_⟩, ?_⟩
  · rw [carry_out _ ne lt, G.cons v hv h1 h2, if_neg (fun z => h1 (by rw [z]; exact W.fst)), if_neg (fun z => h2 (by rw [z]; exact W.lst))]
    rfl
  · unfold wor
    have e : ∀ v, v < n → (if v ∈ F then outN n (carryK g (atN way) x (way.length - 1)) v else 0) = (if v ∈ F then outN n g v else 0) + (if v = atN way 0 then x else 0) := fun v hv => by
      rw [carry_out _ ne lt]
      by_cases q : v ∈ F
      · rw [if_pos q, if_pos q, if_neg (c := v = atN way (way.length - 1)) (fun z => dj v q (by rw [z]; exact W.lst))]
        omega
      · rw [if_neg q, if_neg q, if_neg (fun z => q (by rw [z]; exact W.fst))]
        rfl
    rw [sm_congr e, sm_add, sm_one, if_pos (lt 0 (by omega))]
/-- a cut over which less than least more could be brought -/
def CutAt (n : Nat) (cp : Nat → Nat → Nat) (g : Nat → Nat → Int) (F T : List Nat) (least : Int) : Prop := ∃ S : Nat → Bool, (∀ v ∈ F, S v = true) ∧ (∀ v ∈ T, S v = false) ∧ ∀ i j, i < n → j < n → S i = true → S j = false → (cp i j : Nat) - g i j < least
theorem cut_of {n : Nat} {cp : Nat → Nat → Nat} {nb : Nat → List Nat} {g : Nat → Nat → Int} {F T : List Nat} {least : Int} {st : Nat → Option Nat} (C : Caps n cp nb) (G : GOk n cp g F T) (S : StepsOk n cp g F T least st) (h : ∀ v ∈ F, st v = none) (l1 : 1 ≤ least) : CutAt n cp g F T least := by
  refine ⟨fun v => (st v).isNone, fun v hv => by simp only [h v hv]; rfl, fun v hv => by simp only [(S.zero v).mp hv]; rfl, fun i j hi hj si sj => ?_⟩
  have s1 : st i = none := by simpa using si
  have s2 : st j ≠ none := fun z => by simp only [z] at sj; cases sj
  rcases Int.lt_or_le ((cp i j : Nat) - g i j) least with q | q
  · exact q
  · have jF : j ∉ F := fun z => s2 (h j z)
    by_cases c0 : cp j i = 0
    · have a := G.anti i j
      have b := G.le j i
      have c1 := C.sym i j
      omega
    · exact absurd s1 (S.closed j i s2 jF c0 q)
def sp_filled (K : PySem.W.Frag) (a b c d : V) (H : Hp) (Q : VK) : Prop := ∃ (r : Addr) (n : Nat) (cp : Nat → Nat → Nat) (nb : Nat → List Nat) (bd : Addr) (g : Nat → Nat → Int) (F T : List Nat) (least : Int), a = .ref r ∧ RmI K H r n cp nb bd ∧ BrI H bd n g ∧ EndsT K H b c F T ∧ Cs.Ends n F T ∧ d = .int least ∧ 1 ≤ least ∧ GOk n cp g F T ∧
  ∀ (w : Int) g' H1, But bd H H1 → BrI H1 bd n g' → GOk n cp g' F T → CutAt n cp g' F T least → Q (.int w) H1
theorem But.endsT {K : PySem.W.Frag} {H H' : Hp} {bd : Addr} {n : Nat} {g : Nat → Nat → Int} {b c : V} {F T : List Nat} (s : But bd H H') (hb : BrI H bd n g) (h : EndsT K H b c F T) : EndsT K H' b c F T := by
  obtain ⟨l, m, e1, e2, h1, h2⟩ := h
  exact ⟨l, m, e1, e2, s.sqT hb h1, s.sqT hb h2⟩
theorem rm_caps {K : PySem.W.Frag} {H : Hp} {r : Addr} {n : Nat} {c : Nat → Nat → Nat} {nb : Nat → List Nat} {bd : Addr} (h : RmI K H r n c nb bd) : Caps n c nb := by
  obtain ⟨_, _, _, _, _, _, _, _, _, C⟩ := h
  exact C
theorem pure_filled {K : PySem.W.Frag} : ∀ vs H Q, u4 (sp_filled K) vs H Q → t_filled K (u4 (sp_way_with K)) (u3 (sp_Rooms_carry K)) (u2 (sp_Rooms_least_room K)) { nx := fun _ H' => Q .non H', rt := Q } (L2.start ["rooms", "froms", "tos", "least", "ways", "way"] vs) H := by
  rintro _ H Q ⟨_, b, c, _, rfl, r, n, cp, nb, bd, g, F, T, least, rfl, hr, hb, hE, ok, rfl, l1, G, hQ⟩
  have C := rm_caps hr
  have dj := ok.2.2.2.2
  have Bd := fun g' (G' : GOk n cp g' F T) => wor_bd G' dj
  generalize cross n (capI cp) (fun v => decide (v ∈ F)) = B at Bd
  -- what a new way gives
  have turn : ∀ (w : Int) g' H', But bd H H' → BrI H' bd n g' → GOk n cp g' F T → ∀ R : V → Hp → Prop,
      (∀ v H2, But bd H H2 → BrI H2 bd n g' → ((v = .non ∧ CutAt n cp g' F T least) ∨ ∃ p way, v = .ref p ∧ H2 p = some (.tup (nv way)) ∧ WayOk n cp g' F T least way) → R v H2) → sp_way_with K (.ref r) b c (.int least) H' R := fun w g' H' bu hb' G' R hR =>
    ⟨r, n, cp, nb, bd, g', F, T, least, rfl, bu.rm hb hr, hb', bu.endsT hb hE, ok, rfl, fun st H2 s S hF => hR _ _ (bu.trans s.but) (s.br hb') (.inl ⟨rfl, cut_of C G' S hF l1⟩), fun p way H2 s hp W => hR _ _ (bu.trans s.but) (s.br hb') (.inr ⟨p, way, rfl, hp, W⟩)⟩
  unfold t_filled
  walk_at "st"
  walk_at "gs"
  refine turn 0 g H (fun _ _ _ h => h) hb G _ fun v H1 b1 hb1 hv => ?_
  walk_at "gs"
  refine ⟨fun k σ H' => ∃ (w : Int) (v : V) (g' : Nat → Nat → Int), k = (B - wor n g' F).toNat ∧ σ = [some (.ref r), some b, some c, some (.int least), some (.int w), some v] ∧ But bd H H' ∧ BrI H' bd n g' ∧ GOk n cp g' F T ∧ ((v = .non ∧ CutAt n cp g' F T least) ∨ ∃ p way, v = .ref p ∧ H' p = some (.tup (nv way)) ∧ WayOk n cp g' F T least way),
    ⟨_, 0, v, g, rfl, rfl, b1, hb1, G, hv⟩, ?_⟩
  rintro k σ H' ⟨w, v, g', rfl, rfl, bu, hb', G', hv⟩
  walk_at "gs"
  rcases hv with ⟨rfl, cut⟩ | ⟨p, way, rfl, hp, W⟩
  · rw [decide_eq_true rfl]
    walk_at "gs"
    exact hQ w g' H' bu hb' G' cut
  · rw [decide_eq_false (by intro z; cases z)]
    walk_at "gs"
    have hr' := bu.rm hb hr
    have lw : way.length ≤ n := by
      have := nodup_le (m := List.range n) W.nd fun x hx => List.mem_range.mpr (W.lt x hx)
      rw [List.length_range] at this
      exact this
    have hn := C.small
    refine ⟨fun σ' H2 => ∃ (w : Int) (v : V) (g2 : Nat → Nat → Int), wor n g' F < wor n g2 F ∧ σ' = [some (.ref r), some b, some c, some (.int least), some (.int w), some v] ∧ But bd H H2 ∧ BrI H2 bd n g2 ∧ GOk n cp g2 F T ∧ ((v = .non ∧ CutAt n cp g2 F T least) ∨ ∃ p way, v = .ref p ∧ H2 p = some (.tup (nv way)) ∧ WayOk n cp g2 F T least way), ?_, ?_⟩
    · rintro σ' H2 ⟨w2, v2, g2, lt, rfl, h1, h2, h3, h4⟩
      have := Bd g2 h3
      exact ⟨_, by omega, w2, v2, g2, rfl, rfl, h1, h2, h3, h4⟩
    · walk_at "gs"
      refine rm_ins hr' (fun _ _ _ => rfl) ?_
      walk_at "gs"
      refine rm_ins hr' (fun _ _ _ => rfl) ?_
      walk_at "gs"
      refine ⟨r, n, cp, nb, bd, g', p, way, rfl, hr', hb', rfl, SqT.of hp, W.two, by omega, fun x H2 s2 hx hxe => ?_⟩
      have x1 : 1 ≤ x := by
        obtain ⟨k, hk, rfl⟩ := hxe
        have := W.arc k hk
        omega
      walk_at "gs"
      refine ⟨r, n, cp, nb, bd, g', p, way, x, rfl, s2.rm hr', s2.br hb', rfl, SqT.of (s2 _ _ hp), W.two, by omega, W.inn, rfl, fun H3 b3 hb3 => ?_⟩
      obtain ⟨G3, w3⟩ := G'.carry W dj (by omega) hx
      walk_at "gs"
      refine turn 0 _ H3 ((bu.trans s2.but).trans b3) hb3 G3 _ fun v4 H4 b4 hb4 hv4 => ?_
      walk_at "gs"
      exact ⟨w + 1, v4, _, by omega, rfl, b4, hb4, G3, hv4⟩
/-- a greatest flow: some cut is filled -/
structure MaxG (n : Nat) (cp : Nat → Nat → Nat) (F T : List Nat) (g : Nat → Nat → Int) : Prop where
  ok : GOk n cp g F T
  cut : CutAt n cp g F T 1
def sp_shortest_flow (K : PySem.W.Frag) (a b c : V) (H : Hp) (Q : VK) : Prop := ∃ (w : Addr) (n : Nat) (es : List Tie) (F T : List Nat), a = .ref w ∧ WebI K H w n es ∧ EsOk n es ∧ EndsT K H b c F T ∧ Cs.Ends n F T ∧
  ∀ p v x fl g H1, Same H H1 → H1 p = some (.tup [v, x]) → FlowT K H1 v fl → FlowOf n g fl → MaxG n (tieW es) F T g → Q (.ref p) H1
theorem g0_ok {n : Nat} {cp : Nat → Nat → Nat} {F T : List Nat} : GOk n cp (fun _ _ => 0) F T := ⟨fun _ _ => rfl, fun _ _ => Int.natCast_nonneg _, fun v _ _ _ => sm_zero n⟩
theorem rm_ins0 {K : PySem.W.Frag} {H : Hp} {r : Addr} {n : Nat} {c : Nat → Nat → Nat} {nb : Nat → List Nat} {bd : Addr} (h : RmI K H r n c nb bd) : True := trivial
theorem pure_shortest_flow {K : PySem.W.Frag} : ∀ vs H Q, u3 (sp_shortest_flow K) vs H Q → t_shortest_flow K (u3 (sp_are_ends K)) (u2 (sp_rooms_of K)) (u4 (sp_filled K)) (u1 (sp_Rooms_flow K)) { nx := fun _ H' => Q .non H', rt := Q } (L2.start ["web", "froms", "tos", "rooms", "ways"] vs) H := by
  rintro _ H Q ⟨_, b, c, rfl, w, n, es, F, T, rfl, hw, eo, hE, ok, hQ⟩
  have hn := eo.small
  unfold t_shortest_flow
  walk_at "st"
  walk_at "gs"
  refine ⟨w, n, es, F, T, rfl, hw, by omega, hE, ok, fun H1 s1 => ?_⟩
  walk_at "gs"
  intro p np
  walk_at "gs"
  have s2 := s1.trans (sameNew (o := .tup []) np)
  refine ⟨w, n, es, p, rfl, s2.web hw, eo, rfl, SqT.of upd_same, fun H2 r nb bd s3 nbd hr hb => ?_⟩
  have s4 := s2.trans s3
  have fbd := s2.free nbd
  walk_at "gs"
  refine ⟨r, n, tieW es, nb, bd, _, F, T, 1, rfl, hr, hb, s4.endsT hE, ok, rfl, by omega, g0_ok, fun x g' H3 b3 hb3 G C => ?_⟩
  have s5 : Same H H3 := b3.same s4 fbd
  have hr3 := b3.rm hb hr
  walk_at "gs"
  refine rm_ins hr3 (fun _ _ _ => rfl) ?_
  walk_at "gs"
  refine ⟨r, n, tieW es, nb, bd, g', rfl, hr3, hb3, fun v fl H4 s6 hf fo => ?_⟩
  walk_at "gs"
  intro t nt
  walk_at "gs"
  have s7 : Same H4 (upd H4 t (.tup [v, .int x])) := sameNew nt
  exact hQ _ v (.int x) fl g' _ ((s5.trans s6).trans s7) upd_same (s7.flowT hf) fo ⟨G, C⟩
theorem pure_halved_flow {K : PySem.W.Frag} : ∀ vs H Q, u3 (sp_shortest_flow K) vs H Q → t_halved_flow K (u3 (sp_are_ends K)) (u2 (sp_Rooms_init K)) (u1 (sp_first_bound K)) (u4 (sp_filled K)) (u1 (sp_Rooms_flow K)) { nx := fun _ H' => Q .non H', rt := Q } (L2.start ["web", "froms", "tos", "rooms", "bound", "ways"] vs) H := by
  rintro _ H Q ⟨_, b, c, rfl, w, n, es, F, T, rfl, hw, eo, hE, ok, hQ⟩
  have hn := eo.small
  unfold t_halved_flow
  walk_at "st"
  walk_at "gs"
  refine ⟨w, n, es, F, T, rfl, hw, by omega, hE, ok, fun H1 s1 => ?_⟩
  walk_at "gs"
  walk_at "gs"
  intro r dx nr ndx nee
  walk_at "gs"
  have s2 : Same H1 (upd (upd H1 dx (.own r)) r (.ins (He.ga K "Rooms") dx [])) := sameMk nr ndx
  refine ⟨r, dx, w, n, es, rfl, upd_same, rfl, (s1.trans s2).web hw, eo, fun H2 nb bd bu nbd hr hb => ⟨rfl, ?_⟩⟩
  have s4 : Same H H2 := s1.trans (bu.same s2 nr)
  have fbd : H bd = none := (s1.trans s2).free nbd
  generalize upd (upd H1 dx (.own r)) r (.ins (He.ga K "Rooms") dx []) = H0 at *
  have C := rm_caps hr
  walk_at "gs"
  refine ⟨r, n, tieW es, nb, bd, rfl, hr, fun bo H3 s3 hz => ?_⟩
  have s5 := s4.trans s3
  have hr3 := s3.rm hr
  have hb3 := s3.br hb
  walk_at "gs"
  refine ⟨fun k σ H' => ∃ (ways : Int) (g : Nat → Nat → Int), σ = [some (.ref w), some b, some c, some (.ref r), some (.int (k : Nat)), some (.int ways)] ∧ But bd H3 H' ∧ BrI H' bd n g ∧ GOk n (tieW es) g F T ∧ (k = 0 → CutAt n (tieW es) g F T 1), ⟨bo, 0, _, rfl, (fun _ _ _ h => h), hb3, g0_ok, fun h0 => ⟨fun v => decide (v ∈ F), fun v hv => decide_eq_true hv, fun v hv => decide_eq_false fun z => ok.2.2.2.2 v z hv, fun i j _ _ _ _ => by rw [hz h0]; exact Int.zero_lt_one⟩⟩, ?_⟩
  rintro k σ H' ⟨ways, g, rfl, bu', hb', G, cz⟩
  have hr' := bu'.rm hb3 hr3
  have sH : Same H H' := bu'.same s5 fbd
  walk_at "gs"
  refine ite_dec (fun hk => ?_) fun hk => ?_
  · refine ⟨fun σ H' => ∃ (ways : Int) (g : Nat → Nat → Int), σ = [some (.ref w), some b, some c, some (.ref r), some (.int ((k / 2 : Nat) : Int)), some (.int ways)] ∧ But bd H3 H' ∧ BrI H' bd n g ∧ GOk n (tieW es) g F T ∧ (k / 2 = 0 → CutAt n (tieW es) g F T 1), fun σ' H2 h => ⟨k / 2, by omega, h⟩, ?_⟩
    walk_at "gs"
    refine ⟨r, n, tieW es, nb, bd, g, F, T, k, rfl, hr', hb', sH.endsT hE, ok, rfl, by omega, G, fun x g2 H4 b4 hb4 G4 C4 => ?_⟩
    walk_at "gs"
    · exact ⟨by omega, by decide⟩
    walk_at "gs"
    refine ⟨ways + x, g2, ?_, bu'.trans b4, hb4, G4, fun h0 => ?_⟩
    · rfl
    · have k1 : k = 1 := by omega
      subst k1
      exact C4
  · have k0 : k = 0 := by omega
    subst k0
    walk_at "gs"
    refine rm_ins hr' (fun _ _ _ => rfl) ?_
    walk_at "gs"
    refine ⟨r, n, tieW es, nb, bd, g, rfl, hr', hb', fun v fl H4 s6 hf fo => ?_⟩
    walk_at "gs"
    intro t nt
    walk_at "gs"
    have s7 : Same H4 (upd H4 t (.tup [v, .int ways])) := sameNew nt
    exact hQ _ v (.int ways) fl g _ ((sH.trans s6).trans s7) upd_same (s7.flowT hf) fo ⟨G, cz rfl⟩
/-! ### pushing: heights -/
def pushE (e : Nat → Int) (i j : Nat) (x : Int) : Nat → Int := fun v => e v - (if v = i then x else 0) + (if v = j then x else 0)
structure PInv (n : Nat) (cp : Nat → Nat → Nat) (F T : List Nat) (g : Nat → Nat → Int) (h : Nat → Nat) (e : Nat → Int) : Prop where
  anti : ∀ i j, g j i = - g i j
  le : ∀ i j, g i j ≤ (cp i j : Nat)
  net : ∀ v, v < n → e v = - outN n g v
  pos : ∀ v, v < n → v ∉ F → 0 ≤ e v
  lab : ∀ u v, u < n → v < n → 0 < (cp u v : Nat) - g u v → h u ≤ h v + 1
  hF : ∀ v ∈ F, h v = n
  hT : ∀ v ∈ T, h v = 0
theorem PInv.push {n : Nat} {cp : Nat → Nat → Nat} {F T : List Nat} {g : Nat → Nat → Int} {h : Nat → Nat} {e : Nat → Int} (P : PInv n cp F T g h e) {i j : Nat} {x : Int} (hi : i < n) (hj : j < n) (ne : i ≠ j) (iF : i ∉ F) (x0 : 0 ≤ x) (xs : x ≤ (cp i j : Nat) - g i j) (xe : x ≤ e i) (ad : h i = h j + 1) :
    PInv n cp F T (putG g i j x) h (pushE e i j x) := by
  refine ⟨putG_anti ne P.anti, fun a b => ?_, fun v hv => ?_, fun v hv vF => ?_, fun u v hu hv hs => ?_, P.hF, P.hT⟩
  · have := P.le a b
    unfold putG
    split
    · rename_i q; rw [q.1, q.2]; omega
    · split
      · rename_i q
        have := P.le j i
        rw [q.1, q.2]; omega
      · exact this
  · unfold pushE
    rw [outN_put ne hi hj, P.net v hv]
    omega
  · have := P.pos v hv vF
    unfold pushE
    by_cases q : v = i
    · subst q
      rw [if_pos rfl, if_neg ne]; omega
    · rw [if_neg q]
      split <;> omega
  · by_cases q : u = j ∧ v = i
    · rw [q.1, q.2]; omega
    · refine P.lab u v hu hv ?_
      rw [putG_at x ne, if_neg q] at hs
      split at hs
      · rename_i q2; rw [q2.1, q2.2] at *; omega
      · omega
theorem PInv.noarc {n : Nat} {cp : Nat → Nat → Nat} {nb : Nat → List Nat} {F T : List Nat} {g : Nat → Nat → Int} {h : Nat → Nat} {e : Nat → Int} (C : Caps n cp nb) (P : PInv n cp F T g h e) {u v : Nat} (hc : cp u v = 0) : ¬ 0 < (cp u v : Nat) - g u v := by
  have a := P.anti u v
  have b := P.le v u
  have c := C.sym u v
  omega
theorem PInv.lift {n : Nat} {cp : Nat → Nat → Nat} {nb : Nat → List Nat} {F T : List Nat} {g : Nat → Nat → Int} {h : Nat → Nat} {e : Nat → Int} (C : Caps n cp nb) (P : PInv n cp F T g h e) {i k : Nat} (iF : i ∉ F) (iT : i ∉ T) (hk : h i ≤ k) (ha : ∀ v, v < n → cp i v ≠ 0 → 0 < (cp i v : Nat) - g i v → k ≤ h v) :
    PInv n cp F T g (fun v => if v = i then k + 1 else h v) e := by
  refine ⟨P.anti, P.le, P.net, P.pos, fun u v hu hv hs => ?_, fun v hv => ?_, fun v hv => ?_⟩
  · have lab := P.lab u v hu hv hs
    by_cases q : u = i
    · subst q
      by_cases q2 : v = u
      · subst q2; omega
      · simp only [if_pos, if_neg q2]
        have := ha v hv (fun z => P.noarc C z hs) hs
        omega
    · simp only [if_neg q]
      split
      · rename_i q2; rw [q2] at lab; omega
      · exact lab
  · simp only [if_neg (fun z : v = i => iF (z ▸ hv))]
    exact P.hF v hv
  · simp only [if_neg (fun z : v = i => iT (z ▸ hv))]
    exact P.hT v hv
theorem sm_single {f : Nat → Int} : ∀ {n k : Nat}, k < n → (∀ i, i < n → 0 ≤ f i) → f k ≤ sm n f
  | 0, _, h, _ => absurd h (Nat.not_lt_zero _)
  | n + 1, k, h, h0 => by
    show f k ≤ sm n f + f n
    have z := sm_nonneg (f := f) (n := n) fun i hi => h0 i (by omega)
    have zn := h0 n (by omega)
    by_cases q : k = n
    · subst q; omega
    · have := sm_single (f := f) (n := n) (k := k) (by omega) fun i hi => h0 i (by omega)
      omega
def cntA (n : Nat) (h : Nat → Nat) (k : Nat) : Int := sm n fun v => if k < h v then 1 else 0
theorem cntA_le (n : Nat) (h : Nat → Nat) (k : Nat) : cntA n h k ≤ n := by
  have : ∀ n : Nat, sm n (fun _ => (1 : Int)) = n := fun n => by
    induction n with
    | zero => rfl
    | succ n ih =>
      show sm n (fun _ => (1 : Int)) + 1 = _
      rw [ih]; omega
  have q := sm_le (f := fun v => if k < h v then (1 : Int) else 0) (g := fun _ => 1) (n := n) fun v _ => by split <;> omega
  rw [this] at q
  exact q
theorem cntA_lt {n v : Nat} {h : Nat → Nat} {k : Nat} (hv : v < n) (hk : h v ≤ k) : cntA n h k + 1 ≤ n := by
  have q := cntA_le n (fun u => if u = v then k + 1 else h u) k
  have e : cntA n (fun u => if u = v then k + 1 else h u) k = cntA n h k + sm n (fun u => if u = v then 1 else 0) := by
    unfold cntA
    rw [← sm_add]
    refine sm_congr fun u _ => ?_
    by_cases z : u = v
    · subst z
      simp only [if_pos]
      rw [if_pos (by omega), if_neg (by omega)]; rfl
    · simp only [if_neg z]
      omega
  rw [sm_one, if_pos hv] at e
  omega
theorem cntA_step {n : Nat} {h : Nat → Nat} {k : Nat} (he : ∃ v, v < n ∧ h v = k + 1) : cntA n h (k + 1) + 1 ≤ cntA n h k := by
  obtain ⟨v, hv, e⟩ := he
  have s : cntA n h k = cntA n h (k + 1) + sm n (fun u => if h u = k + 1 then 1 else 0) := by
    unfold cntA
    rw [← sm_add]
    refine sm_congr fun u _ => ?_
    by_cases z : h u = k + 1
    · rw [if_pos z, if_pos (by omega), if_neg (by omega)]; rfl
    · rw [if_neg z]
      by_cases y : k + 1 < h u
      · rw [if_pos y, if_pos (by omega)]; rfl
      · rw [if_neg y, if_neg (by omega)]; rfl
  have one := sm_single (f := fun u => if h u = k + 1 then (1 : Int) else 0) hv fun i _ => by split <;> omega
  simp only [if_pos e] at one
  omega
theorem cntA_chain {n : Nat} {h : Nat → Nat} {a : Nat} : ∀ d, (∀ k, a < k → k ≤ a + d → ∃ v, v < n ∧ h v = k) → cntA n h (a + d) + d ≤ cntA n h a
  | 0, _ => by
    show cntA n h a + 0 ≤ _
    omega
  | d + 1, he => by
    have ih := cntA_chain d fun k h1 h2 => he k h1 (by omega)
    have st := cntA_step (n := n) (h := h) (k := a + d) (he (a + d + 1) (by omega) (by omega))
    rw [show a + (d + 1) = a + d + 1 by omega]
    omega
theorem cntA_pos {n v : Nat} {h : Nat → Nat} {k : Nat} (hv : v < n) (hk : k < h v) : 1 ≤ cntA n h k := by
  have one := sm_single (f := fun u => if k < h u then (1 : Int) else 0) hv fun i _ => by split <;> omega
  simp only [if_pos hk] at one
  exact one
/-- a level of no place: what is above it is filled -/
theorem PInv.gap {n : Nat} {cp : Nat → Nat → Nat} {F T : List Nat} {g : Nat → Nat → Int} {h : Nat → Nat} {e : Nat → Int} (P : PInv n cp F T g h e) {k : Nat} (em : ∀ v, v < n → h v ≠ k) {i j : Nat} (hi : i < n) (hj : j < n) (si : decide (k < h i) = true) (sj : decide (k < h j) = false) : ¬ 0 < (cp i j : Nat) - g i j := fun z => by
  have := P.lab i j hi hj z
  have a := of_decide_eq_true si
  have b := of_decide_eq_false sj
  have := em j hj
  omega
theorem PInv.high {n : Nat} {cp : Nat → Nat → Nat} {F T : List Nat} {g : Nat → Nat → Int} {h : Nat → Nat} {e : Nat → Int} (P : PInv n cp F T g h e) {i : Nat} (hi : i < n) (ei : 0 < e i) : h i ≤ 2 * n := by
  rcases Nat.lt_or_ge (2 * n) (h i) with q | q
  · exfalso
    have full : ∀ k, n < k → k ≤ n + (h i - 1 - n) → ∃ v, v < n ∧ h v = k := fun k h1 h2 => by
      apply Classical.byContradiction
      intro no
      have em : ∀ v, v < n → h v ≠ k := fun v hv z => no ⟨v, hv, z⟩
      have c := cross_eq (n := n) P.anti (fun v => decide (k < h v))
      have c0 : 0 ≤ cross n g (fun v => decide (k < h v)) := by
        refine sm_nonneg fun u hu => sm_nonneg fun v hv => ?_
        show 0 ≤ if (decide (k < h u) && !decide (k < h v)) = true then g u v else 0
        split
        · rename_i s
          rw [Bool.and_eq_true] at s
          have := P.gap em hu hv s.1 (by simpa using s.2)
          omega
        · exact Int.le_refl _
      have c1 : (sm n fun v => if decide (k < h v) = true then e v else 0) = - sm n fun v => if decide (k < h v) = true then outN n g v else 0 := by
        rw [← sm_neg]
        refine sm_congr fun v hv => ?_
        split
        · exact P.net v hv
        · rfl
      have one := sm_single (f := fun v => if decide (k < h v) = true then e v else 0) hi fun v hv => by
        split
        · rename_i s
          refine P.pos v hv fun z => ?_
          have := P.hF v z
          have := of_decide_eq_true s
          omega
        · exact Int.le_refl _
      simp only [if_pos (decide_eq_true (show k < h i by omega))] at one
      omega
    have ch := cntA_chain (n := n) (h := h) (a := n) (h i - 1 - n) full
    have p := cntA_pos (n := n) (h := h) (k := n + (h i - 1 - n)) hi (by omega)
    have u := cntA_le n h n
    omega
  · exact q
theorem PInv.done {n : Nat} {cp : Nat → Nat → Nat} {F T : List Nat} {g : Nat → Nat → Int} {h : Nat → Nat} {e : Nat → Int} (P : PInv n cp F T g h e) (ok : Cs.Ends n F T) (no : ∀ v, v < n → 0 < e v → v ∈ F ∨ v ∈ T) : MaxG n cp F T g := by
  obtain ⟨rF, rT, nF, nT, dj⟩ := ok
  refine ⟨⟨P.anti, P.le, fun v hv h1 h2 => ?_⟩, ?_⟩
  · have a := P.net v hv
    have b := P.pos v hv h1
    have : ¬ 0 < e v := fun z => (no v hv z).elim h1 h2
    omega
  · obtain ⟨f, hf⟩ := List.exists_mem_of_ne_nil F nF
    obtain ⟨t, ht⟩ := List.exists_mem_of_ne_nil T nT
    have fn := rF.2 f hf
    have tn := rT.2 t ht
    have hf1 := P.hF f hf
    have ht1 := P.hT t ht
    have ex : ∃ k, 0 < k ∧ k ≤ 0 + (n - 1) ∧ ∀ v, v < n → h v ≠ k := by
      apply Classical.byContradiction
      intro no2
      have ch := cntA_chain (n := n) (h := h) (a := 0) (n - 1) fun k h1 h2 => by
        apply Classical.byContradiction
        intro no3
        exact no2 ⟨k, h1, h2, fun v hv z => no3 ⟨v, hv, z⟩⟩
      have p := cntA_pos (n := n) (h := h) (k := 0 + (n - 1)) fn (by omega)
      have u := cntA_lt (n := n) (h := h) (k := 0) tn (by omega)
      omega
    obtain ⟨k, k0, k1, em⟩ := ex
    refine ⟨fun v => decide (k < h v), fun v hv => decide_eq_true (by have := P.hF v hv; omega), fun v hv => decide_eq_false (by have := P.hT v hv; omega), fun i j hi hj si sj => ?_⟩
    have := P.gap em hi hj si sj
    omega
/-- what is too much, by height -/
def phi (n : Nat) (F : List Nat) (h : Nat → Nat) (e : Nat → Int) : Int := sm n fun v => if v ∈ F then 0 else e v * (h v : Int)
theorem phi_push {n : Nat} {F : List Nat} {h : Nat → Nat} {e : Nat → Int} {i j : Nat} {x : Int} (hi : i < n) (hj : j < n) (ne : i ≠ j) (iF : i ∉ F) (x0 : 0 ≤ x) (ad : h i = h j + 1) : phi n F h (pushE e i j x) + x ≤ phi n F h e := by
  have e1 : phi n F h (pushE e i j x) = phi n F h e + (sm n fun v => if v = i then - (x * (h i : Int)) else 0) + (sm n fun v => if v = j then (if j ∈ F then 0 else x * (h j : Int)) else 0) := by
    unfold phi
    rw [← sm_add, ← sm_add]
    refine sm_congr fun v _ => ?_
    unfold pushE
    by_cases q1 : v = i
    · subst q1
      rw [if_neg iF, if_neg iF, if_pos rfl, if_pos rfl, if_neg ne, if_neg ne]
      rw [Int.add_mul, Int.sub_mul]
      omega
    · rw [if_neg q1, if_neg q1]
      by_cases q2 : v = j
      · subst q2
        rw [if_pos rfl, if_pos rfl]
        split
        · omega
        · rw [Int.add_mul, Int.sub_mul]; omega
      · rw [if_neg q2, if_neg q2]
        split
        · omega
        · rw [Int.add_mul, Int.sub_mul]; omega
  rw [sm_one, sm_one, if_pos hi, if_pos hj] at e1
  have e2 : x * ((h i : Nat) : Int) = x * (h j : Int) + x := by rw [ad, Int.natCast_add, Int.mul_add]; omega
  have e3 : 0 ≤ x * (h j : Int) := Int.mul_nonneg x0 (Int.natCast_nonneg _)
  rw [e1, e2]
  split <;> omega
def capsB (n : Nat) (cp : Nat → Nat → Nat) : Int := sm n fun v => (sm n fun j => (cp j v : Nat)) * ((2 * n : Nat) : Int)
theorem phi_bd {n : Nat} {cp : Nat → Nat → Nat} {F T : List Nat} {g : Nat → Nat → Int} {h : Nat → Nat} {e : Nat → Int} (P : PInv n cp F T g h e) (hm : ∀ v, v < n → h v ≤ 2 * n) : 0 ≤ phi n F h e ∧ phi n F h e ≤ capsB n cp := by
  have cn : ∀ v, 0 ≤ sm n fun j => ((cp j v : Nat) : Int) := fun v => sm_nonneg fun j _ => Int.natCast_nonneg _
  constructor
  · refine sm_nonneg fun v hv => ?_
    split
    · exact Int.le_refl _
    · rename_i q
      exact Int.mul_nonneg (P.pos v hv q) (Int.natCast_nonneg _)
  · refine sm_le fun v hv => ?_
    split
    · exact Int.mul_nonneg (cn v) (Int.natCast_nonneg _)
    · rename_i q
      have a : e v ≤ sm n fun j => ((cp j v : Nat) : Int) := by
        rw [P.net v hv]
        unfold outN
        rw [← sm_neg]
        exact sm_le fun j _ => by
          have := P.le j v
          have := P.anti v j
          omega
      exact Int.mul_le_mul a (by have := hm v hv; omega) (Int.natCast_nonneg _) (cn v)
def lowS (n : Nat) (h : Nat → Nat) : Int := sm n fun v => ((2 * n : Nat) : Int) - (h v : Int)
theorem lowS_nn {n : Nat} {h : Nat → Nat} (hm : ∀ v, v < n → h v ≤ 2 * n) : 0 ≤ lowS n h := sm_nonneg fun v hv => by
  have := hm v hv
  omega
/-- how far it is to the end -/
def far (n : Nat) (cp : Nat → Nat → Nat) (F : List Nat) (h : Nat → Nat) (e : Nat → Int) : Int := lowS n h * (capsB n cp + 1) + phi n F h e
/-- h and e went on to h' and e' -/
def Went (n : Nat) (F : List Nat) (h : Nat → Nat) (e : Nat → Int) (h' : Nat → Nat) (e' : Nat → Int) : Prop := (∀ v, h v ≤ h' v) ∧ ((∃ v, v < n ∧ h v < h' v) ∨ (h' = h ∧ phi n F h e' < phi n F h e))
theorem went_far {n : Nat} {cp : Nat → Nat → Nat} {F T : List Nat} {g g' : Nat → Nat → Int} {h h' : Nat → Nat} {e e' : Nat → Int} (P : PInv n cp F T g h e) (hm : ∀ v, v < n → h v ≤ 2 * n) (P' : PInv n cp F T g' h' e') (hm' : ∀ v, v < n → h' v ≤ 2 * n) (w : Went n F h e h' e') : 0 ≤ far n cp F h' e' ∧ far n cp F h' e' < far n cp F h e := by
  obtain ⟨p1, p2⟩ := phi_bd P hm
  obtain ⟨q1, q2⟩ := phi_bd P' hm'
  have n1 := lowS_nn hm'
  have b0 : 0 ≤ capsB n cp + 1 := by omega
  refine ⟨Int.add_nonneg (Int.mul_nonneg n1 b0) q1, ?_⟩
  obtain ⟨w1, w2⟩ := w
  unfold far
  rcases w2 with ⟨v, hv, lt⟩ | ⟨rfl, lt⟩
  · have s : lowS n h' + 1 ≤ lowS n h := by
      have e : lowS n h = lowS n h' + sm n (fun v => (h' v : Int) - (h v : Int)) := by
        unfold lowS
        rw [← sm_add]
        exact sm_congr fun v _ => by omega
      have one := sm_single (f := fun v => (h' v : Int) - (h v : Int)) hv fun u _ => by have := w1 u; omega
      omega
    have m := Int.mul_le_mul_of_nonneg_right s b0
    rw [Int.add_mul] at m
    omega
  · omega
/-! ### pushing, walked -/
def hf (r ed hl tl : V) : List (Str × V) := [("rooms", r), ("ends", ed), ("heights", hl), ("too_much", tl)]
section
variable {K : PySem.W.Frag} {mg : Str → Option Value} {H : Hp} {w dx : Addr} {r ed hl tl : V} {R : V → Prop}
theorem fH_rooms (E : En K mg) (h : H w = some (.ins (He.ga K "Heights") dx (hf r ed hl tl))) (q : R r) : ∃ a C dx fs v, V.ref w = .ref a ∧ H a = some (.ins C dx fs) ∧ Cls K C ∧ NoAttr K C "rooms" ∧ fs.lookup ("rooms" : Str) = some v ∧ R v :=
  ⟨_, _, _, _, _, rfl, h, E.cls_Heights, E.na_Heights_rooms, rfl, q⟩
theorem fH_ends (E : En K mg) (h : H w = some (.ins (He.ga K "Heights") dx (hf r ed hl tl))) (q : R ed) : ∃ a C dx fs v, V.ref w = .ref a ∧ H a = some (.ins C dx fs) ∧ Cls K C ∧ NoAttr K C "ends" ∧ fs.lookup ("ends" : Str) = some v ∧ R v :=
  ⟨_, _, _, _, _, rfl, h, E.cls_Heights, E.na_Heights_ends, rfl, q⟩
theorem fH_heights (E : En K mg) (h : H w = some (.ins (He.ga K "Heights") dx (hf r ed hl tl))) (q : R hl) : ∃ a C dx fs v, V.ref w = .ref a ∧ H a = some (.ins C dx fs) ∧ Cls K C ∧ NoAttr K C "heights" ∧ fs.lookup ("heights" : Str) = some v ∧ R v :=
  ⟨_, _, _, _, _, rfl, h, E.cls_Heights, E.na_Heights_heights, rfl, q⟩
theorem fH_too_much (E : En K mg) (h : H w = some (.ins (He.ga K "Heights") dx (hf r ed hl tl))) (q : R tl) : ∃ a C dx fs v, V.ref w = .ref a ∧ H a = some (.ins C dx fs) ∧ Cls K C ∧ NoAttr K C "too_much" ∧ fs.lookup ("too_much" : Str) = some v ∧ R v :=
  ⟨_, _, _, _, _, rfl, h, E.cls_Heights, E.na_Heights_too_much, rfl, q⟩
end
/-- a list of n ints -/
def rowI (n : Nat) (e : Nat → Int) : List V := (List.range n).map fun v => V.int (e v)
theorem rowI_len (n : Nat) (e : Nat → Int) : (rowI n e).length = n := by unfold rowI; rw [List.length_map, List.length_range]
theorem rowI_get {n : Nat} {e : Nat → Int} {i : Nat} (h : i < n) : (rowI n e)[i]? = some (.int (e i)) := by
  unfold rowI
  rw [List.getElem?_map, List.getElem?_range h]
  rfl
theorem rowI_set {n : Nat} {e : Nat → Int} {i : Nat} {x : Int} : (rowI n e).set i (.int x) = rowI n (fun v => if v = i then x else e v) := by
  refine List.ext_getElem? fun k => ?_
  by_cases hk : k < n
  · rw [rowI_get hk]
    by_cases q : i = k
    · subst q
      rw [List.getElem?_set_self (by rw [rowI_len]; exact hk), if_pos rfl]
    · rw [List.getElem?_set_ne q, rowI_get hk, if_neg (fun z => q z.symm)]
  · rw [List.getElem?_eq_none (by rw [List.length_set, rowI_len]; omega), List.getElem?_eq_none (by rw [rowI_len]; omega)]
theorem rowI_congr {n : Nat} {e e' : Nat → Int} (h : ∀ v, v < n → e v = e' v) : rowI n e = rowI n e' := by
  unfold rowI
  exact List.map_congr_left fun v hv => by rw [h v (List.mem_range.mp hv)]
/-- what stays as it is -/
structure HX where
  H0 : Hp
  hp : Addr
  r : Addr
  n : Nat
  cp : Nat → Nat → Nat
  nb : Nat → List Nat
  bd : Addr
  ed : Addr
  hl : Addr
  tl : Addr
  F : List Nat
  T : List Nat
def hI (h : Nat → Nat) : Nat → Int := fun v => (h v : Nat)
structure HgP (K : PySem.W.Frag) (X : HX) (H : Hp) (g : Nat → Nat → Int) (h : Nat → Nat) (e : Nat → Int) : Prop where
  st : RmI K X.H0 X.r X.n X.cp X.nb X.bd
  st0 : ∃ g0, BrI X.H0 X.bd X.n g0
  bu : But X.bd X.H0 H
  br : BrI H X.bd X.n g
  fh : X.H0 X.hl = none
  ft : X.H0 X.tl = none
  ne : X.hl ≠ X.tl
  ins : ∃ dx, H X.hp = some (.ins (He.ga K "Heights") dx (hf (.ref X.r) (.ref X.ed) (.ref X.hl) (.ref X.tl)))
  ed : SqT K H X.ed (nv (X.F ++ X.T))
  hh : H X.hl = some (.lst (rowI X.n (hI h)))
  ht : H X.tl = some (.lst (rowI X.n e))
theorem HgP.rm {K : PySem.W.Frag} {X : HX} {H : Hp} {g : Nat → Nat → Int} {h : Nat → Nat} {e : Nat → Int} (P : HgP K X H g h e) : RmI K H X.r X.n X.cp X.nb X.bd := by
  obtain ⟨g0, hb⟩ := P.st0
  exact P.bu.rm hb P.st
theorem HgP.same {K : PySem.W.Frag} {X : HX} {H H' : Hp} {g : Nat → Nat → Int} {h : Nat → Nat} {e : Nat → Int} (P : HgP K X H g h e) (s : Same H H') : HgP K X H' g h e :=
  ⟨P.st, P.st0, P.bu.trans s.but, s.br P.br, P.fh, P.ft, P.ne, P.ins.imp fun _ q => s _ _ q, s.seqT P.ed, s _ _ P.hh, s _ _ P.ht⟩
theorem HgP.put {K : PySem.W.Frag} {X : HX} {H H' : Hp} {g g' : Nat → Nat → Int} {h : Nat → Nat} {e : Nat → Int} (P : HgP K X H g h e) (s : But X.bd H H') (b : BrI H' X.bd X.n g') : HgP K X H' g' h e := by
  obtain ⟨kb, hb, _⟩ := id P.br
  obtain ⟨dx, hi⟩ := P.ins
  exact ⟨P.st, P.st0, P.bu.trans s, b, P.fh, P.ft, P.ne, ⟨dx, s _ _ (ne_of hi hb (by intro z; cases z)) hi⟩, s.sqT P.br P.ed, s _ _ (ne_of P.hh hb (by intro z; cases z)) P.hh, s _ _ (ne_of P.ht hb (by intro z; cases z)) P.ht⟩
theorem HgP.setT {K : PySem.W.Frag} {X : HX} {H : Hp} {g : Nat → Nat → Int} {h : Nat → Nat} {e : Nat → Int} (P : HgP K X H g h e) (i : Nat) (x : Int) : HgP K X (upd H X.tl (.lst ((rowI X.n e).set i (.int x)))) g h (fun v => if v = i then x else e v) := by
  obtain ⟨kb, hb, B⟩ := P.br
  obtain ⟨dx, hi⟩ := P.ins
  refine ⟨P.st, P.st0, fun a o na ha => ?_, ⟨kb, ?_, B⟩, P.fh, P.ft, P.ne, ⟨dx, ?_⟩, ?_, ?_, ?_⟩
  · rw [upd_ne (ne_of_none ha P.ft)]
    exact P.bu a o na ha
  · rw [upd_ne (ne_of hb P.ht (by intro z; cases z))]
    exact hb
  · rw [upd_ne (ne_of hi P.ht (by intro z; cases z))]
    exact hi
  · exact (butUpd (p := X.tl)).tupM (by rw [P.ht]; trivial) P.ed
  · rw [upd_ne P.ne]
    exact P.hh
  · rw [upd_same, rowI_set]
theorem HgP.setH {K : PySem.W.Frag} {X : HX} {H : Hp} {g : Nat → Nat → Int} {h : Nat → Nat} {e : Nat → Int} (P : HgP K X H g h e) (i k : Nat) : HgP K X (upd H X.hl (.lst ((rowI X.n (hI h)).set i (.int (k : Nat))))) g (fun v => if v = i then k else h v) e := by
  obtain ⟨kb, hb, B⟩ := P.br
  obtain ⟨dx, hi⟩ := P.ins
  refine ⟨P.st, P.st0, fun a o na ha => ?_, ⟨kb, ?_, B⟩, P.fh, P.ft, P.ne, ⟨dx, ?_⟩, ?_, ?_, ?_⟩
  · rw [upd_ne (ne_of_none ha P.fh)]
    exact P.bu a o na ha
  · rw [upd_ne (ne_of hb P.hh (by intro z; cases z))]
    exact hb
  · rw [upd_ne (ne_of hi P.hh (by intro z; cases z))]
    exact hi
  · exact (butUpd (p := X.hl)).tupM (by rw [P.hh]; trivial) P.ed
  · rw [upd_same, rowI_set]
    exact congrArg (fun l => some (HO.lst l)) (rowI_congr fun v _ => by
      show (if v = i then ((k : Nat) : Int) else ((h v : Nat) : Int)) = (((if v = i then k else h v) : Nat) : Int)
      split <;> rfl)
  · rw [upd_ne P.ne.symm]
    exact P.ht
def sp_Heights_push (K : PySem.W.Frag) (a b c d : V) (H : Hp) (Q : VK) : Prop := ∃ (X : HX) (g : Nat → Nat → Int) (h : Nat → Nat) (e : Nat → Int) (i j : Nat) (x : Int), a = .ref X.hp ∧ HgP K X H g h e ∧ b = .int i ∧ c = .int j ∧ d = .int x ∧ i < X.n ∧ j < X.n ∧ i ≠ j ∧ ∀ H1, HgP K X H1 (putG g i j x) h (pushE e i j x) → Q .non H1
theorem pure_Heights_push {K : PySem.W.Frag} {mg : Str → Option Value} (E : En K mg) : ∀ vs H Q, u4 (sp_Heights_push K) vs H Q → t_Heights_push K (u4 (sp_Rooms_put K)) { nx := fun _ H' => Q .non H', rt := Q } (L2.start ["self", "place", "other", "number"] vs) H := by
  rintro _ H Q ⟨_, _, _, _, rfl, X, g, h, e, i, j, x, rfl, P, rfl, rfl, rfl, hi, hj, ne, hQ⟩
  obtain ⟨dx, hin⟩ := P.ins
  unfold t_Heights_push
  walk_at "st"
  walk_at "gs"
  refine fH_rooms E hin ?_
  refine rm_ins P.rm (fun _ _ _ => rfl) ?_
  walk_at "gs"
  refine ⟨X.r, X.n, X.cp, X.nb, X.bd, g, i, j, x, rfl, P.rm, P.br, rfl, rfl, rfl, hi, hj, ne, fun H1 b1 hb1 => ?_⟩
  have P1 := P.put b1 hb1
  obtain ⟨dx1, hin1⟩ := P1.ins
  walk_at "gs"
  walk_at "gs"
  refine fH_too_much E hin1 ?_
  walk_at "gs"
  refine go_ixL (SqL.of P1.ht) (atI_nat (rowI_get hi)) ?_
  walk_at "gs"
  refine go_setL P1.ht (ixN_nat (by rw [rowI_len]; exact hi)) ?_
  have P2 := P1.setT i (e i - x)
  generalize upd H1 X.tl (.lst ((rowI X.n e).set i (.int (e i - x)))) = H2 at *
  obtain ⟨dx2, hin2⟩ := P2.ins
  dsimp only
  walk_at "gs"
  refine fH_too_much E hin2 ?_
  walk_at "gs"
  refine go_ixL (SqL.of P2.ht) (atI_nat (rowI_get hj)) ?_
  walk_at "gs"
  refine go_setL P2.ht (ixN_nat (by rw [rowI_len]; exact hj)) ?_
  have P3 := P2.setT j ((if j = i then e i - x else e j) + x)
  refine hQ _ ?_
  have ee : (fun v => if v = j then (if j = i then e i - x else e j) + x else if v = i then e i - x else e v) = pushE e i j x := by
    funext v
    unfold pushE
    rw [if_neg ne.symm]
    by_cases q : v = j
    · subst q
      rw [if_pos rfl, if_pos rfl, if_neg ne.symm]; omega
    · rw [if_neg q, if_neg q]
      by_cases q2 : v = i
      · subst q2
        rw [if_pos rfl, if_pos rfl]; omega
      · rw [if_neg q2, if_neg q2]; omega
  rw [ee] at P3
  exact P3
def sp_Heights_waiting (K : PySem.W.Frag) (a : V) (H : Hp) (Q : VK) : Prop := ∃ (X : HX) (g : Nat → Nat → Int) (h : Nat → Nat) (e : Nat → Int), a = .ref X.hp ∧ HgP K X H g h e ∧ ((∀ v, v < X.n → 0 < e v → v ∈ X.F ∨ v ∈ X.T) → Q .non H) ∧ ∀ v, v < X.n → 0 < e v → v ∉ X.F → v ∉ X.T → Q (.int (v : Nat)) H
theorem pure_Heights_waiting {K : PySem.W.Frag} {mg : Str → Option Value} (E : En K mg) : ∀ vs H Q, u1 (sp_Heights_waiting K) vs H Q → t_Heights_waiting K { nx := fun _ H' => Q .non H', rt := Q } (L2.start ["self", "place"] vs) H := by
  rintro _ H Q ⟨_, rfl, X, g, h, e, rfl, P, hQ0, hQ⟩
  obtain ⟨dx, hin⟩ := P.ins
  have hr := P.rm
  obtain ⟨dxr, wd, cl, kw, r1, r2, r3, r4, r5, C⟩ := id hr
  have hn := C.small
  unfold t_Heights_waiting
  walk_at "st"
  walk_at "gs"
  refine fH_rooms E hin ?_
  refine fR_size E r1 ?_
  walk_at "gs"
  refine ⟨X.n, rfl, by omega, by omega, for_range (lo := 0) (n := (X.n : Int).toNat) (fun i σ H' => H' = H ∧ (∃ y, σ = [some (.ref X.hp), y]) ∧ ∀ v, v < i → 0 < e v → v ∈ X.F ∨ v ∈ X.T) ⟨rfl, ⟨none, rfl⟩, fun v hv => absurd hv (Nat.not_lt_zero _)⟩ ?_ ?_⟩
  · rintro i σ H' hi ⟨rfl, ⟨y, rfl⟩, dn⟩
    have e0 : (0 : Int) + (i : Int) = (i : Int) := Int.zero_add _
    have hi2 : i < X.n := by omega
    rw [e0]
    walk_at "gs"
    refine fH_too_much E hin ?_
    walk_at "gs"
    refine go_ixL (SqL.of P.ht) (atI_nat (rowI_get hi2)) ?_
    walk_at "gs"
    refine ite_dec (fun q => ?_) fun q => ?_
    · walk_at "gs"
      refine fH_ends E hin ?_
      refine go_notin (.inr P.ed) ?_
      walk_at "gs"
      by_cases q2 : i ∈ X.F ++ X.T
      · rw [decide_eq_true q2]
        walk_at "gs"
        refine ⟨rfl, ⟨_, rfl⟩, fun v hv he => ?_⟩
        by_cases q3 : v = i
        · rw [q3]; exact List.mem_append.mp q2
        · exact dn v (by omega) he
      · rw [decide_eq_false q2]
        walk_at "gs"
        exact hQ i hi2 q (fun z => q2 (List.mem_append_left _ z)) fun z => q2 (List.mem_append_right _ z)
    · walk_at "gs"
      refine ⟨rfl, ⟨_, rfl⟩, fun v hv he => ?_⟩
      by_cases q3 : v = i
      · rw [q3] at he; exact absurd he q
      · exact dn v (by omega) he
  · rintro σ H' ⟨rfl, ⟨y, rfl⟩, dn⟩
    walk_at "gs"
    exact hQ0 fun v hv he => dn v (by omega) he
def sp_Heights_lift (K : PySem.W.Frag) (a b : V) (H : Hp) (Q : VK) : Prop := ∃ (X : HX) (g : Nat → Nat → Int) (h : Nat → Nat) (e : Nat → Int) (i : Nat), a = .ref X.hp ∧ HgP K X H g h e ∧ b = .int i ∧ i < X.n ∧ (∃ j, X.cp i j ≠ 0 ∧ 0 < (X.cp i j : Nat) - g i j) ∧
  ∀ H1 k, HgP K X H1 g (fun v => if v = i then k + 1 else h v) e → (∀ j, X.cp i j ≠ 0 → 0 < (X.cp i j : Nat) - g i j → k ≤ h j) → (∃ j, X.cp i j ≠ 0 ∧ 0 < (X.cp i j : Nat) - g i j ∧ k = h j) → Q .non H1
theorem pure_Heights_lift {K : PySem.W.Frag} {mg : Str → Option Value} (E : En K mg) : ∀ vs H Q, u2 (sp_Heights_lift K) vs H Q → t_Heights_lift K (u3 (sp_Rooms_spare K)) { nx := fun _ H' => Q .non H', rt := Q } (L2.start ["self", "place", "lower", "other"] vs) H := by
  rintro _ H Q ⟨_, _, rfl, X, g, h, e, i, rfl, P, rfl, hi, ⟨j0, c0, s0⟩, hQ⟩
  obtain ⟨dx, hin⟩ := P.ins
  have hr := P.rm
  obtain ⟨dxr, wd, cl, kw, r1, r2, r3, r4, ⟨ls, r5, r6, r7⟩, C⟩ := id hr
  have hn := C.small
  obtain ⟨li, eli, hli⟩ := r7 i hi
  have gli : (ls.map V.ref)[i]? = some (.ref li) := by rw [List.getElem?_map, eli]; rfl
  have lnb := rising_len (C.up i hi)
  unfold t_Heights_lift
  walk_at "st"
  walk_at "gs"
  refine fH_rooms E hin ?_
  refine fR_close E r1 ?_
  walk_at "gs"
  refine go_ixL (SqL.of r5) (atI_nat gli) ?_
  refine ⟨li, rfl, ⟨_, SqL.of hli⟩, lcL (SqL.of hli) (fOf (X.nb i) fun o => decide (0 < ((X.cp i o : Nat) : Int) - g i o)) (fun _ t H y => ∃ x, (X.nb i)[t]? = some x ∧ y = V.int (x : Nat)) (by rw [nv_len]; omega) (fun _ _ _ _ _ _ _ h => h) ?_ ?_⟩
  · intro D t x H2 N N' hx hD s2 mu q1 q2
    obtain ⟨o, ho, rfl⟩ := nv_get hx
    rw [fOf_at ho] at q1 q2
    walk_at "gs"
    refine ⟨rfl, ?_⟩
    walk_at "gs"
    refine fH_rooms E (s2 _ _ hin) ?_
    refine rm_ins (s2.rm hr) (fun _ _ _ => rfl) ?_
    walk_at "gs"
    refine ⟨X.r, X.n, X.cp, X.nb, X.bd, g, i, o, rfl, s2.rm hr, s2.br P.br, rfl, rfl, fun H3 s3 => ?_⟩
    walk_at "gs"
    by_cases q : 0 < ((X.cp i o : Nat) : Int) - g i o
    · rw [decide_eq_true q]
      walk_at "gs"
      exact q1 (decide_eq_true q) _ H3 s3 ⟨o, ho, rfl⟩
    · rw [decide_eq_false q]
      walk_at "gs"
      exact q2 (decide_eq_false q) H3 s3
  · intro D H2 ys hD s2 hy pr
    have ey := kept_nv pr
    subst ey
    have mem : ∀ o, o ∈ (X.nb i).filter (fun o => decide (0 < ((X.cp i o : Nat) : Int) - g i o)) ↔ X.cp i o ≠ 0 ∧ 0 < ((X.cp i o : Nat) : Int) - g i o := fun o => by
      rw [List.mem_filter, C.mem i o hi, decide_eq_true_iff]
    have lB := List.length_filter_le (fun o => decide (0 < ((X.cp i o : Nat) : Int) - g i o)) (X.nb i)
    generalize (X.nb i).filter (fun o => decide (0 < ((X.cp i o : Nat) : Int) - g i o)) = B at *
    have P2 := P.same s2
    obtain ⟨dx2, hin2⟩ := P2.ins
    walk_at "gs"
    refine ⟨D, rfl, ⟨_, SqL.of hy⟩, lcL (SqL.of hy) (fun _ => true) (fun _ t H y => ∃ x, B[t]? = some x ∧ y = V.int (hI h x)) (by rw [nv_len]; omega) (fun _ _ _ _ _ _ _ h => h) ?_ ?_⟩
    · intro D2 t x H3 N N' hx hD2 s3 mu q1 q2
      obtain ⟨o, ho, rfl⟩ := nv_get hx
      obtain ⟨_, on, _⟩ := C.nz i o ((mem o).mp (List.mem_of_getElem? ho)).1
      walk_at "gs"
      refine ⟨rfl, ?_⟩
      walk_at "gs"
      refine fH_heights E (s3 _ _ hin2) ?_
      walk_at "gs"
      refine go_ixL (SqL.of (s3 _ _ P2.hh)) (atI_nat (rowI_get on)) ?_
      exact q1 rfl _ H3 (Same.refl _) ⟨o, ho, rfl⟩
    · intro D2 H3 zs hD2 s3 hz pr2
      rw [nv_len] at pr2
      have pr3 := paired_kept (p := fun _ => true) (S := fun y (x : Nat) => y = V.int (hI h x)) (fun _ _ _ => rfl) pr2
      rw [filter_all] at pr3
      have ez := pairIntF pr3
      subst ez
      have P3 := P2.same s3
      obtain ⟨dx3, hin3⟩ := P3.ins
      walk_at "gs"
      refine ⟨D2, _, rfl, SqL.of hz, by rw [List.length_map]; exact List.length_pos_of_mem ((mem j0).mpr ⟨c0, s0⟩), fun mn hmn hle => ?_⟩
      obtain ⟨o, ho, rfl⟩ := List.mem_map.mp hmn
      obtain ⟨o1, o2⟩ := (mem o).mp ho
      walk_at "gs"
      refine fH_heights E hin3 ?_
      walk_at "gs"
      have e1 : (1 : Int) + hI h o = ((h o + 1 : Nat) : Int) := by
        show (1 : Int) + ((h o : Nat) : Int) = _
        omega
      rw [e1]
      refine go_setL P3.hh (ixN_nat (by rw [rowI_len]; exact hi)) ?_
      refine hQ _ (h o) (P3.setH i (h o + 1)) (fun j q1 q2 => ?_) ⟨o, o1, o2, rfl⟩
      have := hle (hI h j) (List.mem_map.mpr ⟨j, (mem j).mpr ⟨q1, q2⟩, rfl⟩)
      unfold hI at this
      omega
theorem HgP.keep {K : PySem.W.Frag} {X : HX} {H : Hp} {g : Nat → Nat → Int} {h : Nat → Nat} {e : Nat → Int} (P : HgP K X H g h e) {a : Addr} {o : HO} (ha : X.H0 a = some o) (hn : ∀ kb, o ≠ .dT kb) : H a = some o := by
  obtain ⟨g0, kb0, hb0, _⟩ := P.st0
  exact P.bu _ _ (ne_of ha hb0 (hn kb0)) ha
theorem PInv.out {n : Nat} {cp : Nat → Nat → Nat} {F T : List Nat} {g : Nat → Nat → Int} {h : Nat → Nat} {e : Nat → Int} (P : PInv n cp F T g h e) {i : Nat} (hi : i < n) (ei : 0 < e i) : ∃ j, j < n ∧ 0 < (cp i j : Nat) - g i j := by
  apply Classical.byContradiction
  intro no
  have : 0 ≤ outN n g i := sm_nonneg fun j hj => by
    have : ¬ 0 < ((cp i j : Nat) : Int) - g i j := fun z => no ⟨j, hj, z⟩
    omega
  have := P.net i hi
  omega
def sp_Heights_clear (K : PySem.W.Frag) (a b : V) (H : Hp) (Q : VK) : Prop := ∃ (X : HX) (g : Nat → Nat → Int) (h : Nat → Nat) (e : Nat → Int) (i : Nat), a = .ref X.hp ∧ HgP K X H g h e ∧ b = .int i ∧ i < X.n ∧ i ∉ X.F ∧ i ∉ X.T ∧ 0 < e i ∧ PInv X.n X.cp X.F X.T g h e ∧ (∀ v, v < X.n → h v ≤ 2 * X.n) ∧
  ∀ H1 g' h' e', HgP K X H1 g' h' e' → PInv X.n X.cp X.F X.T g' h' e' → (∀ v, v < X.n → h' v ≤ 2 * X.n) → Went X.n X.F h e h' e' → Q .non H1
theorem pure_Heights_clear {K : PySem.W.Frag} {mg : Str → Option Value} (E : En K mg) : ∀ vs H Q, u2 (sp_Heights_clear K) vs H Q → t_Heights_clear K (u3 (sp_Rooms_spare K)) (u4 (sp_Heights_push K)) (u2 (sp_Heights_lift K)) { nx := fun _ H' => Q .non H', rt := Q } (L2.start ["self", "place", "other", "room"] vs) H := by
  rintro _ H Q ⟨_, _, rfl, X, g, h, e, i, rfl, P, rfl, hi, iF, iT, ei, PI, hm, hQ⟩
  have C := rm_caps P.rm
  have hn := C.small
  have nds := (C.up i hi).1
  have lnb := rising_len (C.up i hi)
  unfold t_Heights_clear
  walk_at "st"
  refine ⟨fun k σ H' => ∃ (y z : Option V) (g' : Nat → Nat → Int) (h' : Nat → Nat) (e' : Nat → Int), k = 2 * (2 * X.n - h' i) + (if 0 < e' i then 1 else 0) ∧ σ = [some (.ref X.hp), some (.int i), y, z] ∧ HgP K X H' g' h' e' ∧ PInv X.n X.cp X.F X.T g' h' e' ∧ (∀ v, v < X.n → h' v ≤ 2 * X.n) ∧ (∀ v, h v ≤ h' v) ∧ (h i < h' i ∨ (h' = h ∧ phi X.n X.F h e' + (e i - e' i) ≤ phi X.n X.F h e)),
    ⟨_, none, none, g, h, e, rfl, rfl, P, PI, hm, fun _ => Nat.le_refl _, .inr ⟨rfl, by omega⟩⟩, ?_⟩
  rintro k σ H' ⟨y, z, g', h', e', rfl, rfl, P, PI, hm', up, prog⟩
  obtain ⟨dx, hin⟩ := P.ins
  obtain ⟨dxr, wd, cl, kw, r1, r2, r3, r4, ⟨ls, r5, r6, r7⟩, C'⟩ := id P.st
  obtain ⟨li, eli, hli0⟩ := r7 i hi
  have r1 := P.keep r1 (by intro kb z; cases z)
  have r5 := P.keep r5 (by intro kb z; cases z)
  have hli := P.keep hli0 (by intro kb z; cases z)
  have gli : (ls.map V.ref)[i]? = some (.ref li) := by rw [List.getElem?_map, eli]; rfl
  walk_at "gs"
  refine fH_too_much E hin ?_
  walk_at "gs"
  refine go_ixL (SqL.of P.ht) (atI_nat (rowI_get hi)) ?_
  walk_at "gs"
  refine ite_dec (fun q0 => ?_) fun q0 => ?_
  · refine ⟨fun σ H2 => ∃ (y z : Option V) (g2 : Nat → Nat → Int) (h2 : Nat → Nat) (e2 : Nat → Int), (h' i < h2 i ∨ (h2 = h' ∧ ¬ 0 < e2 i)) ∧ σ = [some (.ref X.hp), some (.int i), y, z] ∧ HgP K X H2 g2 h2 e2 ∧ PInv X.n X.cp X.F X.T g2 h2 e2 ∧ (∀ v, v < X.n → h2 v ≤ 2 * X.n) ∧ (∀ v, h v ≤ h2 v) ∧ (h i < h2 i ∨ (h2 = h ∧ phi X.n X.F h e2 + (e i - e2 i) ≤ phi X.n X.F h e)), ?_, ?_⟩
    · rintro σ' H2 ⟨y, z, g2, h2, e2, m, rfl, a1, a2, a3, a4, a5⟩
      refine ⟨_, ?_, y, z, g2, h2, e2, rfl, rfl, a1, a2, a3, a4, a5⟩
      have b1 := a3 i hi
      rw [if_pos q0]
      rcases m with m | ⟨rfl, m⟩
      · split <;> omega
      · rw [if_neg m]; omega
    · walk_at "gs"
      refine fH_rooms E hin ?_
      refine fR_close E r1 ?_
      walk_at "gs"
      refine go_ixL (SqL.of r5) (atI_nat gli) ?_
      refine ⟨li, rfl, ⟨_, SqL.of hli⟩, for_list (xs := nv (X.nb i)) (fun j σ H2 => ∃ (y z : Option V) (g2 : Nat → Nat → Int) (e2 : Nat → Int), σ = [some (.ref X.hp), some (.int i), y, z] ∧ But X.bd X.H0 H2 ∧ HgP K X H2 g2 h' e2 ∧ SqL K H2 li (nv (X.nb i)) ∧ PInv X.n X.cp X.F X.T g2 h' e2 ∧ phi X.n X.F h' e2 + (e' i - e2 i) ≤ phi X.n X.F h' e' ∧
        ∀ t, t < j → ∀ o, (X.nb i)[t]? = some o → 0 < e2 i → ¬ (0 < (X.cp i o : Nat) - g2 i o ∧ h' i = h' o + 1)) ⟨y, z, g', e', rfl, P.bu, P, SqL.of hli, PI, by omega, fun t ht => absurd ht (Nat.not_lt_zero _)⟩ (fun j σ H2 _ p => ?_) ?_ ?_⟩
      · obtain ⟨_, _, _, _, _, _, _, h, _⟩ := p
        exact h
      · rintro j x σ H2 hx ⟨y, z, g2, e2, rfl, _, P2, hl2, PI2, ph, dn⟩
        obtain ⟨o, ho, rfl⟩ := nv_get hx
        have hco : X.cp i o ≠ 0 := (C.mem i o hi).mp (List.mem_of_getElem? ho)
        obtain ⟨_, on, neo⟩ := C.nz i o hco
        obtain ⟨dx2, hin2⟩ := P2.ins
        walk_at "gs"
        refine fH_rooms E hin2 ?_
        refine rm_ins P2.rm (fun _ _ _ => rfl) ?_
        walk_at "gs"
        refine ⟨X.r, X.n, X.cp, X.nb, X.bd, g2, i, o, rfl, P2.rm, P2.br, rfl, rfl, fun H3 s3 => ?_⟩
        have P3 := P2.same s3
        obtain ⟨dx3, hin3⟩ := P3.ins
        have hl3 := s3.seqL hl2
        walk_at "gs"
        have skip : ¬ (0 < ((X.cp i o : Nat) : Int) - g2 i o ∧ h' i = h' o + 1) → ∀ t, t < j + 1 → ∀ o, (X.nb i)[t]? = some o → 0 < e2 i → ¬ (0 < ((X.cp i o : Nat) : Int) - g2 i o ∧ h' i = h' o + 1) := fun no t ht o2 ho2 he => by
          by_cases q : t = j
          · subst q
            rw [ho] at ho2
            cases ho2
            exact no
          · exact dn t (by omega) o2 ho2 he
        refine ite_dec (fun q1 => ?_) fun q1 => ?_
        · walk_at "gs"
          refine fH_heights E hin3 ?_
          walk_at "gs"
          refine go_ixL (SqL.of P3.hh) (atI_nat (rowI_get hi)) ?_
          walk_at "gs"
          refine fH_heights E hin3 ?_
          walk_at "gs"
          refine go_ixL (SqL.of P3.hh) (atI_nat (rowI_get on)) ?_
          walk_at "gs"
          refine ite_dec (fun q2 => ?_) fun q2 => ?_
          · have ad : h' i = h' o + 1 := by
              unfold hI at q2
              omega
            walk_at "gs"
            refine ⟨X.hp, dx3, _, rfl, hin3, by rfl, ?_⟩
            walk_at "gs"
            refine fH_too_much E hin3 ?_
            walk_at "gs"
            refine go_ixL (SqL.of P3.ht) (atI_nat (rowI_get hi)) ?_
            walk_at "gs"
            have pe := PI2.pos i hi iF
            refine ⟨X, g2, h', e2, i, o, min (((X.cp i o : Nat) : Int) - g2 i o) (e2 i), rfl, P3, rfl, rfl, rfl, hi, on, neo, fun H4 P4 => ?_⟩
            have x0 : 0 ≤ min (((X.cp i o : Nat) : Int) - g2 i o) (e2 i) := by omega
            have x1 : min (((X.cp i o : Nat) : Int) - g2 i o) (e2 i) ≤ ((X.cp i o : Nat) : Int) - g2 i o := by omega
            have x2 : min (((X.cp i o : Nat) : Int) - g2 i o) (e2 i) ≤ e2 i := by omega
            have x3 : min (((X.cp i o : Nat) : Int) - g2 i o) (e2 i) = ((X.cp i o : Nat) : Int) - g2 i o ∨ min (((X.cp i o : Nat) : Int) - g2 i o) (e2 i) = e2 i := by omega
            generalize min (((X.cp i o : Nat) : Int) - g2 i o) (e2 i) = xx at *
            have pp := phi_push (F := X.F) (h := h') (e := e2) hi on neo iF x0 ad
            have ee : pushE e2 i o xx i = e2 i - xx := by
              unfold pushE
              rw [if_pos rfl, if_neg neo]; omega
            refine ⟨_, _, _, _, rfl, P4.bu, P4, ?_, PI2.push hi on neo iF x0 x1 x2 ad, by rw [ee]; omega, fun t ht o2 ho2 he => ?_⟩
            · exact SqL.of (P4.keep hli0 (by intro kb z; cases z))
            · rw [ee] at he
              by_cases q : t = j
              · subst q
                rw [ho] at ho2
                cases ho2
                rw [putG_at xx neo, if_pos ⟨rfl, rfl⟩, if_neg (by omega)]
                rcases x3 with x3 | x3
                · omega
                · omega
              · have ne2 : o2 ≠ o := fun z => by
                  subst z
                  have h1 := (List.getElem?_eq_some_iff.mp ho)
                  have h2 := (List.getElem?_eq_some_iff.mp ho2)
                  have nd : (X.nb i).Nodup := nds.imp fun h => Nat.ne_of_lt h
                  exact q ((List.getElem_inj nd).mp (h2.2.trans h1.2.symm))
                rw [putG_at xx neo, if_neg (fun z => ne2 z.2), if_neg (fun z => by omega)]
                have := dn t (by omega) o2 ho2 (by omega)
                omega
          · walk_at "gs"
            exact ⟨_, _, g2, e2, rfl, P3.bu, P3, hl3, PI2, ph, skip fun z => q2 (by unfold hI; omega)⟩
        · walk_at "gs"
          exact ⟨_, _, g2, e2, rfl, P3.bu, P3, hl3, PI2, ph, skip fun z => q1 z.1⟩
      · rintro σ H2 ⟨y, z, g2, e2, rfl, _, P2, hl2, PI2, ph, dn⟩
        rw [nv_len] at dn
        obtain ⟨dx2, hin2⟩ := P2.ins
        walk_at "gs"
        refine fH_too_much E hin2 ?_
        walk_at "gs"
        refine go_ixL (SqL.of P2.ht) (atI_nat (rowI_get hi)) ?_
        walk_at "gs"
        refine ite_dec (fun q1 => ?_) fun q1 => ?_
        · walk_at "gs"
          refine ⟨X.hp, dx2, _, rfl, hin2, by rfl, ?_⟩
          walk_at "gs"
          obtain ⟨j, hj, sj⟩ := PI2.out hi q1
          refine ⟨X, g2, h', e2, i, rfl, P2, rfl, hi, ⟨j, fun z => PI2.noarc C z sj, sj⟩, fun H3 k P3 hk1 hk2 => ?_⟩
          have hk : h' i ≤ k := by
            obtain ⟨o, o1, o2, rfl⟩ := hk2
            obtain ⟨_, on, _⟩ := C.nz i o o1
            obtain ⟨t, ht⟩ := List.mem_iff_getElem?.mp ((C.mem i o hi).mpr o1)
            have := dn t (List.getElem?_eq_some_iff.mp ht).1 o ht q1
            have := PI2.lab i o hi on o2
            omega
          have PI3 := PI2.lift C iF iT hk fun v _ hv1 hv2 => hk1 v hv1 hv2
          have hi3 : (if i = i then k + 1 else h' i) = k + 1 := if_pos rfl
          refine ⟨_, _, g2, _, e2, .inl (by rw [hi3]; omega), rfl, P3, PI3, fun v hv => ?_, fun v => ?_, .inl (by rw [hi3]; have := up i; omega)⟩
          · by_cases q : v = i
            · rw [q]; exact PI3.high hi q1
            · simp only [if_neg q]; exact hm' v hv
          · by_cases q : v = i
            · rw [q, hi3]; have := up i; omega
            · simp only [if_neg q]; exact up v
        · walk_at "gs"
          refine ⟨_, _, g2, h', e2, .inr ⟨rfl, q1⟩, rfl, P2, PI2, hm', up, ?_⟩
          rcases prog with p | ⟨rfl, p⟩
          · exact .inl p
          · exact .inr ⟨rfl, by omega⟩
  · walk_at "gs"
    refine hQ H' g' h' e' P PI hm' ⟨up, ?_⟩
    rcases prog with p | ⟨rfl, p⟩
    · exact .inl ⟨i, hi, p⟩
    · exact .inr ⟨rfl, by omega⟩
structure QInv (n : Nat) (cp : Nat → Nat → Nat) (F : List Nat) (g : Nat → Nat → Int) (e : Nat → Int) : Prop where
  anti : ∀ i j, g j i = - g i j
  le : ∀ i j, g i j ≤ (cp i j : Nat)
  net : ∀ v, v < n → e v = - outN n g v
  pos : ∀ v, v < n → v ∉ F → 0 ≤ e v
theorem QInv.push {n : Nat} {cp : Nat → Nat → Nat} {F : List Nat} {g : Nat → Nat → Int} {e : Nat → Int} (P : QInv n cp F g e) {i j : Nat} (hi : i < n) (hj : j < n) (ne : i ≠ j) (iF : i ∈ F) (jF : j ∉ F) :
    QInv n cp F (putG g i j ((cp i j : Nat) - g i j)) (pushE e i j ((cp i j : Nat) - g i j)) ∧ (putG g i j ((cp i j : Nat) - g i j) i j = (cp i j : Nat)) ∧ ∀ f o, f ∈ F → o ∉ F → g f o ≤ putG g i j ((cp i j : Nat) - g i j) f o := by
  have x0 : 0 ≤ (cp i j : Nat) - g i j := by have := P.le i j; omega
  refine ⟨⟨putG_anti ne P.anti, fun a b => ?_, fun v hv => ?_, fun v hv vF => ?_⟩, ?_, fun f o hf ho => ?_⟩
  · have := P.le a b
    unfold putG
    split
    · rename_i q; rw [q.1, q.2]; omega
    · split
      · have := P.le j i
        rename_i q; rw [q.1, q.2]; omega
      · exact this
  · unfold pushE
    rw [outN_put ne hi hj, P.net v hv]
    omega
  · have := P.pos v hv vF
    unfold pushE
    rw [if_neg (fun z : v = i => vF (z ▸ iF))]
    split <;> omega
  · rw [putG_at _ ne, if_pos ⟨rfl, rfl⟩, if_neg (by omega)]; omega
  · rw [putG_at _ ne, if_neg (c := f = j ∧ o = i) (fun z => jF (z.1 ▸ hf))]
    split <;> omega
theorem But.updN {p q : Addr} {H0 H : Hp} {o : HO} (b : But p H0 H) (n : H0 q = none) : But p H0 (upd H q o) := fun x u ne h => by
  rw [upd_ne (ne_of_none h n)]
  exact b x u ne h
theorem But.freeN {p q : Addr} {H0 H : Hp} {u : HO} (b : But p H0 H) (hp : H p = some u) (n : H q = none) : H0 q = none := b.fresh hp n
theorem rep_row (n : Nat) : (List.replicate n [V.int 0]).flatten = rowI n (fun _ => 0) := by
  unfold rowI
  induction n with
  | zero => rfl
  | succ n ih =>
    rw [List.range_succ, List.map_append, ← ih, List.replicate_succ', List.flatten_append]
    rfl
def sp_Heights_init (K : PySem.W.Frag) (a b c d : V) (H : Hp) (Q : VK) : Prop := ∃ (H0 : Hp) (hp dx r : Addr) (n : Nat) (cp : Nat → Nat → Nat) (nb : Nat → List Nat) (bd : Addr) (F T : List Nat), a = .ref hp ∧ H hp = some (.ins (He.ga K "Heights") dx []) ∧ b = .ref r ∧ H0 hp = none ∧ Same H0 H ∧ RmI K H0 r n cp nb bd ∧ BrI H0 bd n (fun _ _ => 0) ∧ EndsT K H0 c d F T ∧ Cs.Ends n F T ∧
  ∀ H1 ed hl tl g h e, HgP K ⟨H0, hp, r, n, cp, nb, bd, ed, hl, tl, F, T⟩ H1 g h e → PInv n cp F T g h e → (∀ v, v < n → h v ≤ 2 * n) → Q .non H1
theorem take_in {F : List Nat} {i f v : Nat} (hf : F[i]? = some f) : v ∈ F.take (i + 1) ↔ v = f ∨ v ∈ F.take i := by
  rw [List.take_add_one, hf, List.mem_append]
  constructor
  · rintro (h | h)
    · exact .inr h
    · exact .inl (by simpa using h)
  · rintro (h | h)
    · exact .inr (by simpa using h)
    · exact .inl h
theorem pure_Heights_init {K : PySem.W.Frag} {mg : Str → Option Value} (E : En K mg) : ∀ vs H Q, u4 (sp_Heights_init K) vs H Q → t_Heights_init K (u4 (sp_Heights_push K)) (u3 (sp_Rooms_spare K)) { nx := fun _ H' => Q .non H', rt := Q } (L2.start ["self", "rooms", "froms", "tos", "place", "other"] vs) H := by
  rintro _ H Q ⟨_, _, _, _, rfl, H0, hp, dx, r, n, cp, nb, bd, F, T, rfl, hh, rfl, fhp, s0, hr, hb, ⟨l, m, rfl, rfl, hF, hT⟩, ok, hQ⟩
  obtain ⟨rF, rT, nF, nT, dj⟩ := id ok
  obtain ⟨dxr, wd, cl, kw, r1, r2, r3, r4, ⟨ls, r5, r6, r7⟩, C⟩ := id hr
  obtain ⟨kb0, hb0, B0⟩ := id hb
  have hn := C.small
  have lF := rising_len rF
  have lT := rising_len rT
  have b0 : But bd H0 H := s0.but
  have hbd : H bd = some (.dT kb0) := s0 _ _ hb0
  have nbh : bd ≠ hp := ne_of_none hb0 fhp
  have nrh : r ≠ hp := ne_of_none r1 fhp
  have nrb : r ≠ bd := ne_of r1 hb0 (by intro z; cases z)
  unfold t_Heights_init
  walk_at "st"
  walk_at "gs"
  refine ⟨hp, _, dx, _, rfl, hh, E.cls_Heights, E.na_Heights_rooms, by show 0 < 1000; decide, ?_⟩
  have b1 : But bd H0 (upd H hp (.ins (He.ga K "Heights") dx (putF "rooms" (.ref r) []))) := b0.updN fhp
  have hh1 : (upd H hp (.ins (He.ga K "Heights") dx (putF "rooms" (.ref r) []))) hp = some (.ins (He.ga K "Heights") dx [("rooms", .ref r)]) := by rw [upd_same]; rfl
  have hbd1 : (upd H hp (.ins (He.ga K "Heights") dx (putF "rooms" (.ref r) []))) bd = some (.dT kb0) := by rw [upd_ne nbh]; exact hbd
  generalize upd H hp (.ins (He.ga K "Heights") dx (putF "rooms" (.ref r) [])) = H1 at *
  walk_at "gs"
  refine ⟨l, nv F, rfl, .inr ⟨b1.sqT hb hF, ?_⟩⟩
  walk_at "gs"
  refine ⟨m, nv T, rfl, .inr ⟨b1.sqT hb hT, ?_⟩⟩
  refine ⟨l, m, nv F, nv T, rfl, rfl, b1.sqT hb hF, b1.sqT hb hT, fun z => nF (List.map_eq_nil_iff.mp z), by rw [nv_len, nv_len, sizeLine_eq]; omega, fun z => absurd (List.map_eq_nil_iff.mp z) nT, fun _ ed ned => ?_⟩
  have fed := b1.freeN hbd1 ned
  have ape : nv F ++ nv T = nv (F ++ T) := by unfold nv; rw [List.map_append]
  rw [ape]
  have b2 : But bd H0 (upd H1 ed (.tup (nv (F ++ T)))) := b1.updN fed
  have s2 : Same H1 (upd H1 ed (.tup (nv (F ++ T)))) := sameNew ned
  have hed2 : (upd H1 ed (.tup (nv (F ++ T)))) ed = some (.tup (nv (F ++ T))) := upd_same
  have hh2 := s2 _ _ hh1
  have hbd2 := s2 _ _ hbd1
  generalize upd H1 ed (.tup (nv (F ++ T))) = H2 at *
  have neh : ed ≠ hp := ne_of hed2 hh2 (by intro z; cases z)
  walk_at "gs"
  refine ⟨hp, _, dx, _, rfl, hh2, E.cls_Heights, E.na_Heights_ends, by show 1 < 1000; decide, ?_⟩
  have b3 : But bd H0 (upd H2 hp (.ins (He.ga K "Heights") dx (putF "ends" (.ref ed) [("rooms", .ref r)]))) := b2.updN fhp
  have hh3 : (upd H2 hp (.ins (He.ga K "Heights") dx (putF "ends" (.ref ed) [("rooms", .ref r)]))) hp = some (.ins (He.ga K "Heights") dx [("rooms", .ref r), ("ends", .ref ed)]) := by rw [upd_same]; rfl
  have hbd3 : (upd H2 hp (.ins (He.ga K "Heights") dx (putF "ends" (.ref ed) [("rooms", .ref r)]))) bd = some (.dT kb0) := by rw [upd_ne nbh]; exact hbd2
  have hed3 : (upd H2 hp (.ins (He.ga K "Heights") dx (putF "ends" (.ref ed) [("rooms", .ref r)]))) ed = some (.tup (nv (F ++ T))) := by rw [upd_ne neh]; exact hed2
  generalize upd H2 hp (.ins (He.ga K "Heights") dx (putF "ends" (.ref ed) [("rooms", .ref r)])) = H3 at *
  walk_at "gs"
  intro z1 nz1
  have fz1 := b3.freeN hbd3 nz1
  have s4 : Same H3 (upd H3 z1 (.lst [.int 0])) := sameNew nz1
  have b4 : But bd H0 (upd H3 z1 (.lst [.int 0])) := b3.updN fz1
  walk_at "gs"
  refine fR_size E (b4 _ _ nrb r1) ?_
  refine ⟨z1, n, [.int 0], rfl, rfl, upd_same, by omega, by omega, by rw [sizeLine_eq]; simp; omega, fun hl nhl => ?_⟩
  rw [Int.toNat_natCast, rep_row]
  have s5 := s4.trans (sameNew (o := .lst (rowI n (fun _ => 0))) nhl)
  have fhl := b4.freeN (s4 _ _ hbd3) nhl
  have b5 : But bd H0 (upd (upd H3 z1 (.lst [.int 0])) hl (.lst (rowI n (fun _ => 0)))) := b4.updN fhl
  have hh5 := s5 _ _ hh3
  have hbd5 := s5 _ _ hbd3
  have hed5 := s5 _ _ hed3
  have hhl5 : (upd (upd H3 z1 (.lst [.int 0])) hl (.lst (rowI n (fun _ => 0)))) hl = some (.lst (rowI n (fun _ => 0))) := upd_same
  generalize upd (upd H3 z1 (.lst [.int 0])) hl (.lst (rowI n (fun _ => 0))) = H5 at *
  have nlh : hl ≠ hp := ne_of hhl5 hh5 (by intro z; cases z)
  walk_at "gs"
  refine ⟨hp, _, dx, _, rfl, hh5, E.cls_Heights, E.na_Heights_heights, by show 2 < 1000; decide, ?_⟩
  have b6 : But bd H0 (upd H5 hp (.ins (He.ga K "Heights") dx (putF "heights" (.ref hl) [("rooms", .ref r), ("ends", .ref ed)]))) := b5.updN fhp
  have hh6 : (upd H5 hp (.ins (He.ga K "Heights") dx (putF "heights" (.ref hl) [("rooms", .ref r), ("ends", .ref ed)]))) hp = some (.ins (He.ga K "Heights") dx [("rooms", .ref r), ("ends", .ref ed), ("heights", .ref hl)]) := by rw [upd_same]; rfl
  have hbd6 : (upd H5 hp (.ins (He.ga K "Heights") dx (putF "heights" (.ref hl) [("rooms", .ref r), ("ends", .ref ed)]))) bd = some (.dT kb0) := by rw [upd_ne nbh]; exact hbd5
  have hed6 : (upd H5 hp (.ins (He.ga K "Heights") dx (putF "heights" (.ref hl) [("rooms", .ref r), ("ends", .ref ed)]))) ed = some (.tup (nv (F ++ T))) := by rw [upd_ne neh]; exact hed5
  have hhl6 : (upd H5 hp (.ins (He.ga K "Heights") dx (putF "heights" (.ref hl) [("rooms", .ref r), ("ends", .ref ed)]))) hl = some (.lst (rowI n (fun _ => 0))) := by rw [upd_ne nlh]; exact hhl5
  generalize upd H5 hp (.ins (He.ga K "Heights") dx (putF "heights" (.ref hl) [("rooms", .ref r), ("ends", .ref ed)])) = H6 at *
  walk_at "gs"
  intro z2 nz2
  have fz2 := b6.freeN hbd6 nz2
  have s7 : Same H6 (upd H6 z2 (.lst [.int 0])) := sameNew nz2
  have b7 : But bd H0 (upd H6 z2 (.lst [.int 0])) := b6.updN fz2
  walk_at "gs"
  refine fR_size E (b7 _ _ nrb r1) ?_
  refine ⟨z2, n, [.int 0], rfl, rfl, upd_same, by omega, by omega, by rw [sizeLine_eq]; simp; omega, fun tl ntl => ?_⟩
  rw [Int.toNat_natCast, rep_row]
  have s8 := s7.trans (sameNew (o := .lst (rowI n (fun _ => 0))) ntl)
  have ftl := b7.freeN (s7 _ _ hbd6) ntl
  have b8 : But bd H0 (upd (upd H6 z2 (.lst [.int 0])) tl (.lst (rowI n (fun _ => 0)))) := b7.updN ftl
  have hh8 := s8 _ _ hh6
  have hbd8 := s8 _ _ hbd6
  have hed8 := s8 _ _ hed6
  have hhl8 := s8 _ _ hhl6
  have nhtl : hl ≠ tl := ne_of_none (s7 _ _ hhl6) ntl
  have htl8 : (upd (upd H6 z2 (.lst [.int 0])) tl (.lst (rowI n (fun _ => 0)))) tl = some (.lst (rowI n (fun _ => 0))) := upd_same
  generalize upd (upd H6 z2 (.lst [.int 0])) tl (.lst (rowI n (fun _ => 0))) = H8 at *
  have nth : tl ≠ hp := ne_of htl8 hh8 (by intro z; cases z)
  walk_at "gs"
  refine ⟨hp, _, dx, _, rfl, hh8, E.cls_Heights, E.na_Heights_too_much, by show 3 < 1000; decide, ?_⟩
  have P9 : HgP K ⟨H0, hp, r, n, cp, nb, bd, ed, hl, tl, F, T⟩ (upd H8 hp (.ins (He.ga K "Heights") dx (putF "too_much" (.ref tl) [("rooms", .ref r), ("ends", .ref ed), ("heights", .ref hl)]))) (fun _ _ => 0) (fun v => if v ∈ F.take 0 then n else 0) (fun _ => 0) := by
    refine ⟨hr, ⟨_, hb⟩, b8.updN fhp, ⟨kb0, ?_, B0⟩, fhl, ftl, nhtl, ⟨dx, ?_⟩, SqT.of ?_, ?_, ?_⟩
    · rw [upd_ne nbh]; exact hbd8
    · rw [upd_same]; rfl
    · rw [upd_ne neh]; exact hed8
    · rw [upd_ne nlh, hhl8]
      exact congrArg (fun l => some (HO.lst l)) (rowI_congr fun v _ => by
        show (0 : Int) = (((if v ∈ F.take 0 then n else 0) : Nat) : Int)
        rw [List.take_zero, if_neg (by simp)]; rfl)
    · rw [upd_ne nth]; exact htl8
  generalize upd H8 hp (.ins (He.ga K "Heights") dx (putF "too_much" (.ref tl) [("rooms", .ref r), ("ends", .ref ed), ("heights", .ref hl)])) = H9 at *
  walk_at "gs"
  refine ⟨l, rfl, ⟨_, P9.bu.sqT hb hF⟩, for_tup (xs := nv F) (fun i σ H' => (∃ y z, σ = [some (.ref hp), some (.ref r), some (.ref l), some (.ref m), y, z]) ∧ HgP K ⟨H0, hp, r, n, cp, nb, bd, ed, hl, tl, F, T⟩ H' (fun _ _ => 0) (fun v => if v ∈ F.take i then n else 0) (fun _ => 0)) ⟨⟨_, _, rfl⟩, P9⟩ (fun i σ H' _ p => p.2.bu.sqT hb hF) ?_ ?_⟩
  · rintro i x σ H' hx ⟨⟨y, z, rfl⟩, P⟩
    obtain ⟨f, hf, rfl⟩ := nv_get hx
    have fn := rF.2 f (List.mem_of_getElem? hf)
    obtain ⟨dx', hin⟩ := P.ins
    walk_at "gs"
    refine fR_size E (P.bu _ _ nrb r1) ?_
    walk_at "gs"
    refine fH_heights E hin ?_
    walk_at "gs"
    refine go_setL P.hh (ixN_nat (by rw [rowI_len]; exact fn)) ?_
    have P2 := P.setH f n
    refine ⟨⟨_, _, rfl⟩, ?_⟩
    have ee : (fun v => if v = f then n else if v ∈ F.take i then n else 0) = fun v => if v ∈ F.take (i + 1) then n else 0 := by
      funext v
      by_cases q : v ∈ F.take (i + 1)
      · rw [if_pos q]
        rcases (take_in hf).mp q with h | h
        · rw [if_pos h]
        · rw [if_pos h]; split <;> rfl
      · rw [if_neg q, if_neg (fun z => q ((take_in hf).mpr (.inl z))), if_neg (fun z => q ((take_in hf).mpr (.inr z)))]
    rw [ee] at P2
    exact P2
  · rintro σ H' ⟨⟨y, z, rfl⟩, P⟩
    rw [nv_len, List.take_length] at P
    walk_at "gs"
    refine ⟨l, rfl, ⟨_, P.bu.sqT hb hF⟩, for_tup (xs := nv F) (fun a σ H' => ∃ (y z : Option V) (g : Nat → Nat → Int) (e : Nat → Int), σ = [some (.ref hp), some (.ref r), some (.ref l), some (.ref m), y, z] ∧ HgP K ⟨H0, hp, r, n, cp, nb, bd, ed, hl, tl, F, T⟩ H' g (fun v => if v ∈ F then n else 0) e ∧ QInv n cp F g e ∧
      ∀ t, t < a → ∀ f, F[t]? = some f → ∀ o, o ∉ F → cp f o ≠ 0 → (cp f o : Nat) - g f o ≤ 0) ⟨_, _, _, _, rfl, P, ⟨fun _ _ => rfl, fun _ _ => Int.natCast_nonneg _, fun v _ => by unfold outN; rw [sm_zero]; rfl, fun _ _ _ => Int.le_refl _⟩, fun t ht => absurd ht (Nat.not_lt_zero _)⟩ (fun a σ H' _ p => ?_) ?_ ?_⟩
    · obtain ⟨_, _, _, _, _, P, _⟩ := p
      exact P.bu.sqT hb hF
    · rintro a x σ H' hx ⟨y, z, g, e, rfl, P, QI, dn⟩
      obtain ⟨f, hf, rfl⟩ := nv_get hx
      have fF := List.mem_of_getElem? hf
      have fn := rF.2 f fF
      obtain ⟨lf, elf, hlf⟩ := r7 f fn
      have glf : (ls.map V.ref)[f]? = some (.ref lf) := by rw [List.getElem?_map, elf]; rfl
      have lnb := rising_len (C.up f fn)
      walk_at "gs"
      refine fR_close E (P.bu _ _ nrb r1) ?_
      walk_at "gs"
      refine go_ixL (SqL.of (P.keep r5 (by intro kb z; cases z))) (atI_nat glf) ?_
      refine ⟨lf, rfl, ⟨_, SqL.of (P.keep hlf (by intro kb z; cases z))⟩, for_list (xs := nv (nb f)) (fun b σ H' => ∃ (z : Option V) (g : Nat → Nat → Int) (e : Nat → Int), σ = [some (.ref hp), some (.ref r), some (.ref l), some (.ref m), some (.int f), z] ∧ HgP K ⟨H0, hp, r, n, cp, nb, bd, ed, hl, tl, F, T⟩ H' g (fun v => if v ∈ F then n else 0) e ∧ QInv n cp F g e ∧
        (∀ t, t < a → ∀ f, F[t]? = some f → ∀ o, o ∉ F → cp f o ≠ 0 → (cp f o : Nat) - g f o ≤ 0) ∧ ∀ t, t < b → ∀ o, (nb f)[t]? = some o → o ∉ F → (cp f o : Nat) - g f o ≤ 0) ⟨z, g, e, rfl, P, QI, dn, fun t ht => absurd ht (Nat.not_lt_zero _)⟩ (fun b σ H' _ p => ?_) ?_ ?_⟩
      · obtain ⟨_, _, _, _, P, _⟩ := p
        exact SqL.of (P.keep hlf (by intro kb z; cases z))
      · rintro b x σ H' hx ⟨z, g, e, rfl, P, QI, dn, dn2⟩
        obtain ⟨o, ho, rfl⟩ := nv_get hx
        have hco : cp f o ≠ 0 := (C.mem f o fn).mp (List.mem_of_getElem? ho)
        obtain ⟨_, on, neo⟩ := C.nz f o hco
        obtain ⟨dx', hin⟩ := P.ins
        walk_at "gs"
        refine go_notin (.inr (P.bu.sqT hb hF)) ?_
        walk_at "gs"
        by_cases oF : o ∈ F
        · rw [decide_eq_true oF]
          walk_at "gs"
          refine ⟨_, g, e, rfl, P, QI, dn, fun t ht o2 ho2 h2 => ?_⟩
          by_cases q : t = b
          · subst q
            rw [ho] at ho2
            cases ho2
            exact absurd oF h2
          · exact dn2 t (by omega) o2 ho2 h2
        · rw [decide_eq_false oF]
          walk_at "gs"
          refine ⟨hp, dx', _, rfl, hin, by rfl, ?_⟩
          walk_at "gs"
          refine rm_ins P.rm (fun _ _ _ => rfl) ?_
          walk_at "gs"
          refine ⟨r, n, cp, nb, bd, g, f, o, rfl, P.rm, P.br, rfl, rfl, fun H3 s3 => ?_⟩
          walk_at "gs"
          obtain ⟨Q1, Q2, Q3⟩ := QI.push fn on neo fF oF
          refine ⟨⟨H0, hp, r, n, cp, nb, bd, ed, hl, tl, F, T⟩, g, _, e, f, o, _, rfl, P.same s3, rfl, rfl, rfl, fn, on, neo, fun H4 P4 => ?_⟩
          refine ⟨_, _, _, rfl, P4, Q1, fun t ht f2 hf2 o2 h2 h3 => ?_, fun t ht o2 ho2 h2 => ?_⟩
          · have := dn t ht f2 hf2 o2 h2 h3
            have := Q3 f2 o2 (List.mem_of_getElem? hf2) h2
            omega
          · by_cases q : t = b
            · subst q
              rw [ho] at ho2
              cases ho2
              rw [Q2]; omega
            · have := dn2 t (by omega) o2 ho2 h2
              have := Q3 f o2 fF h2
              omega
      · rintro σ H' ⟨z, g, e, rfl, P, QI, dn, dn2⟩
        rw [nv_len] at dn2
        walk_at "gs"
        refine ⟨_, _, g, e, rfl, P, QI, fun t ht f2 hf2 o h2 h3 => ?_⟩
        by_cases q : t = a
        · subst q
          rw [hf] at hf2
          cases hf2
          obtain ⟨k, hk⟩ := List.mem_iff_getElem?.mp ((C.mem f o fn).mpr h3)
          exact dn2 k (List.getElem?_eq_some_iff.mp hk).1 o hk h2
        · exact dn t (by omega) f2 hf2 o h2 h3
    · rintro σ H' ⟨y, z, g, e, rfl, P, QI, dn⟩
      rw [nv_len] at dn
      refine hQ H' ed hl tl g _ e P ⟨QI.anti, QI.le, QI.net, QI.pos, fun u v hu hv hs => ?_, fun v hv => if_pos hv, fun v hv => if_neg fun z => dj v z hv⟩ fun v _ => ?_
      · by_cases q1 : u ∈ F
        · by_cases q2 : v ∈ F
          · simp only [if_pos q1, if_pos q2]; omega
          · exfalso
            obtain ⟨t, ht⟩ := List.mem_iff_getElem?.mp q1
            by_cases c0 : cp u v = 0
            · have a1 := QI.anti u v
              have a2 := QI.le v u
              have a3 := C.sym u v
              omega
            · have := dn t (List.getElem?_eq_some_iff.mp ht).1 u ht v q2 c0
              omega
        · simp only [if_neg q1]; omega
      · show (if v ∈ F then n else 0) ≤ 2 * n
        split <;> omega
def sp_pushed_flow (K : PySem.W.Frag) (a b c : V) (H : Hp) (Q : VK) : Prop := ∃ (w : Addr) (n : Nat) (es : List Tie) (F T : List Nat), a = .ref w ∧ WebI K H w n es ∧ EsOk n es ∧ EndsT K H b c F T ∧ Cs.Ends n F T ∧
  ∀ v fl g H1, Same H H1 → FlowT K H1 v fl → FlowOf n g fl → MaxG n (tieW es) F T g → Q v H1
/-- what waits: none, or a place between the ends -/
def Waits (n : Nat) (F T : List Nat) (e : Nat → Int) (v : V) : Prop := (v = .non ∧ ∀ v, v < n → 0 < e v → v ∈ F ∨ v ∈ T) ∨ ∃ i : Nat, v = .int i ∧ i < n ∧ 0 < e i ∧ i ∉ F ∧ i ∉ T
theorem hg_ins {K : PySem.W.Frag} {X : HX} {H : Hp} {g : Nat → Nat → Int} {h : Nat → Nat} {e : Nat → Int} (P : HgP K X H g h e) {m : Str} {R : Prop} (hm : ∀ r ed hl tl, (hf r ed hl tl).lookup m = none) (q : R) : ∃ a dx fs, V.ref X.hp = .ref a ∧ H a = some (.ins (He.ga K "Heights") dx fs) ∧ fs.lookup m = none ∧ R := by
  obtain ⟨dx, h1⟩ := P.ins
  exact ⟨X.hp, dx, _, rfl, h1, hm _ _ _ _, q⟩
theorem go_waits {K : PySem.W.Frag} {X : HX} {H : Hp} {g : Nat → Nat → Int} {h : Nat → Nat} {e : Nat → Int} {Q : VK} (P : HgP K X H g h e) (q : ∀ v, Waits X.n X.F X.T e v → Q v H) : sp_Heights_waiting K (.ref X.hp) H Q :=
  ⟨X, g, h, e, rfl, P, fun no => q _ (.inl ⟨rfl, no⟩), fun v h1 h2 h3 h4 => q _ (.inr ⟨v, rfl, h1, h2, h3, h4⟩)⟩
theorem pure_pushed_flow {K : PySem.W.Frag} : ∀ vs H Q, u3 (sp_pushed_flow K) vs H Q → t_pushed_flow K (u3 (sp_are_ends K)) (u2 (sp_rooms_of K)) (u4 (sp_Heights_init K)) (u1 (sp_Heights_waiting K)) (u2 (sp_Heights_clear K)) (u1 (sp_Rooms_flow K)) { nx := fun _ H' => Q .non H', rt := Q } (L2.start ["web", "froms", "tos", "rooms", "heights", "place"] vs) H := by
  rintro _ H Q ⟨_, b, c, rfl, w, n, es, F, T, rfl, hw, eo, hE, ok, hQ⟩
  have hn := eo.small
  unfold t_pushed_flow
  walk_at "st"
  walk_at "gs"
  refine ⟨w, n, es, F, T, rfl, hw, by omega, hE, ok, fun H1 s1 => ?_⟩
  walk_at "gs"
  intro p np
  walk_at "gs"
  have s2 := s1.trans (sameNew (o := .tup []) np)
  refine ⟨w, n, es, p, rfl, s2.web hw, eo, rfl, SqT.of upd_same, fun H2 r nb bd s3 nbd hr hb => ?_⟩
  have s4 := s2.trans s3
  have fbd := s2.free nbd
  walk_at "gs"
  walk_at "gs"
  intro hp dx nhp ndx nee
  refine ⟨rfl, _, _, _, _, rfl, ?_⟩
  refine ⟨H2, hp, dx, r, n, tieW es, nb, bd, F, T, rfl, upd_same, rfl, nhp, sameMk nhp ndx, hr, hb, s4.endsT hE, ok, fun H3 ed hl tl g h e P PI hm => ⟨rfl, ?_⟩⟩
  have keep : ∀ H4 g h e, HgP K ⟨H2, hp, r, n, tieW es, nb, bd, ed, hl, tl, F, T⟩ H4 g h e → Same H H4 := fun H4 g h e P => P.bu.same s4 fbd
  walk_at "gs"
  refine hg_ins P (fun _ _ _ _ => rfl) ?_
  walk_at "gs"
  refine go_waits P fun v wv => ?_
  walk_at "gs"
  refine ⟨fun k σ H' => ∃ (g : Nat → Nat → Int) (h : Nat → Nat) (e : Nat → Int) (v : V), k = (far n (tieW es) F h e).toNat ∧ σ = [some (.ref w), some b, some c, some (.ref r), some (.ref hp), some v] ∧ HgP K ⟨H2, hp, r, n, tieW es, nb, bd, ed, hl, tl, F, T⟩ H' g h e ∧ PInv n (tieW es) F T g h e ∧ (∀ v, v < n → h v ≤ 2 * n) ∧ Waits n F T e v, ⟨_, g, h, e, v, rfl, rfl, P, PI, hm, wv⟩, ?_⟩
  rintro k σ H' ⟨g, h, e, v, rfl, rfl, P, PI, hm, wv⟩
  walk_at "gs"
  rcases wv with ⟨rfl, no⟩ | ⟨i, rfl, hi, ei, iF, iT⟩
  · rw [decide_eq_true rfl]
    walk_at "gs"
    refine rm_ins P.rm (fun _ _ _ => rfl) ?_
    walk_at "gs"
    refine ⟨r, n, tieW es, nb, bd, g, rfl, P.rm, P.br, fun v fl H4 s6 hf fo => ?_⟩
    exact hQ v fl g H4 ((keep _ _ _ _ P).trans s6) hf fo (PI.done ok no)
  · rw [decide_eq_false (by intro z; cases z)]
    walk_at "gs"
    refine ⟨fun σ H' => ∃ (g' : Nat → Nat → Int) (h' : Nat → Nat) (e' : Nat → Int) (v : V), far n (tieW es) F h' e' < far n (tieW es) F h e ∧ 0 ≤ far n (tieW es) F h' e' ∧ σ = [some (.ref w), some b, some c, some (.ref r), some (.ref hp), some v] ∧ HgP K ⟨H2, hp, r, n, tieW es, nb, bd, ed, hl, tl, F, T⟩ H' g' h' e' ∧ PInv n (tieW es) F T g' h' e' ∧ (∀ v, v < n → h' v ≤ 2 * n) ∧ Waits n F T e' v, ?_, ?_⟩
    · rintro σ' H4 ⟨g', h', e', v, l1, l2, rfl, a1, a2, a3, a4⟩
      exact ⟨_, by omega, g', h', e', v, rfl, rfl, a1, a2, a3, a4⟩
    · walk_at "gs"
      refine hg_ins P (fun _ _ _ _ => rfl) ?_
      walk_at "gs"
      refine ⟨_, g, h, e, i, rfl, P, rfl, hi, iF, iT, ei, PI, hm, fun H4 g' h' e' P' PI' hm' wn => ?_⟩
      obtain ⟨f0, f1⟩ := went_far PI hm PI' hm' wn
      walk_at "gs"
      refine hg_ins P' (fun _ _ _ _ => rfl) ?_
      walk_at "gs"
      refine go_waits P' fun v wv => ?_
      walk_at "gs"
      exact ⟨g', h', e', v, f1, f0, rfl, P', PI', hm', wv⟩
/-! ### rows as sums -/
def lk : List Tie → Nat → Nat → Int
  | [], _, _ => 0
  | e :: l, i, j => (if i = e.1 ∧ j = e.2.1 then ((e.2.2 : Nat) : Int) else 0) + lk l i j
theorem lk_sum {n : Nat} (p : Nat → Nat → Bool) : ∀ {l : List Tie}, (∀ e ∈ l, e.1 < n ∧ e.2.1 < n) → ((((l.filter fun e => p e.1 e.2.1).map fun e => e.2.2).sum : Nat) : Int) = ss n fun i j => if p i j = true then lk l i j else 0
  | [], _ => by
    have : ss n (fun i j => if p i j = true then lk [] i j else 0) = 0 := by
      rw [ss_congr (g := fun _ _ => 0) fun i j _ _ => by
        split <;> rfl]
      unfold ss
      rw [sm_congr (g := fun _ => 0) fun i _ => sm_zero n, sm_zero]
    rw [this]; rfl
  | e :: l, h => by
    obtain ⟨h1, h2⟩ := h e List.mem_cons_self
    have ih := lk_sum (n := n) p (l := l) fun e' he => h e' (List.mem_cons_of_mem _ he)
    have e1 : (ss n fun i j => if p i j = true then lk (e :: l) i j else 0) = (ss n fun i j => if i = e.1 ∧ j = e.2.1 then (if p e.1 e.2.1 = true then ((e.2.2 : Nat) : Int) else 0) else 0) + ss n fun i j => if p i j = true then lk l i j else 0 := by
      rw [← ss_add]
      refine ss_congr fun i j _ _ => ?_
      show (if p i j = true then (if i = e.1 ∧ j = e.2.1 then ((e.2.2 : Nat) : Int) else 0) + lk l i j else 0) = _
      by_cases q : i = e.1 ∧ j = e.2.1
      · rw [if_pos q, if_pos q, ← q.1, ← q.2]
        split <;> omega
      · rw [if_neg q, if_neg q]
        split <;> omega
    rw [e1, ss_one _ h1 h2, ← ih, List.filter_cons]
    split
    · rw [List.map_cons, List.sum_cons, Int.natCast_add]
    · omega
theorem lk_no {i j : Nat} : ∀ {l : List Tie}, (i, j) ∉ keysN l → lk l i j = 0
  | [], _ => rfl
  | e :: l, h => by
    show (if i = e.1 ∧ j = e.2.1 then ((e.2.2 : Nat) : Int) else 0) + lk l i j = 0
    rw [if_neg (fun z => h (by rw [z.1, z.2]; exact List.mem_cons_self)), lk_no fun z => h (List.mem_cons_of_mem _ z)]
    rfl
theorem lk_in {i j p : Nat} : ∀ {l : List Tie}, (keysN l).Nodup → (i, j, p) ∈ l → lk l i j = p
  | e :: l, hn, h => by
    obtain ⟨h1, h2⟩ := List.nodup_cons.mp hn
    show (if i = e.1 ∧ j = e.2.1 then ((e.2.2 : Nat) : Int) else 0) + lk l i j = p
    rcases List.mem_cons.mp h with q | q
    · subst q
      rw [if_pos ⟨rfl, rfl⟩, lk_no h1]; simp
    · have : (i, j) ∈ keysN l := List.mem_map.mpr ⟨(i, j, p), q, rfl⟩
      rw [if_neg (fun z => h1 (by show (e.1, e.2.1) ∈ keysN l; rw [← z.1, ← z.2]; exact this)), lk_in h2 q]; simp
theorem FlowOf.lk {n : Nat} {g : Nat → Nat → Int} {fl : List Tie} (h : FlowOf n g fl) (i j : Nat) : lk fl i j = max 0 (g i j) := by
  by_cases q : 0 < g i j
  · obtain ⟨p, h1, h2⟩ := h.all i j q
    rw [lk_in (sorted_keys h.up) h1]; omega
  · rw [lk_no fun z => ?_]
    · omega
    · obtain ⟨e, he, eq⟩ := List.mem_map.mp z
      have e1 := congrArg Prod.fst eq
      have e2 := congrArg Prod.snd eq
      simp only at e1 e2
      have := (h.row e he).2.2.1
      rw [e1, e2] at this
      exact q this
theorem flow_net {n : Nat} {g : Nat → Nat → Int} {fl : List Tie} (h : FlowOf n g fl) (anti : ∀ i j, g j i = - g i j) (s : List Nat) : ((outOf fl s : Nat) : Int) - ((inTo fl s : Nat) : Int) = cross n g (fun v => decide (v ∈ s)) := by
  have lt : ∀ e ∈ fl, e.1 < n ∧ e.2.1 < n := fun e he => ⟨(h.row e he).1, (h.row e he).2.1⟩
  have e1 := lk_sum (n := n) (fun i j => decide (i ∈ s) && !decide (j ∈ s)) lt
  have e2 := lk_sum (n := n) (fun i j => decide (j ∈ s) && !decide (i ∈ s)) lt
  unfold outOf inTo
  rw [e1, e2, ss_comm n (fun i j => if (decide (j ∈ s) && !decide (i ∈ s)) = true then Cs.lk fl i j else 0)]
  have e3 : (ss n fun i j => if (decide (i ∈ s) && !decide (j ∈ s)) = true then Cs.lk fl i j else 0) = cross n g (fun v => decide (v ∈ s)) + ss n fun i j => if (decide (i ∈ s) && !decide (j ∈ s)) = true then Cs.lk fl j i else 0 := by
    unfold cross
    rw [← ss_add]
    refine ss_congr fun i j _ _ => ?_
    split
    · rw [h.lk, h.lk, anti i j]; omega
    · rfl
  rw [e3]; omega
theorem flow_wor {n : Nat} {g : Nat → Nat → Int} {fl : List Tie} (h : FlowOf n g fl) (anti : ∀ i j, g j i = - g i j) (F : List Nat) : ((outOf fl F : Nat) : Int) - ((inTo fl F : Nat) : Int) = wor n g F := by
  rw [flow_net h anti F, ← cross_eq anti]
  unfold wor
  exact sm_congr fun v _ => by
    by_cases q : v ∈ F
    · simp [q]
    · simp [q]
theorem MaxG.val {n : Nat} {cp : Nat → Nat → Nat} {F T : List Nat} {g : Nat → Nat → Int} (M : MaxG n cp F T g) : ∃ S : Nat → Bool, (∀ v ∈ F, S v = true) ∧ (∀ v ∈ T, S v = false) ∧ wor n g F = cross n (capI cp) S := by
  obtain ⟨S, h1, h2, h3⟩ := M.cut
  refine ⟨S, h1, h2, wor_sat M.ok h1 h2 fun i j hi hj si sj => ?_⟩
  have := h3 i j hi hj si sj
  have := M.ok.le i j
  omega
theorem cross_nn {n : Nat} {cp : Nat → Nat → Nat} (S : Nat → Bool) : 0 ≤ cross n (capI cp) S := sm_nonneg fun i _ => sm_nonneg fun j _ => by
  show 0 ≤ if (S i && !S j) = true then capI cp i j else 0
  split
  · exact Int.natCast_nonneg _
  · exact Int.le_refl _
theorem flow_ok {n : Nat} {es : List Tie} {F T : List Nat} {g : Nat → Nat → Int} {fl : List Tie} (h : FlowOf n g fl) (M : MaxG n (tieW es) F T g) : FlowOk n es F T fl := by
  have anti := M.ok.anti
  refine ⟨h.up, fun e he => ?_, fun e he e' he' z => ?_, by have := h.len; omega, fun e he => ?_, fun v hv h1 h2 => ?_, ?_⟩
  · obtain ⟨a, b, c, d⟩ := h.row e he
    refine ⟨a, b, fun z => ?_, by omega⟩
    have := anti e.1 e.1
    rw [← z] at c
    omega
  · have a := (h.row e he).2.2.1
    have b := (h.row e' he').2.2.1
    rw [z.1, z.2, anti e.1 e.2.1] at b
    omega
  · obtain ⟨a, b, c, d⟩ := h.row e he
    have := M.ok.le e.1 e.2.1
    omega
  · have e1 := flow_net h anti [v]
    rw [← cross_eq anti] at e1
    have e2 : (sm n fun u => if decide (u ∈ [v]) = true then outN n g u else 0) = sm n fun u => if u = v then outN n g v else 0 := sm_congr fun u _ => by
      by_cases q : u = v
      · subst q; simp
      · simp [q]
    rw [e2, sm_one, if_pos hv, M.ok.cons v hv h1 h2] at e1
    omega
  · obtain ⟨S, _, _, w⟩ := M.val
    have := cross_nn (n := n) (cp := tieW es) S
    have := flow_wor h anti F
    omega
/-! ### ties as sums -/
def tk : List Tie → Nat → Nat → Int
  | [], _, _ => 0
  | e :: l, i, j => (if e.1 = min i j ∧ e.2.1 = max i j then ((e.2.2 : Nat) : Int) else 0) + tk l i j
theorem tk_no {i j : Nat} : ∀ {l : List Tie}, (min i j, max i j) ∉ keysN l → tk l i j = 0
  | [], _ => rfl
  | e :: l, h => by
    show (if e.1 = min i j ∧ e.2.1 = max i j then ((e.2.2 : Nat) : Int) else 0) + tk l i j = 0
    rw [if_neg (fun z => h (by rw [← z.1, ← z.2]; exact List.mem_cons_self)), tk_no fun z => h (List.mem_cons_of_mem _ z)]
    rfl
theorem tk_tie : ∀ {l : List Tie}, (keysN l).Nodup → ∀ i j, ((tieW l i j : Nat) : Int) = tk l i j
  | [], _, _, _ => rfl
  | e :: l, hn, i, j => by
    obtain ⟨h1, h2⟩ := List.nodup_cons.mp hn
    have ih := tk_tie h2 i j
    show _ = (if e.1 = min i j ∧ e.2.1 = max i j then ((e.2.2 : Nat) : Int) else 0) + tk l i j
    by_cases q : e.1 = min i j ∧ e.2.1 = max i j
    · rw [if_pos q, tk_no (by rw [← q.1, ← q.2]; exact h1)]
      have : tieW (e :: l) i j = e.2.2 := by
        unfold tieW
        rw [List.find?_cons, decide_eq_true q.1, decide_eq_true q.2]
        rfl
      rw [this]; omega
    · rw [if_neg q, ← ih]
      have : tieW (e :: l) i j = tieW l i j := by
        unfold tieW
        have hc : (decide (e.1 = min i j) && decide (e.2.1 = max i j)) = false := by
          rw [Bool.and_eq_false_iff]
          by_cases a : e.1 = min i j
          · exact .inr (decide_eq_false fun b => q ⟨a, b⟩)
          · exact .inl (decide_eq_false a)
        rw [List.find?_cons, hc]
      rw [this]; omega
theorem tk_perm {l m : List Tie} (h : l.Perm m) (i j : Nat) : tk l i j = tk m i j := by
  induction h with
  | nil => rfl
  | cons a _ ih => show _ + tk _ i j = _ + tk _ i j; rw [ih]
  | swap a b r =>
    show (if b.1 = min i j ∧ b.2.1 = max i j then ((b.2.2 : Nat) : Int) else 0) + ((if a.1 = min i j ∧ a.2.1 = max i j then ((a.2.2 : Nat) : Int) else 0) + tk r i j) = (if a.1 = min i j ∧ a.2.1 = max i j then ((a.2.2 : Nat) : Int) else 0) + ((if b.1 = min i j ∧ b.2.1 = max i j then ((b.2.2 : Nat) : Int) else 0) + tk r i j)
    omega
  | trans _ _ ih1 ih2 => exact ih1.trans ih2
theorem tk_nz (i j : Nat) : ∀ l : List Tie, tk (l.filter nz) i j = tk l i j
  | [] => rfl
  | e :: l => by
    rw [List.filter_cons]
    have ih := tk_nz i j l
    by_cases q : e.2.2 = 0
    · have : nz e = false := by unfold nz; rw [decide_eq_true q]; rfl
      rw [if_neg (by rw [this]; decide), ih]
      show _ = (if e.1 = min i j ∧ e.2.1 = max i j then ((e.2.2 : Nat) : Int) else 0) + tk l i j
      rw [q]
      split <;> omega
    · have : nz e = true := by unfold nz; rw [decide_eq_false q]; rfl
      rw [if_pos this]
      show _ + tk (l.filter nz) i j = _ + tk l i j
      rw [ih]
theorem tie_web {l m : List Tie} (h : l.Perm m) (nd : (keysN m).Nodup) (i j : Nat) : tieW (l.filter nz) i j = tieW m i j := by
  have nl : (keysN l).Nodup := (h.map _).nodup_iff.mpr nd
  have a := tk_tie ((List.filter_sublist.map _).nodup nl : (keysN (l.filter nz)).Nodup) i j
  have b := tk_tie nd i j
  rw [tk_nz, tk_perm h] at a
  omega
theorem wOut_cross {n : Nat} {s : List Nat} : ∀ {l : List Tie}, (∀ e ∈ l, TieOk n e) → ((wOut l s : Nat) : Int) = ss n fun i j => if (decide (i ∈ s) && !decide (j ∈ s)) = true then tk l i j else 0
  | [], _ => by
    rw [ss_congr (g := fun _ _ => 0) fun i j _ _ => by split <;> rfl]
    unfold ss
    rw [sm_congr (g := fun _ => 0) fun i _ => sm_zero n, sm_zero]
    rfl
  | e :: l, h => by
    obtain ⟨o1, o2, _⟩ := h e List.mem_cons_self
    have ih := wOut_cross (n := n) (s := s) (l := l) fun e' he => h e' (List.mem_cons_of_mem _ he)
    have e1 : (ss n fun i j => if (decide (i ∈ s) && !decide (j ∈ s)) = true then tk (e :: l) i j else 0) = ((ss n fun i j => if i = e.1 ∧ j = e.2.1 then (if (decide (e.1 ∈ s) && !decide (e.2.1 ∈ s)) = true then ((e.2.2 : Nat) : Int) else 0) else 0) + ss n fun i j => if i = e.2.1 ∧ j = e.1 then (if (decide (e.2.1 ∈ s) && !decide (e.1 ∈ s)) = true then ((e.2.2 : Nat) : Int) else 0) else 0) + ss n fun i j => if (decide (i ∈ s) && !decide (j ∈ s)) = true then tk l i j else 0 := by
      rw [← ss_add, ← ss_add]
      refine ss_congr fun i j _ _ => ?_
      show (if (decide (i ∈ s) && !decide (j ∈ s)) = true then (if e.1 = min i j ∧ e.2.1 = max i j then ((e.2.2 : Nat) : Int) else 0) + tk l i j else 0) = _
      by_cases q : i = e.1 ∧ j = e.2.1
      · rw [if_pos q, if_neg (c := i = e.2.1 ∧ j = e.1) (by omega), if_pos (c := e.1 = min i j ∧ e.2.1 = max i j) (by omega), ← q.1, ← q.2]
        split <;> omega
      · by_cases q2 : i = e.2.1 ∧ j = e.1
        · rw [if_neg q, if_pos q2, if_pos (c := e.1 = min i j ∧ e.2.1 = max i j) (by omega), ← q2.1, ← q2.2]
          split <;> omega
        · rw [if_neg q, if_neg q2, if_neg (c := e.1 = min i j ∧ e.2.1 = max i j) (by omega)]
          split <;> omega
    rw [e1, ss_one _ (by omega) o2, ss_one _ o2 (by omega), ← ih]
    unfold wOut
    rw [List.filter_cons]
    cases b1 : decide (e.1 ∈ s) <;> cases b2 : decide (e.2.1 ∈ s) <;> simp
theorem wOut_cut {n : Nat} {es : List Tie} {s : List Nat} (ok : ∀ e ∈ es, TieOk n e) (nd : (keysN es).Nodup) : ((wOut es s : Nat) : Int) = cross n (capI (tieW es)) (fun v => decide (v ∈ s)) := by
  rw [wOut_cross ok]
  refine ss_congr fun i j _ _ => ?_
  rw [← tk_tie nd]
  rfl
/-! ### the law's own draws -/
theorem go_setNx {D : L2.Ends} : True := trivial
def sp_law_cell (K : PySem.W.Frag) (a b : V) (H : Hp) (Q : VK) : Prop := ∃ (s : Addr) (ns : List Int) (k : Nat), a = .ref s ∧ SqL K H s (ns.map V.int) ∧ b = .int k ∧ k ≤ 1000 ∧ ∀ x : Int, Q (.int x) H
theorem pure_law_cell {K : PySem.W.Frag} : ∀ vs H Q, u2 (sp_law_cell K) vs H Q → t_law_cell K { nx := fun _ H' => Q .non H', rt := Q } (L2.start ["_law_script", "_law_k", "_law_spare"] vs) H := by
  rintro _ H Q ⟨_, _, rfl, s, ns, k, rfl, hs, rfl, hk, hQ⟩
  unfold t_law_cell
  walk_at "st"
  walk_at "gs"
  rw [List.length_map]
  refine ite_dec (fun q => ?_) fun q => ?_
  · walk_at "gs"
    refine go_ixL hs (atI_cell (by omega)) ?_
    exact hQ _
  · walk_at "gs"
    rw [List.length_map]
    refine ite_dec (fun q2 => ?_) fun q2 => ?_
    · walk_at "gs"
      refine go_ixL hs (atI_cell (j := 0) (by omega)) ?_
      walk_at "gs"
      exact hQ _
    · walk_at "gs"
      exact hQ _
theorem cutV_map {α : Type} (f : α → V) (ns : List α) (lo hi : Option Int) : ∃ ms : List α, cutV (ns.map f) lo hi = ms.map f ∧ ms = (ns.drop (HT.sIx ns.length 0 lo)).take (HT.sIx ns.length ns.length hi - HT.sIx ns.length 0 lo) := by
  refine ⟨_, ?_, rfl⟩
  unfold cutV
  rw [List.length_map, ← List.map_drop, ← List.map_take]
def sp_law_draws (K : PySem.W.Frag) (a b c : V) (H : Hp) (Q : VK) : Prop := ∃ (s : Addr) (ns : List Int) (k m : Nat), a = .ref s ∧ SqL K H s (ns.map V.int) ∧ b = .int k ∧ c = .int m ∧ k ≤ 900 ∧ m ≤ 1000 ∧ ∀ p (ds : List Int) H1, Same H H1 → H p = none → H1 p = some (.lst (ds.map V.int)) → Q (.ref p) H1
theorem pure_law_draws {K : PySem.W.Frag} : ∀ vs H Q, u3 (sp_law_draws K) vs H Q → t_law_draws K (u2 (sp_law_cell K)) { nx := fun _ H' => Q .non H', rt := Q } (L2.start ["_law_script", "_law_at", "_law_many", "_law_found", "_law_left", "_law_k", "_law_draw"] vs) H := by
  rintro _ H Q ⟨_, _, _, rfl, s, ns, k, m, rfl, hs, rfl, rfl, hk, hm, hQ⟩
  unfold t_law_draws
  walk_at "st"
  walk_at "gs"
  intro p np
  walk_at "gs"
  have s1 : Same H (upd H p (.lst [])) := sameNew np
  have h1 : (upd H p (.lst [])) p = some (.lst (([] : List Int).map V.int)) := upd_same
  generalize upd H p (.lst []) = H1 at *
  refine ⟨s, ns, k, rfl, s1.seqL hs, rfl, by omega, fun x => ?_⟩
  walk_at "gs"
  · exact ⟨by omega, by omega, by decide⟩
  walk_at "gs"
  refine ite_dec (fun q => ?_) fun q => ?_
  · walk_at "gs"
    refine ⟨m, rfl, by omega, by omega, for_range (lo := 0) (n := (m : Int).toNat) (fun i σ H' => Same H H' ∧ ∃ (ds : List Int) (y' : Int) (z : Option V), H' p = some (.lst (ds.map V.int)) ∧ ds.length = i ∧ σ = [some (.ref s), some (.int k), some (.int m), some (.ref p), some (.int y'), z, none]) ⟨s1, [], _, none, h1, rfl, rfl⟩ ?_ ?_⟩
    · rintro i σ H' hi ⟨s2, ds, y', z, h2, hl, rfl⟩
      walk_at "gs"
      refine ⟨.inl ⟨rfl, _, SqL.of h2⟩, ?_⟩
      walk_at "gs"
      refine ⟨p, ds.map V.int, _, rfl, rfl, h2, by rw [List.length_map, sizeLine_eq]; omega, ?_⟩
      walk_at "gs"
      · exact ⟨by omega, by decide⟩
      walk_at "gs"
      exact ⟨s2.updFresh np, ds ++ [_], _, _, by rw [upd_same, List.map_append]; rfl, by rw [List.length_append, hl]; rfl, rfl⟩
    · rintro σ H' ⟨s2, ds, y', z, h2, hl, rfl⟩
      walk_at "gs"
      · exact ⟨by omega, by decide⟩
      walk_at "gs"
      refine ⟨_, rfl, ?_⟩
      walk_at "gs"
      obtain ⟨ms, e1, _⟩ := cutV_map V.int ds (some ((m : Int) / 2)) none
      refine ⟨p, ds.map V.int, rfl, SqL.of h2, fun p2 np2 => ?_⟩
      rw [e1]
      have s3 : Same H' (upd H' p2 (.lst (ms.map V.int))) := sameNew np2
      walk_at "gs"
      refine ⟨p2, ms, rfl, SqL.of upd_same, ?_⟩
      walk_at "gs"
      have h3 := s3 _ _ h2
      refine ite_dec (fun q => ?_) fun q => ?_
      · walk_at "gs"
        refine ⟨.inl ⟨rfl, _, SqL.of h3⟩, ?_⟩
        refine ⟨p, ds.map V.int, rfl, rfl, h3, ?_⟩
        walk_at "gs"
        exact hQ p ds.reverse _ ((s2.trans s3).updFresh np) np (by rw [upd_same, List.map_reverse])
      · walk_at "gs"
        exact hQ p ds _ (s2.trans s3) np h3
  · walk_at "gs"
    refine ⟨m, rfl, by omega, by omega, for_range (lo := 0) (n := (m : Int).toNat) (fun i σ H' => Same H H' ∧ ∃ (ds : List Int) (y' y2 : Int) (z : Option V), H' p = some (.lst (ds.map V.int)) ∧ ds.length = i ∧ σ = [some (.ref s), some (.int k), some (.int m), some (.ref p), some (.int y'), z, some (.int y2)]) ⟨s1, [], _, _, none, h1, rfl, rfl⟩ ?_ ?_⟩
    · rintro i σ H' hi ⟨s2, ds, y', y2, z, h2, hl, rfl⟩
      have e0 : (0 : Int) + (i : Int) = (i : Int) := Int.zero_add _
      rw [e0]
      walk_at "gs"
      have e2 : ((k : Int) + 1 + (i : Int) % 30) = ((k + 1 + i % 30 : Nat) : Int) := by omega
      rw [e2]
      refine ⟨s, ns, k + 1 + i % 30, rfl, s2.seqL hs, rfl, by omega, fun x => ?_⟩
      walk_at "gs"
      refine ⟨.inl ⟨rfl, _, SqL.of h2⟩, ?_⟩
      walk_at "gs"
      · exact ⟨by omega, by decide⟩
      walk_at "gs"
      refine ⟨p, ds.map V.int, _, rfl, rfl, h2, by rw [List.length_map, sizeLine_eq]; omega, ?_⟩
      walk_at "gs"
      exact ⟨s2.updFresh np, ds ++ [_], _, _, _, by rw [upd_same, List.map_append]; rfl, by rw [List.length_append, hl]; rfl, rfl⟩
    · rintro σ H' ⟨s2, ds, y', y2, z, h2, hl, rfl⟩
      walk_at "gs"
      exact hQ p ds _ s2 np h2
def DrI (H : Hp) (d : Addr) : Prop := ∃ ds : List Int, H d = some (.lst (ds.map V.int))
def sp_law_next (a : V) (H : Hp) (Q : VK) : Prop := ∃ (d : Addr), a = .ref d ∧ DrI H d ∧ ∀ (x : Int) H1, But d H H1 → DrI H1 d → Q (.int x) H1
theorem pure_law_next {K : PySem.W.Frag} : ∀ vs H Q, u1 sp_law_next vs H Q → t_law_next K { nx := fun _ H' => Q .non H', rt := Q } (L2.start ["_law_draws_here"] vs) H := by
  rintro _ H Q ⟨_, rfl, d, rfl, ⟨ds, hd⟩, hQ⟩
  unfold t_law_next
  walk_at "st"
  walk_at "gs"
  rw [List.length_map]
  refine ite_dec (fun q => ?_) fun q => ?_
  · walk_at "gs"
    refine ⟨.inl ⟨rfl, _, SqL.of hd⟩, ?_⟩
    have e : (ds.map V.int)[(ds.map V.int).length - 1]? = some (.int (ds.getD (ds.length - 1) 0)) := by
      rw [List.length_map, List.getElem?_map, List.getElem?_eq_getElem (by omega), List.getD_eq_getElem?_getD, List.getElem?_eq_getElem (by omega)]
      rfl
    refine ⟨d, ds.map V.int, _, rfl, rfl, hd, e, ?_⟩
    exact hQ _ _ butUpd ⟨ds.dropLast, by rw [upd_same, List.map_dropLast]⟩
  · walk_at "gs"
    exact hQ 0 H (fun _ _ _ h => h) ⟨ds, hd⟩
theorem atI_ex {xs : List V} {i : Int} (h0 : 0 ≤ i) (h1 : i < xs.length) : ∃ v, atI xs i = some v ∧ v ∈ xs := by
  obtain ⟨k, rfl⟩ : ∃ k : Nat, i = (k : Int) := ⟨i.toNat, by omega⟩
  have hl : k < xs.length := by omega
  exact ⟨xs[k], atI_nat (List.getElem?_eq_getElem hl), List.getElem_mem hl⟩
theorem nv_erase : ∀ (l : List Nat) (k : Nat), (nv l).eraseIdx k = nv (l.eraseIdx k)
  | [], _ => rfl
  | _ :: _, 0 => rfl
  | x :: l, k + 1 => congrArg (V.int (x : Nat) :: ·) (nv_erase l k)
theorem erase_perm : ∀ {l : List Nat} {k : Nat} (h : k < l.length), (l[k] :: l.eraseIdx k).Perm l
  | [], _, h => absurd h (Nat.not_lt_zero _)
  | x :: l, 0, _ => List.Perm.refl _
  | x :: l, k + 1, h => (List.Perm.swap x (l[k]'(by simpa using h)) (l.eraseIdx k)).trans (List.Perm.cons x (erase_perm (by simpa using h)))
theorem mkAmt {K : PySem.W.Frag} {H : Hp} {p : Addr} {a b : Nat} (h : H p = some (.tup [.int (a : Nat), .int (b : Nat)])) (hb : b ∣ 55440) (hg : Nat.gcd a b = 1) (ha : a ≤ 1000000000000) : ∃ q, Amt K H (.ref p) q ∧ lowA q ≤ 1000000000000 := by
  obtain ⟨e1, e2⟩ := low_of hb hg
  refine ⟨a * (55440 / b), ⟨p, rfl, SqT.of ?_⟩, ?_⟩
  · rw [h, ← e1, ← e2]
  · rw [← e1]; exact ha
def sp_law_weight (K : PySem.W.Frag) (a : V) (H : Hp) (Q : VK) : Prop := ∃ (d : Addr), a = .ref d ∧ DrI H d ∧ ∀ v p H1, But d H H1 → DrI H1 d → Amt K H1 v p → lowA p ≤ 1000000000000 → Q v H1
theorem DrI.same {H H' : Hp} {d : Addr} (s : Same H H') (h : DrI H d) : DrI H' d := h.imp fun _ q => s _ _ q
theorem pure_law_weight {K : PySem.W.Frag} : ∀ vs H Q, u1 (sp_law_weight K) vs H Q → t_law_weight K (u1 sp_law_next) { nx := fun _ H' => Q .non H', rt := Q } (L2.start ["_law_draws_here", "_law_draw"] vs) H := by
  rintro _ H Q ⟨_, rfl, d, rfl, hd, hQ⟩
  unfold t_law_weight
  walk_at "st"
  walk_at "gs"
  refine ⟨d, rfl, hd, fun x H1 b1 hd1 => ?_⟩
  walk_at "gs"
  refine ite_dec (fun q => ?_) fun q => ?_
  · walk_at "gs"
    intro p1 n1
    have s1 : Same H1 (upd H1 p1 (.tup [.int 1000000000000, .int 1])) := sameNew n1
    have h1 : (upd H1 p1 (.tup [.int 1000000000000, .int 1])) p1 = some (.tup [.int ((1000000000000 : Nat) : Int), .int ((1 : Nat) : Int)]) := upd_same
    generalize upd H1 p1 (.tup [.int 1000000000000, .int 1]) = A1 at *
    walk_at "gs"
    intro p2 n2
    have s2 : Same A1 (upd A1 p2 (.tup [.int 1, .int 55440])) := sameNew n2
    have h2 : (upd A1 p2 (.tup [.int 1, .int 55440])) p2 = some (.tup [.int ((1 : Nat) : Int), .int ((55440 : Nat) : Int)]) := upd_same
    generalize upd A1 p2 (.tup [.int 1, .int 55440]) = A2 at *
    walk_at "gs"
    intro p3 n3
    have s3 : Same A2 (upd A2 p3 (.tup [.int 999999999989, .int 55440])) := sameNew n3
    have h3 : (upd A2 p3 (.tup [.int 999999999989, .int 55440])) p3 = some (.tup [.int ((999999999989 : Nat) : Int), .int ((55440 : Nat) : Int)]) := upd_same
    generalize upd A2 p3 (.tup [.int 999999999989, .int 55440]) = A3 at *
    walk_at "gs"
    intro p4 n4
    have s4 : Same A3 (upd A3 p4 (.tup [.int 5, .int 7])) := sameNew n4
    have h4 : (upd A3 p4 (.tup [.int 5, .int 7])) p4 = some (.tup [.int ((5 : Nat) : Int), .int ((7 : Nat) : Int)]) := upd_same
    generalize upd A3 p4 (.tup [.int 5, .int 7]) = A4 at *
    walk_at "gs"
    intro l nl
    have s5 : Same A4 (upd A4 l (.lst [.ref p1, .ref p2, .ref p3, .ref p4])) := sameNew nl
    have h5 : (upd A4 l (.lst [.ref p1, .ref p2, .ref p3, .ref p4])) l = some (.lst [.ref p1, .ref p2, .ref p3, .ref p4]) := upd_same
    generalize upd A4 l (.lst [.ref p1, .ref p2, .ref p3, .ref p4]) = A5 at *
    walk_at "gs"
    · exact ⟨by omega, by decide⟩
    walk_at "gs"
    obtain ⟨v, e1, hv⟩ := atI_ex (xs := [.ref p1, .ref p2, .ref p3, .ref p4]) (i := x / 30 % 4) (by omega) (by show _ < (4 : Int); omega)
    refine go_ixL (SqL.of h5) e1 ?_
    have sA := (((s1.trans s2).trans s3).trans s4).trans s5
    have key : ∃ q, Amt K A5 v q ∧ lowA q ≤ 1000000000000 := by
      simp only [List.mem_cons, List.not_mem_nil, or_false] at hv
      rcases hv with rfl | rfl | rfl | rfl
      · exact mkAmt ((((s2.trans s3).trans s4).trans s5) _ _ h1) (by decide) (by decide +kernel) (by decide)
      · exact mkAmt (((s3.trans s4).trans s5) _ _ h2) (by decide) (by decide +kernel) (by decide)
      · exact mkAmt ((s4.trans s5) _ _ h3) (by decide) (by decide +kernel) (by decide)
      · exact mkAmt (s5 _ _ h4) (by decide +kernel) (by decide +kernel) (by decide)
    obtain ⟨q, a1, a2⟩ := key
    exact hQ v q A5 (b1.trans sA.but) (hd1.same sA) a1 a2
  · walk_at "gs"
    intro p1 n1
    have s1 : Same H1 (upd H1 p1 (.tup [.int 1, .int 1])) := sameNew n1
    have h1 : (upd H1 p1 (.tup [.int 1, .int 1])) p1 = some (.tup [.int ((1 : Nat) : Int), .int ((1 : Nat) : Int)]) := upd_same
    generalize upd H1 p1 (.tup [.int 1, .int 1]) = A1 at *
    walk_at "gs"
    intro p2 n2
    have s2 : Same A1 (upd A1 p2 (.tup [.int 1, .int 1])) := sameNew n2
    have h2 : (upd A1 p2 (.tup [.int 1, .int 1])) p2 = some (.tup [.int ((1 : Nat) : Int), .int ((1 : Nat) : Int)]) := upd_same
    generalize upd A1 p2 (.tup [.int 1, .int 1]) = A2 at *
    walk_at "gs"
    intro p3 n3
    have s3 : Same A2 (upd A2 p3 (.tup [.int 2, .int 1])) := sameNew n3
    have h3 : (upd A2 p3 (.tup [.int 2, .int 1])) p3 = some (.tup [.int ((2 : Nat) : Int), .int ((1 : Nat) : Int)]) := upd_same
    generalize upd A2 p3 (.tup [.int 2, .int 1]) = A3 at *
    walk_at "gs"
    intro p4 n4
    have s4 : Same A3 (upd A3 p4 (.tup [.int 1, .int 2])) := sameNew n4
    have h4 : (upd A3 p4 (.tup [.int 1, .int 2])) p4 = some (.tup [.int ((1 : Nat) : Int), .int ((2 : Nat) : Int)]) := upd_same
    generalize upd A3 p4 (.tup [.int 1, .int 2]) = A4 at *
    walk_at "gs"
    intro p5 n5
    have s5 : Same A4 (upd A4 p5 (.tup [.int 3, .int 4])) := sameNew n5
    have h5 : (upd A4 p5 (.tup [.int 3, .int 4])) p5 = some (.tup [.int ((3 : Nat) : Int), .int ((4 : Nat) : Int)]) := upd_same
    generalize upd A4 p5 (.tup [.int 3, .int 4]) = A5 at *
    walk_at "gs"
    intro p6 n6
    have s6 : Same A5 (upd A5 p6 (.tup [.int 0, .int 1])) := sameNew n6
    have h6 : (upd A5 p6 (.tup [.int 0, .int 1])) p6 = some (.tup [.int ((0 : Nat) : Int), .int ((1 : Nat) : Int)]) := upd_same
    generalize upd A5 p6 (.tup [.int 0, .int 1]) = A6 at *
    walk_at "gs"
    intro p7 n7
    have s7 : Same A6 (upd A6 p7 (.tup [.int 1, .int 1])) := sameNew n7
    have h7 : (upd A6 p7 (.tup [.int 1, .int 1])) p7 = some (.tup [.int ((1 : Nat) : Int), .int ((1 : Nat) : Int)]) := upd_same
    generalize upd A6 p7 (.tup [.int 1, .int 1]) = A7 at *
    walk_at "gs"
    intro p8 n8
    have s8 : Same A7 (upd A7 p8 (.tup [.int 3, .int 1])) := sameNew n8
    have h8 : (upd A7 p8 (.tup [.int 3, .int 1])) p8 = some (.tup [.int ((3 : Nat) : Int), .int ((1 : Nat) : Int)]) := upd_same
    generalize upd A7 p8 (.tup [.int 3, .int 1]) = A8 at *
    walk_at "gs"
    intro l nl
    have s9 : Same A8 (upd A8 l (.lst [.ref p1, .ref p2, .ref p3, .ref p4, .ref p5, .ref p6, .ref p7, .ref p8])) := sameNew nl
    have h9 : (upd A8 l (.lst [.ref p1, .ref p2, .ref p3, .ref p4, .ref p5, .ref p6, .ref p7, .ref p8])) l = some (.lst [.ref p1, .ref p2, .ref p3, .ref p4, .ref p5, .ref p6, .ref p7, .ref p8]) := upd_same
    generalize upd A8 l (.lst [.ref p1, .ref p2, .ref p3, .ref p4, .ref p5, .ref p6, .ref p7, .ref p8]) = A9 at *
    walk_at "gs"
    · exact ⟨by omega, by decide⟩
    walk_at "gs"
    obtain ⟨v, e1, hv⟩ := atI_ex (xs := [.ref p1, .ref p2, .ref p3, .ref p4, .ref p5, .ref p6, .ref p7, .ref p8]) (i := x / 30 % 8) (by omega) (by show _ < (8 : Int); omega)
    refine go_ixL (SqL.of h9) e1 ?_
    have t8 := s8.trans s9
    have t7 := s7.trans t8
    have t6 := s6.trans t7
    have t5 := s5.trans t6
    have t4 := s4.trans t5
    have t3 := s3.trans t4
    have t2 := s2.trans t3
    have t1 := s1.trans t2
    have key : ∃ q, Amt K A9 v q ∧ lowA q ≤ 1000000000000 := by
      simp only [List.mem_cons, List.not_mem_nil, or_false] at hv
      rcases hv with rfl | rfl | rfl | rfl | rfl | rfl | rfl | rfl
      · exact mkAmt (t2 _ _ h1) (by decide) (by decide +kernel) (by decide)
      · exact mkAmt (t3 _ _ h2) (by decide) (by decide +kernel) (by decide)
      · exact mkAmt (t4 _ _ h3) (by decide) (by decide +kernel) (by decide)
      · exact mkAmt (t5 _ _ h4) (by decide +kernel) (by decide +kernel) (by decide)
      · exact mkAmt (t6 _ _ h5) (by decide +kernel) (by decide +kernel) (by decide)
      · exact mkAmt (t7 _ _ h6) (by decide) (by decide +kernel) (by decide)
      · exact mkAmt (t8 _ _ h7) (by decide) (by decide +kernel) (by decide)
      · exact mkAmt (s9 _ _ h8) (by decide) (by decide +kernel) (by decide)
    obtain ⟨q, a1, a2⟩ := key
    exact hQ v q A9 (b1.trans t1.but) (hd1.same t1) a1 a2
theorem seqIx {i : Int} {n : Nat} (h0 : 0 ≤ i) (h1 : i < n) : seqIndex? i n = some i.toNat := by
  unfold seqIndex?
  simp only [if_neg (show ¬ i < 0 by omega)]
  rw [if_pos (by simp [h0, h1])]
theorem rg_nv (n : Nat) : rgV 0 (n : Int) = nv (List.range n) := by
  unfold rgV nv
  rw [show ((n : Int) - 0).toNat = n by omega]
  exact List.map_congr_left fun i _ => by rw [Int.zero_add]
theorem go_lrg {te : L2.St → Hp → (Int → Int → Hp → Prop) → Prop} {σ : L2.St} {H : Hp} {Q : VK} (h : te σ H fun a b H1 => RgOk a b ∧ ∀ q, H1 q = none → Q (.ref q) (upd H1 q (.lst (rgV a b)))) : tLstRg te σ H Q := h
theorem go_rg1 {ta : TE} {σ : L2.St} {H : Hp} {Q : Int → Int → Hp → Prop} (h : ta σ H fun x H1 => ∃ n, x = .int n ∧ Q 0 n H1) : tRg1 ta σ H Q := h
def sp_law_order (K : PySem.W.Frag) (a b : V) (H : Hp) (Q : VK) : Prop := ∃ (d : Addr) (n : Nat), a = .ref d ∧ DrI H d ∧ b = .int n ∧ n ≤ 9 ∧ ∀ p os H1, But d H H1 → DrI H1 d → H p = none → H1 p = some (.lst (nv os)) → os.Perm (List.range n) → Q (.ref p) H1
theorem pure_law_order {K : PySem.W.Frag} : ∀ vs H Q, u2 (sp_law_order K) vs H Q → t_law_order K (u1 sp_law_next) { nx := fun _ H' => Q .non H', rt := Q } (L2.start ["_law_draws_here", "_law_many", "_law_left", "_law_turn"] vs) H := by
  rintro _ H Q ⟨_, _, rfl, d, n, rfl, hd, rfl, hn, hQ⟩
  unfold t_law_order
  walk_at "st"
  walk_at "gs"
  refine go_lrg ?_
  refine go_rg1 ?_
  walk_at "gs"
  refine ⟨n, rfl, RgOk.of_le (by omega) (by omega) (by omega) (by omega), fun q nq => ?_⟩
  rw [rg_nv]
  have s1 : Same H (upd H q (.lst (nv (List.range n)))) := sameNew nq
  have hq1 : (upd H q (.lst (nv (List.range n)))) q = some (.lst (nv (List.range n))) := upd_same
  generalize upd H q (.lst (nv (List.range n))) = H1 at *
  have hd1 := hd.same s1
  have nqd : q ≠ d := by
    obtain ⟨ds, h⟩ := hd
    exact (ne_of_none h nq).symm
  walk_at "gs"
  refine ⟨n, rfl, by omega, by omega, fun D nD => ?_⟩
  have nDd : D ≠ d := by
    obtain ⟨ds, h⟩ := hd1
    exact (ne_of_none h nD).symm
  have nDq : D ≠ q := (ne_of_none hq1 nD).symm
  have fD := s1.free nD
  rw [Int.toNat_natCast]
  refine lc_it walk_range (fun i H' => But d H H' ∧ DrI H' d ∧ ∃ left acc, H' q = some (.lst (nv left)) ∧ H' D = some (.lst (nv acc)) ∧ (acc ++ left).Perm (List.range n) ∧ acc.length = i) ?_ (fun _ _ _ _ => trivial) ?_ ?_
  · refine ⟨s1.but.updN fD, ?_, List.range n, [], ?_, upd_same, List.Perm.refl _, rfl⟩
    · obtain ⟨ds, h⟩ := hd1
      exact ⟨ds, by rw [upd_ne nDd.symm]; exact h⟩
    · rw [upd_ne nDq.symm]; exact hq1
  · rintro i x H' H2 hi ⟨bu, hd', left, acc, hq, hD, pm, la⟩ ⟨rfl, rfl⟩
    have ll := pm.length_eq
    rw [List.length_append, List.length_range] at ll
    walk_at "gs"
    refine ⟨rfl, ?_⟩
    walk_at "gs"
    refine ⟨.inl ⟨rfl, _, SqL.of hq⟩, ?_⟩
    walk_at "gs"
    refine ⟨d, rfl, hd', fun x H3 b3 hd3 => ?_⟩
    have hq3 := b3 _ _ nqd hq
    have hD3 := b3 _ _ nDd hD
    walk_at "gs"
    · rw [nv_len]; omega
    walk_at "gs"
    rw [nv_len]
    have k0 : 0 ≤ x % (left.length : Int) := Int.emod_nonneg _ (by omega)
    have k1 : x % (left.length : Int) < left.length := Int.emod_lt_of_pos _ (by omega)
    have kl : (x % (left.length : Int)).toNat < left.length := by omega
    refine ⟨q, nv left, _, _, _, rfl, rfl, hq3, by omega, by omega, seqIx k0 (by rw [nv_len]; exact k1), nv_at (List.getElem?_eq_getElem kl), ?_⟩
    refine ⟨nv acc, by rw [upd_ne nDq]; exact hD3, by rw [nv_len, sizeLine_eq]; omega, ((bu.trans b3).updN nq).updN fD, ?_, left.eraseIdx (x % (left.length : Int)).toNat, acc ++ [left[(x % (left.length : Int)).toNat]], ?_, ?_, ?_, ?_⟩
    · obtain ⟨ds, h⟩ := hd3
      exact ⟨ds, by rw [upd_ne nDd.symm, upd_ne nqd.symm]; exact h⟩
    · rw [upd_ne nDq.symm, upd_same]
      rw [nv_erase]
    · rw [upd_same]
      unfold nv
      rw [List.map_append]
      rfl
    · rw [List.append_assoc]
      exact (List.Perm.append_left acc (erase_perm kl)).trans pm
    · rw [List.length_append, la]; rfl
  · rintro H' ⟨bu, hd', left, acc, hq, hD, pm, la⟩
    have ll := pm.length_eq
    rw [List.length_append, List.length_range] at ll
    have e : left = [] := List.length_eq_zero_iff.mp (by omega)
    subst e
    rw [List.append_nil] at pm
    exact hQ D acc H' bu hd' fD hD pm
def PrsI (H : Hp) (p : Addr) (n : Nat) : Prop := ∃ ys ks, H p = some (.lst ys) ∧ Paired (Pq H) ys ks ∧ (∀ k ∈ ks, k.1 < n ∧ k.2 < n) ∧ ks.length ≤ 100
theorem pairsOf {H : Hp} {n : Nat} : ∀ {ys : List V} {is : List Nat}, Paired (fun y (_ : Nat) => ∃ k, Pq H y k ∧ k.1 < n ∧ k.2 < n) ys is → ∃ ks : List (Nat × Nat), Paired (Pq H) ys ks ∧ (∀ k ∈ ks, k.1 < n ∧ k.2 < n) ∧ ks.length = is.length
  | _, _, .nil => ⟨[], .nil, (fun _ h => by cases h), rfl⟩
  | _, _, .cons h t => by
    obtain ⟨ks, h1, h2, h3⟩ := pairsOf t
    obtain ⟨k, q1, q2⟩ := h
    refine ⟨k :: ks, .cons q1 h1, fun x hx => ?_, by rw [List.length_cons, List.length_cons, h3]⟩
    rcases List.mem_cons.mp hx with e | hx
    · rw [e]; exact q2
    · exact h2 x hx
theorem pq_mono {D : Addr} {n : Nat} {H H' : Hp} {v : V} (bu : But D H H') (mu : Mut (H D)) (h : ∃ k, Pq H v k ∧ k.1 < n ∧ k.2 < n) : ∃ k, Pq H' v k ∧ k.1 < n ∧ k.2 < n := by
  obtain ⟨k, ⟨q, e, hq⟩, h1⟩ := h
  exact ⟨k, ⟨q, e, bu.tupAt mu hq⟩, h1⟩
theorem pq_same {H H' : Hp} {ys : List V} {ks : List (Nat × Nat)} (s : Same H H') (h : Paired (Pq H) ys ks) : Paired (Pq H') ys ks := pairMono (fun _ _ r => r.imp fun _ q => ⟨q.1, s _ _ q.2⟩) h
theorem pq_app {H : Hp} {ys zs : List V} {ks ms : List (Nat × Nat)} (h : Paired (Pq H) ys ks) (h2 : Paired (Pq H) zs ms) : Paired (Pq H) (ys ++ zs) (ks ++ ms) := by
  induction h with
  | nil => exact h2
  | cons r _ ih => exact .cons r ih
theorem kept_allLen (m : Nat) : (kept m fun _ => true).length = m := by rw [kept_all fun _ _ => rfl, List.length_range]
def sp_law_pairs (a b : V) (H : Hp) (Q : VK) : Prop := ∃ (d : Addr) (n : Nat), a = .ref d ∧ DrI H d ∧ b = .int n ∧ 2 ≤ n ∧ n ≤ 9 ∧ ∀ p H1, But d H H1 → DrI H1 d → H p = none → PrsI H1 p n → Q (.ref p) H1
theorem pure_law_pairs {K : PySem.W.Frag} : ∀ vs H Q, u2 sp_law_pairs vs H Q → t_law_pairs K (u1 sp_law_next) { nx := fun _ H' => Q .non H', rt := Q } (L2.start ["_law_draws_here", "_law_many", "_law_kind", "_law_middle", "_law_found", "_law_i", "_law_j", "_law_draw", "_law_k"] vs) H := by
  rintro _ H Q ⟨_, _, rfl, d, n, rfl, hd, rfl, hn2, hn, hQ⟩
  unfold t_law_pairs
  walk_at "st"
  walk_at "gs"
  refine ⟨d, rfl, hd, fun x H1 b1 hd1 => ?_⟩
  have fin : ∀ p H2 ys ks, Same H1 H2 → H1 p = none → H2 p = some (.lst ys) → Paired (Pq H2) ys ks → (∀ k ∈ ks, k.1 < n ∧ k.2 < n) → ks.length ≤ 100 → Q (.ref p) H2 := fun p H2 ys ks s np h1 h2 h3 h4 => by
    obtain ⟨ds, hds⟩ := id hd1
    exact hQ p H2 (b1.trans s.but) (hd1.same s) (b1.fresh hds np) ⟨ys, ks, h1, h2, h3, h4⟩
  walk_at "gs"
  · exact ⟨by omega, by decide⟩
  walk_at "gs"
  refine ite_dec (fun q0 => ?_) fun q0 => ?_
  · walk_at "gs"
    refine ⟨n, rfl, by omega, by omega, ?_⟩
    rw [Int.toNat_natCast]
    refine lcR (fun _ => true) (fun _ i H y => ∃ k, Pq H y k ∧ k.1 < n ∧ k.2 < n) (by omega) (fun _ _ _ _ _ bu mu h => pq_mono bu mu h) ?_ ?_
    · intro D i H2 N N' hi hD s2 mu q1 q2
      have e0 : (0 : Int) + (i : Int) = (i : Int) := Int.zero_add _
      rw [e0]
      walk_at "gs"
      refine ⟨rfl, ?_⟩
      walk_at "gs"
      have e1 : ((i : Int) + 1) % (n : Int) = (((i + 1) % n : Nat) : Int) := by push_cast; rfl
      rw [e1]
      intro p np
      exact q1 rfl _ _ (sameNew np) ⟨(i, (i + 1) % n), ⟨p, rfl, upd_same⟩, hi, Nat.mod_lt _ (by omega)⟩
    · intro D H2 ys hD s2 hy pr
      obtain ⟨ks, k1, k2, k3⟩ := pairsOf pr
      rw [kept_allLen] at k3
      exact fin D H2 ys ks s2 hD hy k1 k2 (by omega)
  walk_at "gs"
  refine ite_dec (fun q1 => ?_) fun q1 => ?_
  · walk_at "gs"
    refine ⟨n, rfl, by omega, by omega, ?_⟩
    rw [Int.toNat_natCast]
    refine lcR (fun _ => true) (fun _ i H y => ∃ k, Pq H y k ∧ k.1 < n ∧ k.2 < n) (by omega) (fun _ _ _ _ _ bu mu h => pq_mono bu mu h) ?_ ?_
    · intro D i H2 N N' hi hD s2 mu q1 q2
      have e0 : (0 : Int) + (i : Int) = (i : Int) := Int.zero_add _
      rw [e0]
      walk_at "gs"
      refine ⟨rfl, ?_⟩
      walk_at "gs"
      intro l nl
      have s3 : Same H2 (upd H2 l (.lst [.int ((i : Int) + 1), .int 0])) := sameNew nl
      have hl : (upd H2 l (.lst [.int ((i : Int) + 1), .int 0])) l = some (.lst [.int ((i : Int) + 1), .int 0]) := upd_same
      generalize upd H2 l (.lst [.int ((i : Int) + 1), .int 0]) = H3 at *
      have one : ∀ v : Nat, v < n → (∀ p, H3 p = none → N (.ref p) (upd H3 p (.tup [.int (i : Nat), .int (v : Nat)]))) := fun v hv p np => q1 rfl _ _ (s3.trans (sameNew np)) ⟨(i, v), ⟨p, rfl, upd_same⟩, hi, hv⟩
      walk_at "gs"
      refine ite_dec (fun h => ?_) fun h => ?_
      · walk_at "gs"
        exact one 0 (by omega)
      · walk_at "gs"
        by_cases h2 : (i : Int) = (n : Int) - 1
        · rw [decide_eq_true h2]
          walk_at "gs"
          exact one 0 (by omega)
        · rw [decide_eq_false h2]
          walk_at "gs"
          exact one (i + 1) (by omega)
    · intro D H2 ys hD s2 hy pr
      obtain ⟨ks, k1, k2, k3⟩ := pairsOf pr
      rw [kept_allLen] at k3
      walk_at "gs"
      have e1 : (1 + (n : Int) / 2) % (n : Int) = (((1 + n / 2) % n : Nat) : Int) := by push_cast; rfl
      rw [e1]
      intro t nt
      have s3 : Same H2 (upd H2 t (.tup [.int 0, .int (((1 + n / 2) % n : Nat) : Int)])) := sameNew nt
      have ht : (upd H2 t (.tup [.int 0, .int (((1 + n / 2) % n : Nat) : Int)])) t = some (.tup [.int ((0 : Nat) : Int), .int (((1 + n / 2) % n : Nat) : Int)]) := upd_same
      generalize upd H2 t (.tup [.int 0, .int (((1 + n / 2) % n : Nat) : Int)]) = H3 at *
      walk_at "gs"
      intro l nl
      have s4 : Same H3 (upd H3 l (.lst [.ref t])) := sameNew nl
      refine ⟨D, l, ys, [.ref t], rfl, rfl, (s3.trans s4) _ _ hy, upd_same, by have := pairLen k1; rw [sizeLine_eq]; simp; omega, fun p np => ?_⟩
      have s5 := ((s2.trans s3).trans s4).trans (sameNew (o := .lst (ys ++ [.ref t])) np)
      have s6 := (s3.trans s4).trans (sameNew (o := .lst (ys ++ [.ref t])) np)
      have s7 := s4.trans (sameNew (o := .lst (ys ++ [.ref t])) np)
      refine fin p _ (ys ++ [.ref t]) (ks ++ [(0, (1 + n / 2) % n)]) s5 (((s2.trans s3).trans s4).free np) upd_same (pq_app (pq_same s6 k1) (.cons ⟨t, rfl, s7 _ _ ht⟩ .nil)) (fun k hk => ?_) (by rw [List.length_append]; simp; omega)
      rcases List.mem_append.mp hk with h | h
      · exact k2 k h
      · rw [List.mem_singleton] at h
        rw [h]
        exact ⟨by show 0 < n; omega, Nat.mod_lt _ (by omega)⟩
  walk_at "gs"
  refine ite_dec (fun q2 => ?_) fun q2 => ?_
  · walk_at "gs"
    refine ⟨1, n, rfl, by constructor <;> omega, ?_⟩
    rw [show ((n : Int) - 1).toNat = n - 1 by omega]
    refine lcR (fun _ => true) (fun _ i H y => ∃ k, Pq H y k ∧ k.1 < n ∧ k.2 < n) (by omega) (fun _ _ _ _ _ bu mu h => pq_mono bu mu h) ?_ ?_
    · intro D i H2 N N' hi hD s2 mu q1 q2
      have e0 : (1 : Int) + (i : Int) = ((i + 1 : Nat) : Int) := by omega
      rw [e0]
      walk_at "gs"
      refine ⟨rfl, ?_⟩
      walk_at "gs"
      intro p np
      exact q1 rfl _ _ (sameNew np) ⟨(0, i + 1), ⟨p, rfl, upd_same⟩, by show 0 < n; omega, by show i + 1 < n; omega⟩
    · intro D H2 ys hD s2 hy pr
      obtain ⟨ks, k1, k2, k3⟩ := pairsOf pr
      rw [kept_allLen] at k3
      exact fin D H2 ys ks s2 hD hy k1 k2 (by omega)
  walk_at "gs"
  refine ite_dec (fun q3 => ?_) fun q3 => ?_
  · walk_at "gs"
    refine ⟨1, n, rfl, by constructor <;> omega, ?_⟩
    rw [show ((n : Int) - 1).toNat = n - 1 by omega]
    refine lcR (fun _ => true) (fun _ i H y => ∃ k, Pq H y k ∧ k.1 < n ∧ k.2 < n) (by omega) (fun _ _ _ _ _ bu mu h => pq_mono bu mu h) ?_ ?_
    · intro D i H2 N N' hi hD s2 mu q1 q2
      have e0 : (1 : Int) + (i : Int) = ((i + 1 : Nat) : Int) := by omega
      rw [e0]
      walk_at "gs"
      refine ⟨rfl, ?_⟩
      walk_at "gs"
      · exact ⟨by omega, by decide⟩
      walk_at "gs"
      have e1 : ((i + 1 : Nat) : Int) / 2 = (((i + 1) / 2 : Nat) : Int) := by omega
      rw [e1]
      intro p np
      exact q1 rfl _ _ (sameNew np) ⟨((i + 1) / 2, i + 1), ⟨p, rfl, upd_same⟩, by show (i + 1) / 2 < n; omega, by show i + 1 < n; omega⟩
    · intro D H2 ys hD s2 hy pr
      obtain ⟨ks, k1, k2, k3⟩ := pairsOf pr
      rw [kept_allLen] at k3
      walk_at "gs"
      have e1 : (n : Int) - 1 = ((n - 1 : Nat) : Int) := by omega
      rw [e1]
      intro t nt
      have s3 : Same H2 (upd H2 t (.tup [.int 0, .int ((n - 1 : Nat) : Int)])) := sameNew nt
      have ht : (upd H2 t (.tup [.int 0, .int ((n - 1 : Nat) : Int)])) t = some (.tup [.int ((0 : Nat) : Int), .int ((n - 1 : Nat) : Int)]) := upd_same
      generalize upd H2 t (.tup [.int 0, .int ((n - 1 : Nat) : Int)]) = H3 at *
      walk_at "gs"
      intro l nl
      have s4 : Same H3 (upd H3 l (.lst [.ref t])) := sameNew nl
      refine ⟨D, l, ys, [.ref t], rfl, rfl, (s3.trans s4) _ _ hy, upd_same, by have := pairLen k1; rw [sizeLine_eq]; simp; omega, fun p np => ?_⟩
      have s5 := ((s2.trans s3).trans s4).trans (sameNew (o := .lst (ys ++ [.ref t])) np)
      have s6 := (s3.trans s4).trans (sameNew (o := .lst (ys ++ [.ref t])) np)
      have s7 := s4.trans (sameNew (o := .lst (ys ++ [.ref t])) np)
      refine fin p _ (ys ++ [.ref t]) (ks ++ [(0, n - 1)]) s5 (((s2.trans s3).trans s4).free np) upd_same (pq_app (pq_same s6 k1) (.cons ⟨t, rfl, s7 _ _ ht⟩ .nil)) (fun k hk => ?_) (by rw [List.length_append]; simp; omega)
      rcases List.mem_append.mp hk with h | h
      · exact k2 k h
      · rw [List.mem_singleton] at h
        rw [h]
        exact ⟨by show 0 < n; omega, by show n - 1 < n; omega⟩
  walk_at "gs"
  refine ite_dec (fun q4 => ?_) fun q4 => ?_
  · walk_at "gs"
    refine ⟨(n : Int) - 2, rfl, by omega, by omega, ?_⟩
    rw [show ((n : Int) - 2).toNat = n - 2 by omega]
    refine lcR (fun _ => true) (fun _ i H y => ∃ k, Pq H y k ∧ k.1 < n ∧ k.2 < n) (by omega) (fun _ _ _ _ _ bu mu h => pq_mono bu mu h) ?_ ?_
    · intro D i H2 N N' hi hD s2 mu q1 q2
      have e0 : (0 : Int) + (i : Int) = (i : Int) := Int.zero_add _
      rw [e0]
      walk_at "gs"
      refine ⟨rfl, ?_⟩
      walk_at "gs"
      intro p np
      exact q1 rfl _ _ (sameNew np) ⟨(i, i + 2), ⟨p, rfl, upd_same⟩, by show i < n; omega, by show i + 2 < n; omega⟩
    · intro D H2 ys hD s2 hy pr
      obtain ⟨ks, k1, k2, k3⟩ := pairsOf pr
      rw [kept_allLen] at k3
      walk_at "gs"
      · exact ⟨by omega, by decide⟩
      walk_at "gs"
      refine ⟨(n : Int) / 2, rfl, by omega, by omega, ?_⟩
      rw [show ((n : Int) / 2).toNat = n / 2 by omega]
      refine lcR (fun _ => true) (fun _ i H y => ∃ k, Pq H y k ∧ k.1 < n ∧ k.2 < n) (by omega) (fun _ _ _ _ _ bu mu h => pq_mono bu mu h) ?_ ?_
      · intro D i H2 N N' hi hD s2 mu q1 q2
        have e0 : (0 : Int) + (i : Int) = (i : Int) := Int.zero_add _
        rw [e0]
        walk_at "gs"
        refine ⟨rfl, ?_⟩
        walk_at "gs"
        intro p np
        exact q1 rfl _ _ (sameNew np) ⟨(2 * i, 2 * i + 1), ⟨p, rfl, upd_same⟩, by show 2 * i < n; omega, by show 2 * i + 1 < n; omega⟩
      · intro D2 H3 zs hD2 s3 hz pr2
        obtain ⟨ms, m1, m2, m3⟩ := pairsOf pr2
        rw [kept_allLen] at m3
        have l1 := pairLen k1
        have l2 := pairLen m1
        refine ⟨D, D2, ys, zs, rfl, rfl, s3 _ _ hy, hz, by rw [sizeLine_eq]; omega, fun p np => ?_⟩
        have s4 : Same H3 (upd H3 p (.lst (ys ++ zs))) := sameNew np
        refine fin p _ (ys ++ zs) (ks ++ ms) ((s2.trans s3).trans s4) ((s2.trans s3).free np) upd_same (pq_app (pq_same (s3.trans s4) k1) (pq_same s4 m1)) (fun k hk => ?_) (by rw [List.length_append]; omega)
        rcases List.mem_append.mp hk with h | h
        · exact k2 k h
        · exact m2 k h
  walk_at "gs"
  intro p np
  have fp : H p = none := by
    obtain ⟨ds, hds⟩ := id hd1
    exact b1.fresh hds np
  have s2 : Same H1 (upd H1 p (.lst [])) := sameNew np
  have hp2 : (upd H1 p (.lst [])) p = some (.lst []) := upd_same
  have b2 : But d H (upd H1 p (.lst [])) := b1.trans s2.but
  have hd2 := hd1.same s2
  have npd : p ≠ d := by
    obtain ⟨ds, hds⟩ := id hd1
    exact (ne_of_none hds np).symm
  generalize upd H1 p (.lst []) = H2 at *
  walk_at "gs"
  refine ⟨n, rfl, by omega, by omega, for_range (lo := 0) (n := (n : Int).toNat) (fun i σ H' => (∃ y5 y6 y7 : Option V, σ = [some (.ref d), some (.int n), some (.int (x % 8)), some (.int (1 + (n : Int) / 2)), some (.ref p), y5, y6, y7, none]) ∧ But d H H' ∧ DrI H' d ∧ ∃ ys ks, H' p = some (.lst ys) ∧ Paired (Pq H') ys ks ∧ (∀ k ∈ ks, k.1 < n ∧ k.2 < n) ∧ ks.length ≤ 9 * i) ⟨⟨_, _, _, rfl⟩, b2, hd2, [], [], hp2, .nil, (fun _ h => by cases h), Nat.zero_le _⟩ ?_ ?_⟩
  · rintro i σ H' hi ⟨⟨y5, y6, y7, rfl⟩, bu, hd', ys, ks, hp, pr, kn, kl⟩
    have e0 : (0 : Int) + (i : Int) = (i : Int) := Int.zero_add _
    rw [e0]
    walk_at "gs"
    refine ⟨(i : Int) + 1, n, rfl, by constructor <;> omega, ?_⟩
    rw [show ((n : Int) - ((i : Int) + 1)).toNat = n - (i + 1) by omega]
    refine for_range (fun j σ H' => (∃ y6 y7 : Option V, σ = [some (.ref d), some (.int n), some (.int (x % 8)), some (.int (1 + (n : Int) / 2)), some (.ref p), some (.int i), y6, y7, none]) ∧ But d H H' ∧ DrI H' d ∧ ∃ ys ks, H' p = some (.lst ys) ∧ Paired (Pq H') ys ks ∧ (∀ k ∈ ks, k.1 < n ∧ k.2 < n) ∧ ks.length ≤ 9 * i + j) ⟨⟨_, _, rfl⟩, bu, hd', ys, ks, hp, pr, kn, by omega⟩ ?_ ?_
    · rintro j σ H' hj ⟨⟨y6, y7, rfl⟩, bu, hd', ys, ks, hp, pr, kn, kl⟩
      have e1 : (i : Int) + 1 + (j : Int) = ((i + 1 + j : Nat) : Int) := by omega
      rw [e1]
      walk_at "gs"
      refine ⟨d, rfl, hd', fun z H3 b3 hd3 => ?_⟩
      have hp3 := b3 _ _ npd hp
      have pr3 : Paired (Pq H3) ys ks := pairMono (fun y k r => by
        obtain ⟨q, e, hq⟩ := r
        obtain ⟨ds, hds⟩ := id hd'
        exact ⟨q, e, b3.tupAt (by rw [hds]; trivial) hq⟩) pr
      have skip : ∀ z, (∃ y6 y7 : Option V, [some (V.ref d), some (.int n), some (.int (x % 8)), some (.int (1 + (n : Int) / 2)), some (.ref p), some (.int i), some (.int ((i + 1 + j : Nat) : Int)), some (.int z), none] = [some (V.ref d), some (.int n), some (.int (x % 8)), some (.int (1 + (n : Int) / 2)), some (.ref p), some (.int i), y6, y7, none]) ∧ But d H H3 ∧ DrI H3 d ∧ ∃ ys ks, H3 p = some (.lst ys) ∧ Paired (Pq H3) ys ks ∧ (∀ k ∈ ks, k.1 < n ∧ k.2 < n) ∧ ks.length ≤ 9 * i + (j + 1) := fun z => ⟨⟨_, _, rfl⟩, bu.trans b3, hd3, ys, ks, hp3, pr3, kn, by omega⟩
      have add : ∀ z, ∀ t, H3 t = none → (∃ y6 y7 : Option V, [some (V.ref d), some (.int n), some (.int (x % 8)), some (.int (1 + (n : Int) / 2)), some (.ref p), some (.int i), some (.int ((i + 1 + j : Nat) : Int)), some (.int z), none] = [some (V.ref d), some (.int n), some (.int (x % 8)), some (.int (1 + (n : Int) / 2)), some (.ref p), some (.int i), y6, y7, none]) ∧ But d H (upd (upd H3 t (.tup [.int i, .int ((i + 1 + j : Nat) : Int)])) p (.lst (ys ++ [.ref t]))) ∧ DrI (upd (upd H3 t (.tup [.int i, .int ((i + 1 + j : Nat) : Int)])) p (.lst (ys ++ [.ref t]))) d ∧ ∃ ys' ks, (upd (upd H3 t (.tup [.int i, .int ((i + 1 + j : Nat) : Int)])) p (.lst (ys ++ [.ref t]))) p = some (.lst ys') ∧ Paired (Pq (upd (upd H3 t (.tup [.int i, .int ((i + 1 + j : Nat) : Int)])) p (.lst (ys ++ [.ref t])))) ys' ks ∧ (∀ k ∈ ks, k.1 < n ∧ k.2 < n) ∧ ks.length ≤ 9 * i + (j + 1) := fun z t nt => by
        have s4 : Same H3 (upd H3 t (.tup [.int i, .int ((i + 1 + j : Nat) : Int)])) := sameNew nt
        have ht : (upd H3 t (.tup [.int i, .int ((i + 1 + j : Nat) : Int)])) t = some (.tup [.int (i : Nat), .int ((i + 1 + j : Nat) : Int)]) := upd_same
        have hp4 := s4 _ _ hp3
        have ntp : t ≠ p := (ne_of_none hp3 nt).symm
        have up : ∀ q xs, (upd H3 t (.tup [.int i, .int ((i + 1 + j : Nat) : Int)])) q = some (.tup xs) → (upd (upd H3 t (.tup [.int i, .int ((i + 1 + j : Nat) : Int)])) p (.lst (ys ++ [.ref t]))) q = some (.tup xs) := fun q xs h => by
          rw [upd_ne (ne_of h hp4 (by intro z; cases z))]
          exact h
        refine ⟨⟨_, _, rfl⟩, ((bu.trans b3).trans s4.but).updN fp, ?_, ys ++ [.ref t], ks ++ [(i, i + 1 + j)], upd_same, pq_app (pairMono (fun y k r => ?_) (pq_same s4 pr3)) (.cons ⟨t, rfl, up _ _ ht⟩ .nil), fun k hk => ?_, by rw [List.length_append]; simp; omega⟩
        · obtain ⟨ds, hds⟩ := hd3.same s4
          exact ⟨ds, by rw [upd_ne npd.symm]; exact hds⟩
        · obtain ⟨q, e, hq⟩ := r
          exact ⟨q, e, up _ _ hq⟩
        · rcases List.mem_append.mp hk with h | h
          · exact kn k h
          · rw [List.mem_singleton] at h
            rw [h]
            exact ⟨by show i < n; omega, by show i + 1 + j < n; omega⟩
      have doit : ∀ (b : Bool) (z : Int) (D : L2.Ends), (D.nx = fun σ H' => (∃ y6 y7 : Option V, σ = [some (.ref d), some (.int n), some (.int (x % 8)), some (.int (1 + (n : Int) / 2)), some (.ref p), some (.int i), y6, y7, none]) ∧ But d H H' ∧ DrI H' d ∧ ∃ ys ks, H' p = some (.lst ys) ∧ Paired (Pq H') ys ks ∧ (∀ k ∈ ks, k.1 < n ∧ k.2 < n) ∧ ks.length ≤ 9 * i + (j + 1)) →
          (if b = true then tDrop (tBM K "list" rAppend (tVar 4) (tCons (tTup (tCons (tVar 5) (tCons (tVar 6) tNil))) tNil)) D [some (V.ref d), some (.int n), some (.int (x % 8)), some (.int (1 + (n : Int) / 2)), some (.ref p), some (.int i), some (.int ((i + 1 + j : Nat) : Int)), some (.int z), none] H3 else tNext D [some (V.ref d), some (.int n), some (.int (x % 8)), some (.int (1 + (n : Int) / 2)), some (.ref p), some (.int i), some (.int ((i + 1 + j : Nat) : Int)), some (.int z), none] H3) := fun b z D hD => by
        cases b with
        | true =>
          walk_at "gs"
          refine ⟨.inl ⟨rfl, _, SqL.of hp3⟩, ?_⟩
          walk_at "gs"
          intro t nt
          walk_at "gs"
          refine ⟨p, ys, _, rfl, rfl, sameNew nt _ _ hp3, by have := pairLen pr3; rw [sizeLine_eq]; omega, ?_⟩
          rw [hD]
          exact add z t nt
        | false =>
          walk_at "gs"
          rw [hD]
          exact skip z
      have rest : ∀ (R : Bool → Hp → Prop), (∀ b, R b H3) → tOr (tAnd (tTest (tOp rEq (tVar 2) (tC (.int 6)))) (tTest (tOp rEq (tOp rModu (tOp rPlus (tVar 5) (tVar 6)) (tC (.int 2))) (tC (.int 0))))) (tTest (tOp rEq (tOp rModu (tVar 7) (tC (.int 3))) (tC (.int 0)))) [some (V.ref d), some (.int n), some (.int (x % 8)), some (.int (1 + (n : Int) / 2)), some (.ref p), some (.int i), some (.int ((i + 1 + j : Nat) : Int)), some (.int z), none] H3 R := by
        intro R hR
        walk_at "gs"
        refine ite_dec (fun _ => ?_) fun _ => ?_
        · walk_at "gs"
          refine ite_dec (fun _ => hR true) fun _ => ?_
          walk_at "gs"
          exact hR _
        · walk_at "gs"
          exact hR _
      have cond : ∀ (R : Bool → Hp → Prop), (∀ b, R b H3) → tOr (tAnd (tTest (tOp rEq (tVar 2) (tC (.int 5)))) (tTest (tOp rEq (tOp rLt (tVar 5) (tVar 3)) (tOp rLt (tVar 6) (tVar 3))))) (tOr (tAnd (tTest (tOp rEq (tVar 2) (tC (.int 6)))) (tTest (tOp rEq (tOp rModu (tOp rPlus (tVar 5) (tVar 6)) (tC (.int 2))) (tC (.int 0))))) (tTest (tOp rEq (tOp rModu (tVar 7) (tC (.int 3))) (tC (.int 0))))) [some (V.ref d), some (.int n), some (.int (x % 8)), some (.int (1 + (n : Int) / 2)), some (.ref p), some (.int i), some (.int ((i + 1 + j : Nat) : Int)), some (.int z), none] H3 R := by
        intro R hR
        refine go_or ?_
        refine go_and ?_
        refine go_test ?_
        walk_at "gs"
        refine ite_dec (fun _ => ?_) fun _ => ?_
        · refine go_test ?_
          refine go_op ?_
          refine go_op ?_
          refine go_var rfl ?_
          refine go_var rfl ?_
          refine go_I0 ?_
          refine go_op ?_
          refine go_var rfl ?_
          refine go_var rfl ?_
          refine go_I0 ?_
          refine go_eqB ?_
          refine go_bl ?_
          split
          · exact hR true
          · exact rest R hR
        · exact rest R hR
      refine go_name (σ' := [some (V.ref d), some (.int n), some (.int (x % 8)), some (.int (1 + (n : Int) / 2)), some (.ref p), some (.int i), some (.int ((i + 1 + j : Nat) : Int)), some (.int z), none]) rfl ?_
      exact go_if (cond _ fun b => doit b z _ rfl)
    · rintro σ H' ⟨⟨y6, y7, rfl⟩, bu, hd', ys, ks, hp, pr, kn, kl⟩
      exact ⟨⟨_, _, _, rfl⟩, bu, hd', ys, ks, hp, pr, kn, by omega⟩
  · rintro σ H' ⟨⟨y5, y6, y7, rfl⟩, bu, hd', ys, ks, hp, pr, kn, kl⟩
    walk_at "gs"
    exact hQ p H' bu hd' fp ⟨ys, ks, hp, pr, kn, by omega⟩
/-- ties, as the law keeps them -/
def TiesI (K : PySem.W.Frag) (H : Hp) (t : Addr) (n : Nat) (es : List Tie) : Prop := ∃ kvs, H t = some (.dT kvs) ∧ KvA K H kvs es ∧ (keysN es).Nodup ∧ (∀ e ∈ es, TieOk n e) ∧ 2 ≤ n ∧ n ≤ 9
def putE (es : List Tie) (a b p : Nat) : List Tie := if (a, b) ∈ keysN es then es.map fun e => if e.1 = a ∧ e.2.1 = b then (e.1, e.2.1, p) else e else es ++ [(a, b, p)]
theorem putE_keys (es : List Tie) (a b p : Nat) : keysN (putE es a b p) = if (a, b) ∈ keysN es then keysN es else keysN es ++ [(a, b)] := by
  unfold putE
  split
  · unfold keysN
    rw [List.map_map]
    refine List.map_congr_left fun e _ => ?_
    show ((if e.1 = a ∧ e.2.1 = b then (e.1, e.2.1, p) else e).1, (if e.1 = a ∧ e.2.1 = b then (e.1, e.2.1, p) else e).2.1) = _
    split <;> rfl
  · unfold keysN
    rw [List.map_append]
    rfl
theorem kva_any {K : PySem.W.Frag} {H : Hp} (a b : Nat) : ∀ {kvs : List (List Key × V)} {es : List Tie}, KvA K H kvs es → (kvs.any fun kv => decide (kv.1 = pkN a b)) = decide ((a, b) ∈ keysN es)
  | _, _, .nil => by simp [keysN]
  | _, _, .cons (a := kv) (b := e) ⟨h1, _⟩ r => by
    rw [List.any_cons, kva_any a b r, h1]
    by_cases q : e.1 = a ∧ e.2.1 = b
    · rw [q.1, q.2]
      simp [keysN, q.1, q.2]
    · have n1 : ¬ pkN e.1 e.2.1 = pkN a b := fun z => q (pkN_inj z)
      rw [decide_eq_false n1, Bool.false_or]
      have key : ∀ l : List Tie, (a, b) ∈ keysN l ↔ (a, b) ∈ keysN (e :: l) := fun l => ⟨fun h => List.mem_cons_of_mem _ h, fun h => (List.mem_cons.mp h).elim (fun z => absurd ⟨(congrArg Prod.fst z).symm, (congrArg Prod.snd z).symm⟩ q) id⟩
      exact decide_eq_decide.mpr (key _)
theorem kva_map {K : PySem.W.Frag} {H : Hp} {a b p : Nat} {w : V} (hw : Amt K H w p) : ∀ {kvs : List (List Key × V)} {es : List Tie}, KvA K H kvs es → KvA K H (kvs.map fun kv => if kv.1 = pkN a b then (kv.1, w) else kv) (es.map fun e => if e.1 = a ∧ e.2.1 = b then (e.1, e.2.1, p) else e)
  | _, _, .nil => .nil
  | _, _, .cons (a := kv) (b := e) ⟨h1, h2⟩ r => by
    refine .cons ?_ (kva_map hw r)
    dsimp only
    by_cases q : e.1 = a ∧ e.2.1 = b
    · rw [if_pos q, if_pos (by rw [h1, q.1, q.2])]
      exact ⟨h1, hw⟩
    · rw [if_neg q, if_neg (fun z => q (pkN_inj (h1.symm.trans z)))]
      exact ⟨h1, h2⟩
theorem kva_app {K : PySem.W.Frag} {H : Hp} {kvs ms : List (List Key × V)} {es fs : List Tie} (h : KvA K H kvs es) (h2 : KvA K H ms fs) : KvA K H (kvs ++ ms) (es ++ fs) := by
  unfold KvA at *
  induction h with
  | nil => exact h2
  | cons r _ ih => exact .cons r ih
theorem kva_put {K : PySem.W.Frag} {H : Hp} {kvs : List (List Key × V)} {es : List Tie} {a b p : Nat} {w : V} (h : KvA K H kvs es) (hw : Amt K H w p) : KvA K H (putK kvs (pkN a b) w) (putE es a b p) := by
  unfold putK putE
  rw [kva_any a b h]
  by_cases q : (a, b) ∈ keysN es
  · rw [if_pos (decide_eq_true q), if_pos q]
    exact kva_map hw h
  · rw [if_neg (by rw [decide_eq_false q]; decide), if_neg q]
    exact kva_app h (.cons ⟨rfl, hw⟩ .nil)
def sp_law_web (K : PySem.W.Frag) (a b c : V) (H : Hp) (Q : VK) : Prop := ∃ (d : Addr), a = .ref d ∧ DrI H d ∧ b = .int 2 ∧ c = .int 9 ∧ ∀ p t n es H1, But d H H1 → DrI H1 d → H1 p = some (.tup [.int (n : Nat), .ref t]) → TiesI K H1 t n es → H t = none → Q (.ref p) H1
theorem DrI.mut {H : Hp} {d : Addr} (h : DrI H d) : Mut (H d) := by
  obtain ⟨ds, h⟩ := h
  rw [h]
  trivial
theorem But.kva {K : PySem.W.Frag} {H H' : Hp} {p : Addr} {kvs : List (List Key × V)} {es : List Tie} (b : But p H H') (m : Mut (H p)) (h : KvA K H kvs es) : KvA K H' kvs es := pairMono (fun _ _ r => ⟨r.1, b.amt m r.2⟩) h
theorem But.pqs {H H' : Hp} {p : Addr} {ys : List V} {ks : List (Nat × Nat)} (b : But p H H') (m : Mut (H p)) (h : Paired (Pq H) ys ks) : Paired (Pq H') ys ks := pairMono (fun y k r => by
  obtain ⟨q, e, hq⟩ := r
  exact ⟨q, e, b.tupAt m hq⟩) h
theorem pure_law_web {K : PySem.W.Frag} : ∀ vs H Q, u3 (sp_law_web K) vs H Q → t_law_web K (u1 sp_law_next) (u2 (sp_law_order K)) (u1 (sp_law_weight K)) (u2 sp_law_pairs) { nx := fun _ H' => Q .non H', rt := Q } (L2.start ["_law_draws_here", "_law_least", "_law_most", "_law_many", "_law_order_here", "_law_alike", "_law_one", "_law_ties", "_law_i", "_law_j", "_law_weight_here"] vs) H := by
  rintro _ H Q ⟨_, _, _, rfl, d, rfl, hd, rfl, rfl, hQ⟩
  unfold t_law_web
  walk_at "st"
  walk_at "gs"
  refine ⟨d, rfl, hd, fun x H1 b1 hd1 => ?_⟩
  obtain ⟨n, en, hn2, hn⟩ : ∃ n : Nat, (2 : Int) + x % (9 - 2 + 1) = (n : Int) ∧ 2 ≤ n ∧ n ≤ 9 := ⟨(2 + x % 8).toNat, by omega, by omega, by omega⟩
  walk_at "gs"
  rw [en]
  refine ⟨d, n, rfl, hd1, rfl, hn, fun op os H2 b2 hd2 nop hop pm => ?_⟩
  have mop : op ≠ d := fun z => by
    obtain ⟨ds, h⟩ := hd1
    rw [← z, nop] at h
    cases h
  have osn : os.Nodup := pm.nodup_iff.mpr List.nodup_range
  have osl : os.length = n := by rw [pm.length_eq, List.length_range]
  have osm : ∀ x ∈ os, x < n := fun x hx => List.mem_range.mp (pm.mem_iff.mp hx)
  walk_at "gs"
  refine ⟨d, rfl, hd2, fun x2 H3 b3 hd3 => ?_⟩
  walk_at "gs"
  refine ⟨d, rfl, hd3, fun one p1 H4 b4 hd4 a4 l4 => ?_⟩
  walk_at "gs"
  intro t nt
  have bH : But d H H4 := ((b1.trans b2).trans b3).trans b4
  have ft : H t = none := by
    obtain ⟨ds, h⟩ := id hd4
    exact bH.fresh h nt
  have s5 : Same H4 (upd H4 t (.dT [])) := sameNew nt
  have ht5 : (upd H4 t (.dT [])) t = some (.dT []) := upd_same
  have ntd : t ≠ d := by
    obtain ⟨ds, h⟩ := hd4
    exact (ne_of_none h nt).symm
  have hop5 := s5 _ _ (b4 _ _ mop (b3 _ _ mop hop))
  have nto : op ≠ t := ne_of_none (b4 _ _ mop (b3 _ _ mop hop)) nt
  have hd5 := hd4.same s5
  have a5 := s5.amt a4
  have b5 := bH.trans s5.but
  generalize upd H4 t (.dT []) = H5 at *
  walk_at "gs"
  refine ⟨d, n, rfl, hd5, rfl, hn2, hn, fun pl H6 b6 hd6 npl hpl => ?_⟩
  obtain ⟨ys, ks, hy, pr, kn, kl⟩ := hpl
  have npd : pl ≠ d := fun z => by
    obtain ⟨ds, h⟩ := hd5
    rw [← z, npl] at h
    cases h
  have npt : pl ≠ t := fun z => by rw [← z, npl] at ht5; cases ht5
  refine ⟨pl, rfl, ⟨_, SqL.of hy⟩, for_list (xs := ys) (fun i σ H' => (∃ y8 y9 y10 : Option V, σ = [some (.ref d), some (.int 2), some (.int 9), some (.int (n : Nat)), some (.ref op), some (.int (x2 % 3)), some one, some (.ref t), y8, y9, y10]) ∧ But d H H' ∧ DrI H' d ∧ H' op = some (.lst (nv os)) ∧ H' pl = some (.lst ys) ∧ Paired (Pq H') ys ks ∧ Amt K H' one p1 ∧
    ∃ kvs es, H' t = some (.dT kvs) ∧ KvA K H' kvs es ∧ (keysN es).Nodup ∧ (∀ e ∈ es, TieOk n e)) ⟨⟨_, _, _, rfl⟩, b5.trans b6, hd6, b6 _ _ mop hop5, hy, pr, b6.amt hd5.mut a5, [], [], b6 _ _ ntd ht5, .nil, List.nodup_nil, fun _ h => by cases h⟩ (fun i σ H' _ p => SqL.of p.2.2.2.2.1) ?_ ?_⟩
  · rintro i x σ H' hx ⟨⟨y8, y9, y10, rfl⟩, bu, hd', ho', hy', pr', a', kvs, es, ht', kv', nd', ok'⟩
    obtain ⟨k, hk, q, rfl, hq⟩ := pairGet pr' hx
    obtain ⟨k1, k2⟩ := kn k (List.mem_of_getElem? hk)
    have hqs := SqT.of (K := K) hq
    have lk := keys_small ok' nd' hn
    have lkv := pairLen kv'
    have g1 : os[k.1]? = some os[k.1] := List.getElem?_eq_getElem (by omega)
    have g2 : os[k.2]? = some os[k.2] := List.getElem?_eq_getElem (by omega)
    -- the end of the turn, with the weight w
    have fin : ∀ (w : V) (p : Nat) H7, But d H H7 → DrI H7 d → H7 op = some (.lst (nv os)) → H7 pl = some (.lst ys) → Paired (Pq H7) ys ks → Amt K H7 one p1 → H7 t = some (.dT kvs) → KvA K H7 kvs es → Amt K H7 w p → lowA p ≤ 1000000000000 → ∀ D : L2.Ends, (D.nx = fun σ H' => (∃ y8 y9 y10 : Option V, σ = [some (.ref d), some (.int 2), some (.int 9), some (.int (n : Nat)), some (.ref op), some (.int (x2 % 3)), some one, some (.ref t), y8, y9, y10]) ∧ But d H H' ∧ DrI H' d ∧ H' op = some (.lst (nv os)) ∧ H' pl = some (.lst ys) ∧ Paired (Pq H') ys ks ∧ Amt K H' one p1 ∧
        ∃ kvs es, H' t = some (.dT kvs) ∧ KvA K H' kvs es ∧ (keysN es).Nodup ∧ (∀ e ∈ es, TieOk n e)) →
        tIfS (tTest (tOp rNe (tVar 8) (tVar 9))) (sDPut (tVar 7) (tTup (tCons (tCB rMin2 (tCons (tOp (rIxL K) (tVar 4) (tVar 8)) (tCons (tOp (rIxL K) (tVar 4) (tVar 9)) tNil))) (tCons (tCB rMax2 (tCons (tOp (rIxL K) (tVar 4) (tVar 8)) (tCons (tOp (rIxL K) (tVar 4) (tVar 9)) tNil))) tNil))) (tVar 10)) tNext D
          [some (.ref d), some (.int 2), some (.int 9), some (.int (n : Nat)), some (.ref op), some (.int (x2 % 3)), some one, some (.ref t), some (.int k.1), some (.int k.2), some w] H7 := by
      intro w p H7 c1 c2 c3 c4 c5 c6 c7 c8 c9 c10 D hD
      walk_at "gs"
      refine ite_ndec (fun ne => ?_) fun ne => ?_
      · walk_at "gs"
        refine go_ixL (SqL.of c3) (atI_nat (nv_at g1)) ?_
        walk_at "gs"
        refine go_ixL (SqL.of c3) (atI_nat (nv_at g2)) ?_
        walk_at "gs"
        refine go_ixL (SqL.of c3) (atI_nat (nv_at g1)) ?_
        walk_at "gs"
        refine go_ixL (SqL.of c3) (atI_nat (nv_at g2)) ?_
        walk_at "gs"
        have e1 : min ((os[k.1] : Nat) : Int) (os[k.2] : Nat) = ((min os[k.1] os[k.2] : Nat) : Int) := by omega
        have e2 : max ((os[k.1] : Nat) : Int) (os[k.2] : Nat) = ((max os[k.1] os[k.2] : Nat) : Int) := by omega
        rw [e1, e2]
        have ne2 : os[k.1] ≠ os[k.2] := fun z => by
          have := (List.getElem_inj osn).mp z
          omega
        have m1 := osm _ (List.getElem_mem (l := os) (n := k.1) (by omega))
        have m2 := osm _ (List.getElem_mem (l := os) (n := k.2) (by omega))
        have lt : min os[k.1] os[k.2] < max os[k.1] os[k.2] := by omega
        have ltn : max os[k.1] os[k.2] < n := by omega
        generalize min os[k.1] os[k.2] = aa at *
        generalize max os[k.1] os[k.2] = bb at *
        intro r nr
        have s8 : Same H7 (upd H7 r (.tup [.int aa, .int bb])) := sameNew nr
        walk_at "gs"
        refine ⟨t, _, rfl, DPut.pk (i := aa) (j := bb) (s8 _ _ c7) upd_same (by rw [sizeLine_eq]; omega), ?_⟩
        rw [hD]
        have ht8 := s8 _ _ c7
        have h8 : DrI (upd H7 r (.tup [.int aa, .int bb])) d := c2.same s8
        have c38 := s8 _ _ c3
        have c48 := s8 _ _ c4
        have c58 := pq_same s8 c5
        have c68 := s8.amt c6
        have c88 := s8.kva c8
        have c98 := s8.amt c9
        have c18 := c1.trans s8.but
        generalize upd H7 r (.tup [.int aa, .int bb]) = H8 at *
        have bt : But t H8 (upd H8 t (.dT (putK kvs (pkN aa bb) w))) := butUpd
        have mt : Mut (H8 t) := by rw [ht8]; trivial
        refine ⟨⟨_, _, _, rfl⟩, c18.updN ft, ?_, bt _ _ nto c38, bt _ _ npt c48, bt.pqs mt c58, bt.amt mt c68, _, putE es aa bb p, upd_same, kva_put (bt.kva mt c88) (bt.amt mt c98), ?_, ?_⟩
        · obtain ⟨ds, h⟩ := h8
          exact ⟨ds, bt _ _ ntd.symm h⟩
        · rw [putE_keys]
          split
          · exact nd'
          · rename_i q
            rw [List.nodup_append]
            refine ⟨nd', by simp, fun x hx y hy => ?_⟩
            rw [List.mem_singleton] at hy
            subst hy
            exact fun z => q (z ▸ hx)
        · intro e he
          unfold putE at he
          split at he
          · obtain ⟨e', he', rfl⟩ := List.mem_map.mp he
            split
            · obtain ⟨o1, o2, o3⟩ := ok' e' he'
              exact ⟨o1, o2, c10⟩
            · exact ok' e' he'
          · rcases List.mem_append.mp he with h | h
            · exact ok' e h
            · rw [List.mem_singleton] at h
              rw [h]
              exact ⟨lt, ltn, c10⟩
      · walk_at "gs"
        rw [hD]
        exact ⟨⟨_, _, _, rfl⟩, c1, c2, c3, c4, c5, c6, kvs, es, c7, c8, nd', ok'⟩
    walk_at "gs"
    refine ite_dec (fun q1 => ?_) fun q1 => ?_
    · walk_at "gs"
      refine ⟨d, rfl, hd', fun w p H7 b7 hd7 a7 l7 => ?_⟩
      refine go_name (by simp only [List.set_cons_succ, List.set_cons_zero]; exact rfl) ?_
      exact fin w p H7 (bu.trans b7) hd7 (b7 _ _ mop ho') (b7 _ _ npd hy') (b7.pqs hd'.mut pr') (b7.amt hd'.mut a') (b7 _ _ ntd ht') (b7.kva hd'.mut kv') a7 l7 _ rfl
    · refine go_next ?_
      exact fin one p1 H' bu hd' ho' hy' pr' a' ht' kv' a' l4 _ rfl
  · rintro σ H' ⟨⟨y8, y9, y10, rfl⟩, bu, hd', ho', hy', pr', a', kvs, es, ht', kv', nd', ok'⟩
    walk_at "gs"
    intro r nr
    walk_at "gs"
    have s8 : Same H' (upd H' r (.tup [.int (n : Nat), .ref t])) := sameNew nr
    exact hQ r t n es _ (bu.trans s8.but) (hd'.same s8) upd_same ⟨kvs, s8 _ _ ht', s8.kva kv', nd', ok', hn2, hn⟩ ft
def sp_law_rows (K : PySem.W.Frag) (a b : V) (H : Hp) (Q : VK) : Prop := ∃ (d t : Addr) (n : Nat) (es : List Tie), a = .ref d ∧ DrI H d ∧ b = .ref t ∧ TiesI K H t n es ∧ ∀ v H1, But d H H1 → DrI H1 d → RowsS K H1 v es → Q v H1
theorem pure_law_rows {K : PySem.W.Frag} : ∀ vs H Q, u2 (sp_law_rows K) vs H Q → t_law_rows K (u1 sp_law_next) { nx := fun _ H' => Q .non H', rt := Q } (L2.start ["_law_draws_here", "_law_ties", "_law_rows_here", "_law_i", "_law_j", "_law_weight_here"] vs) H := by
  rintro _ H Q ⟨_, _, rfl, d, t, n, es, rfl, hd, rfl, ⟨kvs, ht, hk, nd, ok, n2, n9⟩, hQ⟩
  have le := keys_small ok nd n9
  have lk := pairLen hk
  unfold t_law_rows
  walk_at "st"
  walk_at "gs"
  refine ⟨t, .dT kvs, ht, trivial, fun od => ?_⟩
  have htf : (upd H t (.frz od (.dT kvs))) t = some (.frz od (.dT kvs)) := upd_same
  have bf : But t H (upd H t (.frz od (.dT kvs))) := butUpd
  have mt : Mut (H t) := by rw [ht]; trivial
  have hkf := bf.kva mt hk
  have unlock : ∀ H2, Same (upd H t (.frz od (.dT kvs))) H2 → Same H (upd H2 t (.dT kvs)) := fun H2 s => lockSame ht s
  generalize upd H t (.frz od (.dT kvs)) = Hf at *
  walk_at "gs"
  refine ⟨t, od, rfl, .inr ⟨kvs, htf, ?_⟩⟩
  refine lcG walk_keysT (fun _ => true) (fun _ i H' y => ∃ e, es[i]? = some e ∧ ∃ a w, y = .ref a ∧ H' a = some (.tup [.int e.1, .int e.2.1, w]) ∧ Amt K H w e.2.2) (by omega) ?_ (fun H2 s => s _ _ htf) ?_ ?_
  · rintro D i H2 H3 v bu mu ⟨e, he, a, w, rfl, ha, hw⟩
    exact ⟨e, he, a, w, rfl, bu.tupAt mu ha, hw⟩
  · rintro D i x H2 H' N N' hi hD s mu ⟨rfl, ky, v, q, ei, rfl, hq⟩ q1 q2
    obtain ⟨e, he, e1, hw⟩ := pairGet hk ei
    simp only at e1 hw
    subst e1
    have hq' := SqT.of (K := K) (show H' q = some (.tup [.int e.1, .int e.2.1]) from hq)
    walk_at "gs"
    refine ⟨rfl, ?_⟩
    walk_at "gs"
    intro p np
    have s2 : Same H' (upd H' p (.tup [.int e.1, .int e.2.1])) := sameNew np
    walk_at "gs"
    refine ⟨t, v, rfl, ?_, ?_⟩
    · have := DGet.pk (i := e.1) (j := e.2.1) (.inr ⟨od, s2 _ _ (s _ _ htf)⟩) upd_same
      rw [valV_of_mem (kva_nodup hk nd) (List.mem_of_getElem? ei)] at this
      exact this
    walk_at "gs"
    intro r nr
    exact q1 rfl _ _ (s2.trans (sameNew nr)) ⟨e, he, r, v, rfl, upd_same, hw⟩
  · intro D H2 ys hD s2 hy pr
    rw [lk] at pr
    have pr2 := paired_kept (p := fun _ => true) (S := fun (y : V) (e : Tie) => ∃ a w, y = V.ref a ∧ H2 a = some (.tup [.int e.1, .int e.2.1, w]) ∧ Amt K H w e.2.2) (fun _ _ _ => rfl) pr
    rw [filter_all] at pr2
    walk_at "gs"
    refine ⟨s2 _ _ htf, ?_⟩
    have s3 := unlock H2 s2
    have nD : D ≠ t := ne_of_none htf hD |>.symm
    have hy3 : (upd H2 t (.dT kvs)) D = some (.lst ys) := by rw [upd_ne nD]; exact hy
    have pr3 : Rows K (upd H2 t (.dT kvs)) ys es := pairMono (fun y e r => by
      obtain ⟨a, w, e1, ha, hw⟩ := r
      exact ⟨a, w, e1, SqT.of (by rw [upd_ne (ne_of ha (s2 _ _ htf) (by intro z; cases z))]; exact ha), s3.amt hw⟩) pr2
    have nDd : D ≠ d := fun z => by
      obtain ⟨ds, h⟩ := hd
      have := s3 _ _ h
      by_cases q : d = t
      · rw [← z] at q; exact nD q
      · have h2 := bf _ _ q h
        rw [← z, hD] at h2
        cases h2
    generalize upd H2 t (.dT kvs) = H3 at *
    walk_at "gs"
    refine ⟨d, rfl, hd.same s3, fun x H4 b4 hd4 => ?_⟩
    have md := (hd.same s3).mut
    have hy4 := b4 _ _ nDd hy3
    have pr4 : Rows K H4 ys es := pairMono (fun _ _ r => b4.row3 md r) pr3
    have l4 := pairLen pr4
    walk_at "gs"
    refine ite_dec (fun q => ?_) fun q => ?_
    · walk_at "gs"
      refine ⟨D, rfl, ⟨_, SqL.of hy4⟩, lcL (SqL.of hy4) (fun _ => true) (fun D2 i H' y => ∃ e, es[i]? = some e ∧ ∃ a w, y = .ref a ∧ a ≠ D2 ∧ H' a = some (.lst [.int e.1, .int e.2.1, .ref w]) ∧ w ≠ D2 ∧ H' w = some (.lst [.int (lowA e.2.2 : Nat), .int (lowB e.2.2 : Nat)])) (by omega) ?_ ?_ ?_⟩
      · rintro D2 i H5 H6 v bu mu ⟨e, he, a, w, rfl, n1, h1, n2, h2⟩
        exact ⟨e, he, a, w, rfl, n1, bu _ _ n1 h1, n2, bu _ _ n2 h2⟩
      · intro D2 i x H5 N N' hx hD2 s5 mu q1 q2
        obtain ⟨e, he, a, w, rfl, ha, c, rfl, hc⟩ := pairGet pr4 hx
        have ha5 := s5.seqT ha
        have hc5 := s5.seqT hc
        walk_at "gs"
        refine ⟨rfl, ?_⟩
        walk_at "gs"
        refine ⟨c, _, rfl, .inr hc5, fun w nw => ?_⟩
        walk_at "gs"
        intro r nr
        have s6 : Same H5 (upd H5 w (.lst [.int (lowA e.2.2 : Nat), .int (lowB e.2.2 : Nat)])) := sameNew nw
        have ex : ∀ z, z = D2 → H5 z ≠ none := fun z e h => by rw [e] at h; rw [h] at mu; exact mu
        refine q1 rfl _ _ (s6.trans (sameNew nr)) ⟨e, he, r, w, rfl, fun z => ?_, upd_same, fun z => ex w z nw, sameNew nr _ _ upd_same⟩
        exact ex r z (s6.free nr)
      · intro D2 H5 zs hD2 s5 hz pr5
        rw [l4] at pr5
        have pr6 := paired_kept (p := fun _ => true) (S := fun (y : V) (e : Tie) => ∃ a w, y = V.ref a ∧ a ≠ D2 ∧ H5 a = some (.lst [.int e.1, .int e.2.1, .ref w]) ∧ w ≠ D2 ∧ H5 w = some (.lst [.int (lowA e.2.2 : Nat), .int (lowB e.2.2 : Nat)])) (fun _ _ _ => rfl) pr5
        rw [filter_all] at pr6
        refine hQ _ H5 ((s3.but.trans b4).trans s5.but) (hd4.same s5) ⟨zs, ⟨D2, rfl, .inl (SqL.of hz)⟩, pairMono (fun y e r => ?_) pr6⟩
        obtain ⟨a, w, rfl, _, h1, _, h2⟩ := r
        exact ⟨.ref w, ⟨a, rfl, .inl (SqL.of h1)⟩, w, rfl, .inl (SqL.of h2)⟩
    · walk_at "gs"
      refine ⟨D, ys, rfl, .inl ⟨SqL.of hy4, fun r nr => ?_⟩⟩
      have s5 : Same H4 (upd H4 r (.tup ys)) := sameNew nr
      refine hQ _ _ ((s3.but.trans b4).trans s5.but) (hd4.same s5) ⟨ys, ⟨r, rfl, .inr (SqT.of upd_same)⟩, pairMono (fun y e q => ?_) (s5.rows pr4)⟩
      obtain ⟨a, w, rfl, ha, c, rfl, hc⟩ := q
      exact ⟨.ref c, ⟨a, rfl, .inr ha⟩, c, rfl, .inr hc⟩
/-- what is counted: parts both ways -/
def CtI (H : Hp) (p : Addr) (c : Nat → Nat → Nat) : Prop := ∃ kc, H p = some (.dT kc) ∧ ∀ i j, (valV kc (pkN i j)).getD (.int 0) = .int (c i j : Nat)
theorem ct_put {kc : List (List Key × V)} {l : List Tie} {e : Tie} (h : ∀ i j, (valV kc (pkN i j)).getD (.int 0) = .int (tieW l i j : Nat)) (hk : (e.1, e.2.1) ∉ keysN l) (lt : e.1 < e.2.1) (x y : Nat) :
    (valV (putK (putK kc (pkN e.1 e.2.1) (.int (e.2.2 : Nat))) (pkN e.2.1 e.1) (.int (e.2.2 : Nat))) (pkN x y)).getD (.int 0) = .int (tieW (l ++ [e]) x y : Nat) := by
  have t := tieW_snoc hk x y
  rw [valV_put, valV_put]
  by_cases e1 : x = e.2.1 ∧ y = e.1
  · rw [if_pos (by omega)] at t
    rw [t, e1.1, e1.2, if_pos rfl]
    rfl
  · rw [if_neg (fun z => e1 (pkN_inj z))]
    by_cases e2 : x = e.1 ∧ y = e.2.1
    · rw [if_pos (by omega)] at t
      rw [t, e2.1, e2.2, if_pos rfl]
      rfl
    · rw [if_neg (by omega)] at t
      rw [t, if_neg (fun z => e2 (pkN_inj z))]
      exact h x y
theorem keys_take {es : List Tie} {i : Nat} {e : Tie} (nd : (keysN es).Nodup) (he : es[i]? = some e) : (e.1, e.2.1) ∉ keysN (es.take i) := fun h => by
  unfold keysN at h
  rw [List.map_take] at h
  obtain ⟨j, hj⟩ := List.mem_iff_getElem?.mp h
  have hji : j < i := by
    have := (List.getElem?_eq_some_iff.mp hj).1
    rw [List.length_take] at this
    omega
  rw [List.getElem?_take_of_lt hji] at hj
  have hi2 : (es.map fun e => (e.1, e.2.1))[i]? = some (e.1, e.2.1) := by rw [List.getElem?_map, he]; rfl
  obtain ⟨a1, a2⟩ := List.getElem?_eq_some_iff.mp hj
  obtain ⟨b1, b2⟩ := List.getElem?_eq_some_iff.mp hi2
  have := (List.getElem_inj (show (es.map fun e => (e.1, e.2.1)).Nodup from nd)).mp (a2.trans b2.symm)
  omega
def sp_law_parts (K : PySem.W.Frag) (a : V) (H : Hp) (Q : VK) : Prop := ∃ (t : Addr) (n : Nat) (es : List Tie), a = .ref t ∧ TiesI K H t n es ∧ ∀ p H1, Same H H1 → CtI H1 p (tieW es) → Q (.ref p) H1
theorem pure_law_parts {K : PySem.W.Frag} : ∀ vs H Q, u1 (sp_law_parts K) vs H Q → t_law_parts K { nx := fun _ H' => Q .non H', rt := Q } (L2.start ["_law_ties", "_law_found", "_law_i", "_law_j"] vs) H := by
  rintro _ H Q ⟨_, rfl, t, n, es, rfl, ⟨kvs, ht, hk, nd, ok, n2, n9⟩, hQ⟩
  have le := keys_small ok nd n9
  have lk := pairLen hk
  unfold t_law_parts
  walk_at "st"
  walk_at "gs"
  intro p np
  have s1 : Same H (upd H p (.dT [])) := sameNew np
  have hp1 : (upd H p (.dT [])) p = some (.dT []) := upd_same
  have npt : p ≠ t := (ne_of_none ht np).symm
  generalize upd H p (.dT []) = H1 at *
  have ht1 := s1 _ _ ht
  have hk1 := s1.kva hk
  walk_at "gs"
  refine ⟨t, .dT kvs, ht1, trivial, fun od => ?_⟩
  have htf : (upd H1 t (.frz od (.dT kvs))) t = some (.frz od (.dT kvs)) := upd_same
  have hpf : (upd H1 t (.frz od (.dT kvs))) p = some (.dT []) := by rw [upd_ne npt]; exact hp1
  have mt : Mut (H1 t) := by rw [ht1]; trivial
  have hkf := (butUpd (p := t) (H := H1) (o := .frz od (.dT kvs))).kva mt hk1
  have unlock : ∀ H2, But p (upd H1 t (.frz od (.dT kvs))) H2 → Same H (upd H2 t (.dT kvs)) := fun H2 b x o e => by
    by_cases q : x = t
    · subst q
      rw [ht] at e
      cases e
      exact upd_same
    · rw [upd_ne q]
      exact b _ _ (ne_of_none e np) (by rw [upd_ne q]; exact s1 _ _ e)
  generalize upd H1 t (.frz od (.dT kvs)) = Hf at *
  have mpf : Mut (Hf p) := by rw [hpf]; trivial
  walk_at "gs"
  refine ⟨t, od, rfl, .inr ⟨kvs, htf, ?_⟩⟩
  refine for_it walk_keysT (fun i σ H' => (∃ y z : Option V, σ = [some (.ref t), some (.ref p), y, z]) ∧ But p Hf H' ∧ ∃ kc, H' p = some (.dT kc) ∧ kc.length ≤ 2 * i ∧ ∀ x y, (valV kc (pkN x y)).getD (.int 0) = .int (tieW (es.take i) x y : Nat)) ⟨⟨_, _, rfl⟩, (fun _ _ _ h => h), [], hpf, Nat.zero_le _, fun x y => by rw [List.take_zero]; rfl⟩ (fun i σ H' _ q => q.2.1 _ _ npt.symm htf) ?_ ?_
  · rintro i x σ H' H2 hi ⟨⟨y, z, rfl⟩, bu, kc, hp, lc, vc⟩ ⟨rfl, ky, v, q, ei, rfl, hq⟩
    obtain ⟨e, he, e1, hw⟩ := pairGet hkf ei
    simp only at e1 hw
    subst e1
    have hq' := SqT.of (K := K) (show H2 q = some (.tup [.int e.1, .int e.2.1]) from hq)
    obtain ⟨o1, o2, o3⟩ := ok e (List.mem_of_getElem? he)
    have htf' := bu _ _ npt.symm htf
    have hw' : Amt K H2 v e.2.2 := bu.amt mpf hw
    have hval := valV_of_mem (kva_nodup hkf nd) (List.mem_of_getElem? ei)
    walk_at "gs"
    intro r1 nr1
    have s2 : Same H2 (upd H2 r1 (.tup [.int e.1, .int e.2.1])) := sameNew nr1
    walk_at "gs"
    refine ⟨t, v, rfl, ?_, ?_⟩
    · have := DGet.pk (i := e.1) (j := e.2.1) (.inr ⟨od, s2 _ _ htf'⟩) upd_same
      rw [hval] at this
      exact this
    obtain ⟨c, rfl, hc⟩ := hw'
    have hc2 := s2.seqT hc
    walk_at "gs"
    intro r2 nr2
    have s3 := s2.trans (sameNew (o := .tup [.int e.1, .int e.2.1]) nr2)
    walk_at "gs"
    refine ⟨t, .ref c, rfl, ?_, ?_⟩
    · have := DGet.pk (i := e.1) (j := e.2.1) (.inr ⟨od, s3 _ _ htf'⟩) upd_same
      rw [hval] at this
      exact this
    have hc3 := s3.seqT hc
    walk_at "gs"
    · exact divW (lowB_pos e.2.2) (lowB_le e.2.2) (by decide)
    have e0 : (55440 : Int) / ((lowB e.2.2 : Nat) : Int) = ((55440 / lowB e.2.2 : Nat) : Int) := by
      rw [show (55440 : Int) = ((55440 : Nat) : Int) from rfl, ← Int.natCast_ediv]
    rw [e0]
    have l0 : 55440 / lowB e.2.2 ≤ 55440 := Nat.div_le_self _ _
    have lp := low_parts e.2.2
    generalize 55440 / lowB e.2.2 = z0 at *
    refine go_I (Or.inr ⟨by omega, by omega⟩) ?_
    have e2 : ((lowA e.2.2 : Nat) : Int) * (z0 : Int) = ((e.2.2 : Nat) : Int) := by
      rw [← Int.natCast_mul, lp]
    rw [e2]
    walk_at "gs"
    intro r3 nr3
    have s4 := s3.trans (sameNew (o := .tup [.int e.1, .int e.2.1]) nr3)
    walk_at "gs"
    refine ⟨p, _, rfl, DPut.pk (i := e.1) (j := e.2.1) (s4 _ _ hp) upd_same (by rw [sizeLine_eq]; omega), ?_⟩
    generalize hH4 : upd (upd (upd H2 r1 (.tup [.int e.1, .int e.2.1])) r2 (.tup [.int e.1, .int e.2.1])) r3 (.tup [.int e.1, .int e.2.1]) = H4 at *
    have b5 : But p Hf (upd H4 p (.dT (putK kc (pkN e.1 e.2.1) (.int (e.2.2 : Nat))))) := (bu.trans s4.but).trans butUpd
    have hp5 : (upd H4 p (.dT (putK kc (pkN e.1 e.2.1) (.int (e.2.2 : Nat))))) p = some (.dT (putK kc (pkN e.1 e.2.1) (.int (e.2.2 : Nat)))) := upd_same
    generalize upd H4 p (.dT (putK kc (pkN e.1 e.2.1) (.int (e.2.2 : Nat)))) = H5 at *
    walk_at "gs"
    intro r4 nr4
    have s6 : Same H5 (upd H5 r4 (.tup [.int e.1, .int e.2.1])) := sameNew nr4
    walk_at "gs"
    refine ⟨p, .int (e.2.2 : Nat), rfl, ?_, ?_⟩
    · have := DGet.pk (i := e.1) (j := e.2.1) (Rd.of (s6 _ _ hp5)) upd_same
      rw [valV_put, if_pos rfl] at this
      exact this
    walk_at "gs"
    intro r5 nr5
    have s7 := s6.trans (sameNew (o := .tup [.int e.2.1, .int e.1]) nr5)
    have lp1 := length_putK kc (pkN e.1 e.2.1) (.int (e.2.2 : Nat))
    have lp2 := length_putK (putK kc (pkN e.1 e.2.1) (.int (e.2.2 : Nat))) (pkN e.2.1 e.1) (.int (e.2.2 : Nat))
    walk_at "gs"
    refine ⟨p, _, rfl, DPut.pk (i := e.2.1) (j := e.1) (s7 _ _ hp5) upd_same (by rw [sizeLine_eq]; omega), ?_⟩
    refine ⟨⟨_, _, rfl⟩, (b5.trans s7.but).trans butUpd, _, upd_same, by omega, fun x y => ?_⟩
    have tk : es.take (i + 1) = es.take i ++ [e] := by rw [List.take_add_one, he]; rfl
    rw [tk]
    exact ct_put vc (keys_take nd he) o1 x y
  · rintro σ H' ⟨⟨y, z, rfl⟩, bu, kc, hp, lc, vc⟩
    rw [lk, List.take_length] at vc
    refine ⟨bu _ _ npt.symm htf, ?_⟩
    walk_at "gs"
    exact hQ p _ (unlock H' bu) ⟨kc, by rw [upd_ne npt]; exact hp, vc⟩
theorem sortNat {n : Nat} {l : List Nat} {zs : List Int} (hn : l.Nodup) (hl : ∀ x ∈ l, x < n) (hp : zs.Perm (l.map fun x : Nat => (x : Int))) (hs : zs.Pairwise (· ≤ ·)) : ∃ m : List Nat, zs.map V.int = nv m ∧ Rising n m ∧ ∀ x, x ∈ m ↔ x ∈ l := by
  obtain ⟨m, hm, e⟩ := perm_map (f := fun x : Nat => (x : Int)) hp rfl
  have hmn : m.Nodup := hm.nodup_iff.mpr hn
  have hle : m.Pairwise (· ≤ ·) := by
    rw [← e] at hs
    exact (List.pairwise_map.mp hs).imp fun h => by omega
  refine ⟨m, ?_, ⟨(hle.and hmn).imp fun h => Nat.lt_of_le_of_ne h.1 h.2, fun x hx => hl x (hm.mem_iff.mp hx)⟩, fun x => hm.mem_iff⟩
  rw [← e, List.map_map]
  rfl
theorem nv_ints (l : List Nat) : nv l = (l.map fun x : Nat => (x : Int)).map V.int := by
  unfold nv
  rw [List.map_map]
  rfl
theorem cut_to (l : List Nat) {k : Nat} (hk : k ≤ l.length) : cutV (nv l) none (some (k : Int)) = nv (l.take k) := by
  unfold cutV
  rw [HT.sIx_nat]
  show ((nv l).drop 0).take (min k (nv l).length - 0) = _
  rw [List.drop_zero, nv_len, Nat.min_eq_left hk, Nat.sub_zero]
  unfold nv
  rw [List.map_take]
theorem cut_mid (l : List Nat) {j k : Nat} (hk : j + k ≤ l.length) : cutV (nv l) (some (j : Int)) (some ((j : Int) + (k : Int))) = nv ((l.drop j).take k) := by
  unfold cutV
  rw [show (j : Int) + (k : Int) = ((j + k : Nat) : Int) by omega, HT.sIx_nat, HT.sIx_nat, nv_len, Nat.min_eq_left hk, Nat.min_eq_left (by omega), Nat.add_sub_cancel_left]
  unfold nv
  rw [List.map_take, List.map_drop]
def sp_law_ends (K : PySem.W.Frag) (a b : V) (H : Hp) (Q : VK) : Prop := ∃ (d : Addr) (n : Nat), a = .ref d ∧ DrI H d ∧ b = .int n ∧ 2 ≤ n ∧ n ≤ 9 ∧ ∀ p v w F T H1, But d H H1 → DrI H1 d → H1 p = some (.tup [v, w]) → EndsT K H1 v w F T → Cs.Ends n F T → Q (.ref p) H1
theorem end_of {n : Nat} {x : Int} (hn : 2 ≤ n) : ∃ k : Nat, min ((n : Int) / 2) (1 + max 0 (x % 5 - 2)) = (k : Int) ∧ 1 ≤ k ∧ 2 * k ≤ n := ⟨(min ((n : Int) / 2) (1 + max 0 (x % 5 - 2))).toNat, by omega, by omega, by omega⟩
theorem pure_law_ends {K : PySem.W.Frag} : ∀ vs H Q, u2 (sp_law_ends K) vs H Q → t_law_ends K (u2 (sp_law_order K)) (u1 sp_law_next) { nx := fun _ H' => Q .non H', rt := Q } (L2.start ["_law_draws_here", "_law_many", "_law_order_here", "_law_one", "_law_other"] vs) H := by
  rintro _ H Q ⟨_, _, rfl, d, n, rfl, hd, rfl, hn2, hn, hQ⟩
  unfold t_law_ends
  walk_at "st"
  walk_at "gs"
  refine ⟨d, n, rfl, hd, rfl, hn, fun op os H1 b1 hd1 nop hop pm => ?_⟩
  have mop : op ≠ d := fun z => by
    obtain ⟨ds, h⟩ := hd
    rw [← z, nop] at h
    cases h
  have osn : os.Nodup := pm.nodup_iff.mpr List.nodup_range
  have osl : os.length = n := by rw [pm.length_eq, List.length_range]
  have osm : ∀ x ∈ os, x < n := fun x hx => List.mem_range.mp (pm.mem_iff.mp hx)
  walk_at "gs"
  · exact ⟨by omega, by decide⟩
  walk_at "gs"
  refine ⟨d, rfl, hd1, fun x1 H2 b2 hd2 => ?_⟩
  obtain ⟨k1, e1, k11, k12⟩ := end_of (n := n) (x := x1) hn2
  walk_at "gs"
  · exact ⟨by omega, by decide⟩
  rw [e1]
  walk_at "gs"
  refine ⟨d, rfl, hd2, fun x2 H3 b3 hd3 => ?_⟩
  obtain ⟨k2, e2, k21, k22⟩ := end_of (n := n) (x := x2) hn2
  walk_at "gs"
  rw [e2]
  have hop3 := b3 _ _ mop (b2 _ _ mop hop)
  refine ⟨_, rfl, ?_⟩
  refine ⟨op, nv os, rfl, SqL.of hop3, fun p1 np1 => ?_⟩
  rw [cut_to os (by omega)]
  have s1 : Same H3 (upd H3 p1 (.lst (nv (os.take k1)))) := sameNew np1
  walk_at "gs"
  refine ⟨p1, (os.take k1).map fun x : Nat => (x : Int), rfl, SqL.of (by rw [upd_same, nv_ints]), fun zs p2 pz sz np2 => ?_⟩
  obtain ⟨F, eF, rF, mF⟩ := sortNat (n := n) (osn.sublist (List.take_sublist _ _)) (fun x hx => osm x (List.mem_of_mem_take hx)) pz sz
  rw [eF]
  have s2 := s1.trans (sameNew (o := .lst (nv F)) np2)
  have hF2 : (upd (upd H3 p1 (.lst (nv (os.take k1)))) p2 (.lst (nv F))) p2 = some (.lst (nv F)) := upd_same
  generalize upd (upd H3 p1 (.lst (nv (os.take k1)))) p2 (.lst (nv F)) = H4 at *
  walk_at "gs"
  refine ⟨p2, nv F, rfl, .inl ⟨SqL.of hF2, fun fp nfp => ?_⟩⟩
  have s3 : Same H4 (upd H4 fp (.tup (nv F))) := sameNew nfp
  have hfp : (upd H4 fp (.tup (nv F))) fp = some (.tup (nv F)) := upd_same
  generalize upd H4 fp (.tup (nv F)) = H5 at *
  walk_at "gs"
  refine ⟨_, rfl, ?_⟩
  walk_at "gs"
  refine ⟨_, rfl, ?_⟩
  refine ⟨op, nv os, rfl, SqL.of ((s2.trans s3) _ _ hop3), fun p3 np3 => ?_⟩
  rw [cut_mid os (by omega)]
  have s4 : Same H5 (upd H5 p3 (.lst (nv ((os.drop k1).take k2)))) := sameNew np3
  walk_at "gs"
  refine ⟨p3, ((os.drop k1).take k2).map fun x : Nat => (x : Int), rfl, SqL.of (by rw [upd_same, nv_ints]), fun zs2 p4 pz2 sz2 np4 => ?_⟩
  obtain ⟨T, eT, rT, mT⟩ := sortNat (n := n) (osn.sublist ((List.take_sublist _ _).trans (List.drop_sublist _ _))) (fun x hx => osm x (List.mem_of_mem_drop (List.mem_of_mem_take hx))) pz2 sz2
  rw [eT]
  have s5 := s4.trans (sameNew (o := .lst (nv T)) np4)
  have hT6 : (upd (upd H5 p3 (.lst (nv ((os.drop k1).take k2)))) p4 (.lst (nv T))) p4 = some (.lst (nv T)) := upd_same
  generalize upd (upd H5 p3 (.lst (nv ((os.drop k1).take k2)))) p4 (.lst (nv T)) = H6 at *
  walk_at "gs"
  refine ⟨p4, nv T, rfl, .inl ⟨SqL.of hT6, fun tp ntp => ?_⟩⟩
  have s6 : Same H6 (upd H6 tp (.tup (nv T))) := sameNew ntp
  have htp : (upd H6 tp (.tup (nv T))) tp = some (.tup (nv T)) := upd_same
  generalize upd H6 tp (.tup (nv T)) = H7 at *
  walk_at "gs"
  intro r nr
  walk_at "gs"
  have s7 : Same H7 (upd H7 r (.tup [.ref fp, .ref tp])) := sameNew nr
  have sH := (((s2.trans s3).trans s5).trans s6).trans s7
  refine hQ r _ _ F T _ (((b1.trans b2).trans b3).trans sH.but) (hd3.same sH) upd_same ⟨fp, tp, rfl, rfl, SqT.of (((s5.trans s6).trans s7) _ _ hfp), SqT.of (s7 _ _ htp)⟩ ⟨rF, rT, fun z => ?_, fun z => ?_, fun x h1 h2 => ?_⟩
  · have : (os.take k1) ≠ [] := fun q => by
      have := congrArg List.length q
      rw [List.length_take, List.length_nil] at this
      omega
    obtain ⟨y, hy⟩ := List.exists_mem_of_ne_nil _ this
    have := (mF y).mpr hy
    rw [z] at this
    cases this
  · have : ((os.drop k1).take k2) ≠ [] := fun q => by
      have := congrArg List.length q
      rw [List.length_take, List.length_drop, List.length_nil] at this
      omega
    obtain ⟨y, hy⟩ := List.exists_mem_of_ne_nil _ this
    have := (mT y).mpr hy
    rw [z] at this
    cases this
  · have q1 := (mF x).mp h1
    have q2 := List.mem_of_mem_take ((mT x).mp h2)
    have := List.take_append_drop k1 os
    rw [← this] at osn
    exact (List.nodup_append.mp osn).2.2 x q1 x q2 rfl
/-! ### sides -/
theorem sum_range (f : Nat → Int) (p : Nat → Bool) : ∀ n, (((List.range n).filter p).map f).sum = sm n fun j => if p j = true then f j else 0
  | 0 => rfl
  | n + 1 => by
    rw [List.range_succ, List.filter_append, List.map_append, List.sum_append, sum_range f p n]
    show _ = sm n (fun j => if p j = true then f j else 0) + if p n = true then f n else 0
    rw [List.filter_cons]
    split <;> simp
theorem sum_side {n : Nat} (f : Nat → Int) : ∀ {s : List Nat}, s.Nodup → (∀ x ∈ s, x < n) → (s.map f).sum = sm n fun i => if i ∈ s then f i else 0
  | [], _, _ => by
    rw [sm_congr (g := fun _ => 0) fun i _ => by simp, sm_zero]
    rfl
  | x :: s, hn, hl => by
    obtain ⟨h1, h2⟩ := List.nodup_cons.mp hn
    have e : (sm n fun i => if i ∈ x :: s then f i else 0) = sm n fun i => (if i = x then f x else 0) + if i ∈ s then f i else 0 := sm_congr fun i _ => by
      by_cases q : i = x
      · subst q; simp [h1]
      · simp [q]
    rw [e, sm_add, sm_one, if_pos (hl x List.mem_cons_self), List.map_cons, List.sum_cons, sum_side f h2 fun y hy => hl y (List.mem_cons_of_mem _ hy)]
/-- what goes over from a side -/
def sideW (n : Nat) (c : Nat → Nat → Nat) (s : List Nat) : Int := cross n (capI c) fun v => decide (v ∈ s)
theorem side_sum {n : Nat} {c : Nat → Nat → Nat} {s : List Nat} (rs : Rising n s) : (s.map fun i => (((List.range n).filter fun j => !decide (j ∈ s)).map fun j => ((c i j : Nat) : Int)).sum).sum = sideW n c s := by
  rw [sum_side _ (rs.1.imp fun h => Nat.ne_of_lt h) rs.2]
  unfold sideW cross ss
  refine sm_congr fun i _ => ?_
  rw [sum_range]
  by_cases q : i ∈ s
  · rw [if_pos q]
    exact sm_congr fun j _ => by by_cases q2 : j ∈ s <;> simp [q, q2, capI]
  · rw [if_neg q, sm_congr (g := fun _ => 0) fun j _ => by simp [q], sm_zero]
def sp_law_side_parts (K : PySem.W.Frag) (a b c : V) (H : Hp) (Q : VK) : Prop := ∃ (n : Nat) (kp : Addr) (cp : Nat → Nat → Nat) (l : Addr) (s : List Nat), a = .int n ∧ n ≤ 9 ∧ b = .ref kp ∧ CtI H kp cp ∧ c = .ref l ∧ SqT K H l (nv s) ∧ Rising n s ∧ ∀ H1, Same H H1 → Q (.int (sideW n cp s)) H1
theorem pure_law_side_parts {K : PySem.W.Frag} : ∀ vs H Q, u3 (sp_law_side_parts K) vs H Q → t_law_side_parts K { nx := fun _ H' => Q .non H', rt := Q } (L2.start ["_law_many", "_law_counted", "_law_side", "_law_found", "_law_i", "_law_j"] vs) H := by
  rintro _ H Q ⟨_, _, _, rfl, n, kp, cp, l, s, rfl, hn, rfl, ⟨kc, hk, vc⟩, rfl, hs, rs, hQ⟩
  have ls := rising_len rs
  unfold t_law_side_parts
  walk_at "st"
  walk_at "gs"
  refine ⟨l, rfl, ⟨_, hs⟩, for_tup (xs := nv s) (fun i σ H' => Same H H' ∧ ∃ y z : Option V, σ = [some (.int n), some (.ref kp), some (.ref l), some (.int (((s.take i).map fun i => (((List.range n).filter fun j => !decide (j ∈ s)).map fun j => ((cp i j : Nat) : Int)).sum).sum)), y, z]) ⟨Same.refl _, _, _, rfl⟩ (fun i σ H' _ p => p.1.seqT hs) ?_ ?_⟩
  · rintro i x σ H' hx ⟨s1, y, z, rfl⟩
    obtain ⟨v, hv, rfl⟩ := nv_get hx
    walk_at "gs"
    refine ⟨n, rfl, by omega, by omega, ?_⟩
    rw [Int.toNat_natCast]
    refine lcR (fun j => !decide (j ∈ s)) (fun _ j H y => y = V.int ((cp v j : Nat) : Int)) (by omega) (fun _ _ _ _ _ _ _ h => h) ?_ ?_
    · intro D j H2 N N' hj hD s2 mu q1 q2
      have e0 : (0 : Int) + (j : Int) = (j : Int) := Int.zero_add _
      rw [e0]
      walk_at "gs"
      refine ⟨rfl, ?_⟩
      walk_at "gs"
      have s3 := s1.trans s2
      refine go_notin (.inr (s3.seqT hs)) ?_
      walk_at "gs"
      by_cases q : j ∈ s
      · rw [decide_eq_true q] at q1 q2 ⊢
        walk_at "gs"
        exact q2 rfl H2 (Same.refl _)
      · rw [decide_eq_false q] at q1 q2 ⊢
        walk_at "gs"
        refine ⟨kp, rfl, .inr ⟨kc, Rd.of (s3 _ _ hk)⟩, ?_⟩
        walk_at "gs"
        intro p np
        have s4 : Same H2 (upd H2 p (.tup [.int v, .int j])) := sameNew np
        walk_at "gs"
        refine ⟨_, DGet.pk (i := v) (j := j) (Rd.of (s4 _ _ (s3 _ _ hk))) upd_same, ?_⟩
        rw [vc]
        exact q1 rfl _ _ s4 rfl
    · intro D H2 ys hD s2 hy pr
      have e := pairIntF pr
      subst e
      walk_at "gs"
      refine ⟨D, _, rfl, SqL.of hy, ?_⟩
      walk_at "gs"
      refine ⟨s1.trans s2, some (.int v), z, ?_⟩
      have tk : s.take (i + 1) = s.take i ++ [v] := by rw [List.take_add_one, hv]; rfl
      rw [tk, List.map_append, List.sum_append]
      unfold kept
      simp
  · rintro σ H' ⟨s1, y, z, rfl⟩
    rw [nv_len, List.take_length, side_sum rs]
    walk_at "gs"
    exact hQ H' s1
theorem rising_ext {n : Nat} {s t : List Nat} (hs : Rising n s) (ht : Rising n t) (h : ∀ v, v < n → (v ∈ s ↔ v ∈ t)) : s = t := by
  have ns : s.Nodup := hs.1.imp fun h => Nat.ne_of_lt h
  have nt : t.Nodup := ht.1.imp fun h => Nat.ne_of_lt h
  have pm : s.Perm t := (List.perm_ext_iff_of_nodup ns nt).mpr fun v => ⟨fun z => (h v (hs.2 v z)).mp z, fun z => (h v (ht.2 v z)).mpr z⟩
  exact pm.eq_of_pairwise (le := fun a b => a < b) (fun a b _ _ h1 h2 => by omega) hs.1 ht.1
def bitF (N k : Nat) : Bool := decide (N / 2 ^ k % 2 = 1)
theorem bits_ex : ∀ (m : Nat) (g : Nat → Bool), ∃ N, N < 2 ^ m ∧ ∀ k, k < m → bitF N k = g k
  | 0, _ => ⟨0, by decide, fun k h => absurd h (Nat.not_lt_zero _)⟩
  | m + 1, g => by
    obtain ⟨N, h1, h2⟩ := bits_ex m fun k => g (k + 1)
    refine ⟨2 * N + (if g 0 then 1 else 0), ?_, fun k hk => ?_⟩
    · rw [Nat.pow_succ]
      split <;> omega
    · cases k with
      | zero =>
        unfold bitF
        rw [Nat.pow_zero, Nat.div_one]
        cases g 0
        · exact decide_eq_false (by simp)
        · exact decide_eq_true (by simp)
      | succ k =>
        have e : (2 * N + (if g 0 then 1 else 0)) / 2 ^ (k + 1) = N / 2 ^ k := by
          rw [Nat.pow_succ, show 2 ^ k * 2 = 2 * 2 ^ k from Nat.mul_comm _ _, ← Nat.div_div_eq_div_mul]
          congr 1
          split <;> omega
        unfold bitF
        rw [e]
        exact h2 k (by omega)
def SideR (K : PySem.W.Frag) (H : Hp) (y : V) (s : List Nat) : Prop := ∃ q, y = .ref q ∧ SqT K H q (nv s)
structure Btw (n : Nat) (F T s : List Nat) : Prop where
  up : Rising n s
  inn : ∀ x ∈ F, x ∈ s
  out : ∀ x ∈ T, x ∉ s
def SidesI (K : PySem.W.Frag) (H : Hp) (p : Addr) (n : Nat) (F T : List Nat) (sides : List (List Nat)) : Prop := ∃ ys, H p = some (.lst ys) ∧ Paired (SideR K H) ys sides ∧ (∀ s ∈ sides, Btw n F T s) ∧ sides.length ≤ 512
theorem side_but {K : PySem.W.Frag} {H H' : Hp} {p : Addr} {ys : List V} {ss : List (List Nat)} (b : But p H H') (m : Mut (H p)) (h : Paired (SideR K H) ys ss) : Paired (SideR K H') ys ss := pairMono (fun _ _ r => r.imp fun _ q => ⟨q.1, b.tupM m q.2⟩) h
theorem side_same {K : PySem.W.Frag} {H H' : Hp} {ys : List V} {ss : List (List Nat)} (b : Same H H') (h : Paired (SideR K H) ys ss) : Paired (SideR K H') ys ss := pairMono (fun _ _ r => r.imp fun _ q => ⟨q.1, b.seqT q.2⟩) h
theorem pair_snoc {α β : Type} {R : α → β → Prop} {ys : List α} {ss : List β} {y : α} {s : β} (h : Paired R ys ss) (r : R y s) : Paired R (ys ++ [y]) (ss ++ [s]) := PySem.Paired.snoc h r
def leftL (n : Nat) (F T : List Nat) : List Nat := (List.range n).filter fun x => !decide (x ∈ F) && !decide (x ∈ T)
def moreL (n : Nat) (F T : List Nat) (N : Nat) : List Nat := (leftL n F T).filter fun x => bitF N ((leftL n F T).idxOf x)
def sp_law_sides_between (K : PySem.W.Frag) (a b : V) (H : Hp) (Q : VK) : Prop := ∃ (n : Nat) (e : Addr) (v w : V) (F T : List Nat), a = .int n ∧ n ≤ 9 ∧ b = .ref e ∧ SqT K H e [v, w] ∧ EndsT K H v w F T ∧ Cs.Ends n F T ∧
  ∀ p sides H1, Same H H1 → H p = none → SidesI K H1 p n F T sides → (∀ s, Btw n F T s → s ∈ sides) → Q (.ref p) H1
theorem pure_law_sides_between {K : PySem.W.Frag} : ∀ vs H Q, u2 (sp_law_sides_between K) vs H Q → t_law_sides_between K { nx := fun _ H' => Q .non H', rt := Q } (L2.start ["_law_many", "_law_ends_here", "_law_froms", "_law_tos", "_law_left", "_law_found", "_law_number", "_law_more", "_law_place", "_law_k"] vs) H := by
  rintro _ H Q ⟨_, _, rfl, n, e, v, w, F, T, rfl, hn, rfl, he, ⟨l, m, rfl, rfl, hF, hT⟩, ⟨rF, rT, nF, nT, dj⟩, hQ⟩
  have nL : (leftL n F T).Nodup := List.nodup_range.sublist List.filter_sublist
  have mL : ∀ x, x ∈ leftL n F T ↔ x < n ∧ x ∉ F ∧ x ∉ T := fun x => by
    unfold leftL
    rw [List.mem_filter, List.mem_range, Bool.and_eq_true]
    simp
  have lL : (leftL n F T).length ≤ 9 := by
    have := nodup_le (m := List.range n) nL fun x hx => List.mem_range.mpr ((mL x).mp hx).1
    rw [List.length_range] at this
    omega
  unfold t_law_sides_between
  walk_at "st"
  walk_at "gs"
  refine ⟨n, rfl, by omega, by omega, ?_⟩
  rw [Int.toNat_natCast]
  refine lcR (fun x => !decide (x ∈ F) && !decide (x ∈ T)) (fun _ i H y => y = V.int ((i : Nat) : Int)) (by omega) (fun _ _ _ _ _ _ _ h => h) ?_ ?_
  · intro D j H2 N N' hj hD s2 mu q1 q2
    have e0 : (0 : Int) + (j : Int) = (j : Int) := Int.zero_add _
    rw [e0]
    walk_at "gs"
    refine ⟨rfl, ?_⟩
    walk_at "gs"
    refine go_notin (.inr (s2.seqT hF)) ?_
    walk_at "gs"
    by_cases c1 : j ∈ F
    · rw [decide_eq_true c1] at q1 q2 ⊢
      walk_at "gs"
      exact q2 rfl H2 (Same.refl _)
    · rw [decide_eq_false c1] at q1 q2 ⊢
      walk_at "gs"
      refine go_notin (.inr (s2.seqT hT)) ?_
      walk_at "gs"
      by_cases c2 : j ∈ T
      · rw [decide_eq_true c2] at q1 q2 ⊢
        walk_at "gs"
        exact q2 rfl H2 (Same.refl _)
      · rw [decide_eq_false c2] at q1 q2 ⊢
        walk_at "gs"
        exact q1 rfl _ H2 (Same.refl _) rfl
  · intro lp H2 ys hD s2 hy pr
    have e1 : ys = nv (leftL n F T) := pairNv pr
    subst e1
    walk_at "gs"
    intro p np
    have fp := s2.free np
    have s3 : Same H (upd H2 p (.lst [])) := s2.trans (sameNew np)
    have hlp : (upd H2 p (.lst [])) lp = some (.lst (nv (leftL n F T))) := sameNew np _ _ hy
    have hp3 : (upd H2 p (.lst [])) p = some (.lst []) := upd_same
    have npl : lp ≠ p := ne_of_none hy np
    generalize upd H2 p (.lst []) = H3 at *
    walk_at "gs"
    · exact ⟨by omega, by rw [nv_len]; omega, by decide⟩
    rw [nv_len]
    have e2 : (1 : Int) * 2 ^ ((((leftL n F T).length : Nat) : Int)).toNat = ((2 ^ (leftL n F T).length : Nat) : Int) := by
      rw [Int.toNat_natCast, Int.one_mul]
      push_cast
      rfl
    have p1 : 2 ^ (leftL n F T).length ≤ 2 ^ 9 := Nat.pow_le_pow_right (by decide) lL
    walk_at "gs"
    rw [e2]
    generalize hz : 2 ^ (leftL n F T).length = z at p1 ⊢
    refine ⟨_, rfl, by omega, by omega, ?_⟩
    rw [Int.toNat_natCast]
    refine for_range (lo := 0) (fun i σ H' => (∃ y6 y7 : Option V, σ = [some (.int n), some (.ref e), some (.ref l), some (.ref m), some (.ref lp), some (.ref p), y6, y7, none, none]) ∧ Same H H' ∧ H' lp = some (.lst (nv (leftL n F T))) ∧ ∃ zs sides, H' p = some (.lst zs) ∧ Paired (SideR K H') zs sides ∧ (∀ s ∈ sides, Btw n F T s) ∧ sides.length = i ∧ ∀ N, N < i → ∃ s ∈ sides, ∀ x, x ∈ s ↔ x ∈ F ∨ x ∈ moreL n F T N) ⟨⟨_, _, rfl⟩, s3, hlp, [], [], hp3, .nil, (fun _ h => by cases h), rfl, fun N h => absurd h (Nat.not_lt_zero _)⟩ ?_ ?_
    · rintro i σ H' hi ⟨⟨y6, y7, rfl⟩, s, hl', zs, sides, hp', pr', bt, ln, cm⟩
      have e0 : (0 : Int) + (i : Int) = (i : Int) := Int.zero_add _
      rw [e0]
      walk_at "gs"
      refine ⟨lp, _, rfl, SqL.of hl', ?_⟩
      refine lcG walk_enum (fun k => bitF i k) (fun _ k H y => ∃ x, (leftL n F T)[k]? = some x ∧ y = V.int (x : Nat)) (by rw [nv_len]; omega) (fun _ _ _ _ _ _ _ h => h) (fun H2 s2 => SqL.of (s2 _ _ hl')) ?_ ?_
      · rintro D k x H4 H5 N N' hk hD s4 mu ⟨t, u, z, rfl, ht, rfl, e1, e2⟩ q1 q2
        cases e1
        obtain ⟨x, hx, rfl⟩ := nv_get e2
        have s5 : Same H4 (upd H4 t (.tup [.int (k : Nat), .int (x : Nat)])) := sameNew ht
        have ht5 : SqT K (upd H4 t (.tup [.int (k : Nat), .int (x : Nat)])) t [.int (k : Nat), .int (x : Nat)] := SqT.of upd_same
        generalize upd H4 t (.tup [.int (k : Nat), .int (x : Nat)]) = H5 at *
        walk_at "gs"
        refine ⟨rfl, ?_⟩
        walk_at "gs"
        rw [PyProof.Rows.bitAnd_m1]
        have eb : (i : Int) / 2 ^ ((k : Nat) : Int).toNat % 2 = ((i / 2 ^ k % 2 : Nat) : Int) := by
          rw [Int.toNat_natCast]
          push_cast
          rfl
        rw [eb]
        have ed : decide (((i / 2 ^ k % 2 : Nat) : Int) = 1) = bitF i k := by
          unfold bitF
          rw [decide_eq_decide]
          omega
        rw [ed]
        cases hb : bitF i k with
        | true =>
          walk_at "gs"
          exact q1 hb _ H5 s5 ⟨x, hx, rfl⟩
        | false =>
          walk_at "gs"
          exact q2 hb H5 s5
      · intro D H4 ms hD s4 hms pr4
        rw [nv_len] at pr4
        have pr5 := paired_kept (p := fun x => bitF i ((leftL n F T).idxOf x)) (S := fun y (x : Nat) => y = V.int (x : Nat)) (fun k x hx => by
          obtain ⟨a1, a2⟩ := List.getElem?_eq_some_iff.mp hx
          rw [← a2, nL.idxOf_getElem k a1]) pr4
        have em : ms = nv (moreL n F T i) := pairNv pr5
        subst em
        have mM : ∀ x, x ∈ moreL n F T i → x ∈ leftL n F T := fun x hx => (List.mem_filter.mp hx).1
        have nM : (moreL n F T i).Nodup := nL.sublist List.filter_sublist
        have lM : (moreL n F T i).length ≤ 9 := by
          have := List.length_filter_le (fun x => bitF i ((leftL n F T).idxOf x)) (leftL n F T)
          unfold moreL
          omega
        have sa := s.trans s4
        have hp4 := s4 _ _ hp'
        have pr6 := side_same s4 pr'
        have lz := pairLen pr6
        walk_at "gs"
        refine ⟨.inl ⟨rfl, _, SqL.of hp4⟩, ?_⟩
        walk_at "gs"
        refine ⟨l, nv F, rfl, .inr (sa.seqT hF), fun fl nfl => ?_⟩
        have s5 : Same H4 (upd H4 fl (.lst (nv F))) := sameNew nfl
        have lF := rising_len rF
        walk_at "gs"
        refine ⟨fl, D, nv F, nv (moreL n F T i), rfl, rfl, upd_same, s5 _ _ hms, by rw [nv_len, nv_len, sizeLine_eq]; omega, fun cl ncl => ?_⟩
        have s6 := s5.trans (sameNew (o := .lst (nv F ++ nv (moreL n F T i))) ncl)
        walk_at "gs"
        refine ⟨cl, (F ++ moreL n F T i).map fun x : Nat => (x : Int), rfl, SqL.of (by rw [upd_same, ← nv_ints]; unfold nv; rw [List.map_append]), fun os sp pm so nsp => ?_⟩
        obtain ⟨sd, es, rs, ms⟩ := sortNat (n := n) (l := F ++ moreL n F T i) (List.nodup_append.mpr ⟨rF.1.imp fun h => Nat.ne_of_lt h, nM, fun x hx y hy z => ((mL y).mp (mM y hy)).2.1 (z ▸ hx)⟩) (fun x hx => (List.mem_append.mp hx).elim (rF.2 x) fun h => ((mL x).mp (mM x h)).1) pm so
        rw [es]
        have s7 := s6.trans (sameNew (o := .lst (nv sd)) nsp)
        walk_at "gs"
        refine ⟨sp, nv sd, rfl, .inl ⟨SqL.of upd_same, fun tp ntp => ?_⟩⟩
        have s8 := s7.trans (sameNew (o := .tup (nv sd)) ntp)
        have htp : (upd (upd (upd (upd H4 fl (.lst (nv F))) cl (.lst (nv F ++ nv (moreL n F T i)))) sp (.lst (nv sd))) tp (.tup (nv sd))) tp = some (.tup (nv sd)) := upd_same
        generalize upd (upd (upd (upd H4 fl (.lst (nv F))) cl (.lst (nv F ++ nv (moreL n F T i)))) sp (.lst (nv sd))) tp (.tup (nv sd)) = H8 at *
        walk_at "gs"
        have hp8 := s8 _ _ hp4
        refine ⟨p, zs, _, rfl, rfl, hp8, by rw [sizeLine_eq]; omega, ?_⟩
        walk_at "gs"
        have bu : But p H8 (upd H8 p (.lst (zs ++ [.ref tp]))) := butUpd
        have mp8 : Mut (H8 p) := by rw [hp8]; trivial
        have ntp2 : tp ≠ p := ne_of htp hp8 (by intro z; cases z)
        refine ⟨⟨_, _, rfl⟩, (sa.trans s8).updFresh fp, by rw [upd_ne npl]; exact (s4.trans s8) _ _ hl', zs ++ [.ref tp], sides ++ [sd], upd_same, pair_snoc (side_but bu mp8 (side_same s8 pr6)) ⟨tp, rfl, SqT.of (bu _ _ ntp2 htp)⟩, fun q hq => ?_, by rw [List.length_append, ln]; rfl, fun N hN => ?_⟩
        · rcases List.mem_append.mp hq with h | h
          · exact bt q h
          · rw [List.mem_singleton] at h
            rw [h]
            exact ⟨rs, fun x hx => (ms x).mpr (List.mem_append_left _ hx), fun x hx z => (List.mem_append.mp ((ms x).mp z)).elim (fun h => dj x h hx) fun h => ((mL x).mp (mM x h)).2.2 hx⟩
        · by_cases c : N = i
          · subst c
            exact ⟨sd, List.mem_append_right _ (by simp), fun x => by rw [ms, List.mem_append]⟩
          · obtain ⟨q, h1, h2⟩ := cm N (by omega)
            exact ⟨q, List.mem_append_left _ h1, h2⟩
    · rintro σ H' ⟨⟨y6, y7, rfl⟩, s, hl', zs, sides, hp', pr', bt, ln, cm⟩
      walk_at "gs"
      refine hQ p sides H' s fp ⟨zs, hp', pr', bt, by omega⟩ fun q hq => ?_
      obtain ⟨N, N1, N2⟩ := bits_ex (leftL n F T).length fun k => decide ((leftL n F T).getD k 0 ∈ q)
      obtain ⟨sd, h1, h2⟩ := cm N (by omega)
      have : q = sd := rising_ext hq.up (bt sd h1).up fun x hx => by
        rw [h2]
        constructor
        · intro hxq
          by_cases c1 : x ∈ F
          · exact .inl c1
          · have c2 : x ∉ T := fun z => hq.out x z hxq
            have hxl := (mL x).mpr ⟨hx, c1, c2⟩
            have hi := List.idxOf_lt_length_iff.mpr hxl
            refine .inr (List.mem_filter.mpr ⟨hxl, ?_⟩)
            rw [N2 _ hi, List.getD_eq_getElem?_getD, List.getElem?_eq_getElem hi, Option.getD_some, List.getElem_idxOf]
            exact decide_eq_true hxq
        · rintro (h | h)
          · exact hq.inn x h
          · obtain ⟨hxl, hb⟩ := List.mem_filter.mp h
            have hi := List.idxOf_lt_length_iff.mpr hxl
            rw [N2 _ hi, List.getD_eq_getElem?_getD, List.getElem?_eq_getElem hi, Option.getD_some, List.getElem_idxOf] at hb
            exact of_decide_eq_true hb
      rw [this]
      exact h1
structure LeastOk (n : Nat) (cp : Nat → Nat → Nat) (F T : List Nat) (least : Int) (sides : List (List Nat)) : Prop where
  low : ∀ s, Btw n F T s → least ≤ sideW n cp s
  att : ∃ s, Btw n F T s ∧ sideW n cp s = least
  mem : ∀ s, Btw n F T s → (s ∈ sides ↔ sideW n cp s = least)
def sp_law_least_sides (K : PySem.W.Frag) (a b c : V) (H : Hp) (Q : VK) : Prop := ∃ (n : Nat) (kp : Addr) (cp : Nat → Nat → Nat) (e : Addr) (v w : V) (F T : List Nat), a = .int n ∧ n ≤ 9 ∧ b = .ref kp ∧ CtI H kp cp ∧ c = .ref e ∧ SqT K H e [v, w] ∧ EndsT K H v w F T ∧ Cs.Ends n F T ∧
  ∀ p lp least sides H1, Same H H1 → H1 p = some (.tup [.int least, .ref lp]) → SidesI K H1 lp n F T sides → LeastOk n cp F T least sides → Q (.ref p) H1
theorem _root_.L2.Same.ct {H H' : Hp} {p : Addr} {c : Nat → Nat → Nat} (s : Same H H') (h : CtI H p c) : CtI H' p c := by
  obtain ⟨kc, h1, h2⟩ := h
  exact ⟨kc, s _ _ h1, h2⟩
theorem pairIntG {α : Type} {f : α → Int} : ∀ {ys : List V} {ks : List α}, Paired (fun y k => y = V.int (f k)) ys ks → ys = (ks.map f).map V.int
  | _, _, .nil => rfl
  | _, _, .cons h t => by rw [h, pairIntG t]; rfl
theorem pure_law_least_sides {K : PySem.W.Frag} : ∀ vs H Q, u3 (sp_law_least_sides K) vs H Q → t_law_least_sides K (u2 (sp_law_sides_between K)) (u3 (sp_law_side_parts K)) { nx := fun _ H' => Q .non H', rt := Q } (L2.start ["_law_many", "_law_counted", "_law_ends_here", "_law_sides", "_law_weights", "_law_least", "_law_side", "_law_weight_here"] vs) H := by
  rintro _ H Q ⟨_, _, _, rfl, n, kp, cp, e, v, w, F, T, rfl, hn, rfl, hk, rfl, he, hE, ok, hQ⟩
  unfold t_law_least_sides
  walk_at "st"
  walk_at "gs"
  refine ⟨n, e, v, w, F, T, rfl, hn, rfl, he, hE, ok, fun p ev H1 s1 np ⟨ys, hp, pr, bt, le⟩ cm => ?_⟩
  have ly := pairLen pr
  have ne : 0 < ev.length := List.length_pos_of_mem (cm F ⟨ok.1, fun _ h => h, fun x hx z => ok.2.2.2.2 x z hx⟩)
  walk_at "gs"
  refine ⟨p, rfl, ⟨_, SqL.of hp⟩, lcL (SqL.of hp) (fun _ => true) (fun _ i H y => ∃ s, ev[i]? = some s ∧ y = V.int (sideW n cp s)) (by omega) (fun _ _ _ _ _ _ _ h => h) ?_ ?_⟩
  · intro D i x H2 N N' hx hD s2 mu q1 q2
    obtain ⟨s, hs, q, rfl, hq⟩ := pairGet pr hx
    walk_at "gs"
    refine ⟨rfl, ?_⟩
    walk_at "gs"
    exact ⟨n, kp, cp, q, s, rfl, hn, rfl, (s1.trans s2).ct hk, rfl, s2.seqT hq, (bt s (List.mem_of_getElem? hs)).up, fun H3 s3 => q1 rfl _ H3 s3 ⟨s, hs, rfl⟩⟩
  · intro D H2 zs hD s2 hz pr2
    rw [ly] at pr2
    have pr3 := paired_kept (p := fun _ => true) (S := fun y (s : List Nat) => y = V.int (sideW n cp s)) (fun _ _ _ => rfl) pr2
    rw [filter_all] at pr3
    have ez := pairIntG pr3
    subst ez
    have hp2 := s2 _ _ hp
    have pr4 := side_same s2 pr
    walk_at "gs"
    refine ⟨D, ev.map (sideW n cp), rfl, SqL.of hz, by rw [List.length_map]; exact ne, fun mn hmn hle => ?_⟩
    obtain ⟨s0, hs0, rfl⟩ := List.mem_map.mp hmn
    walk_at "gs"
    refine ⟨p, D, ys, _, rfl, SqL.of hp2, SqL.of hz, ?_⟩
    refine lcG (walk_zip (n := ev.length) (xs := ys) (ys := (ev.map (sideW n cp)).map V.int) (by rw [List.length_map, List.length_map, ly, Nat.min_self])) (fOf ev fun s => decide (sideW n cp s = sideW n cp s0)) (fun _ i H y => ∃ s, ev[i]? = some s ∧ SideR K H y s) (by omega) ?_ (fun H3 s3 => ⟨SqL.of (s3 _ _ hp2), SqL.of (s3 _ _ hz)⟩) ?_ ?_
    · rintro D2 i H3 H4 y bu mu ⟨s, hs, q, rfl, hq⟩
      exact ⟨s, hs, q, rfl, bu.tupM mu hq⟩
    · rintro D2 i x H4 H5 N N' hi hD2 s4 mu ⟨t, u, z, rfl, ht, rfl, e1, e2⟩ q1 q2
      obtain ⟨s, hs, q, rfl, hq⟩ := pairGet pr4 e1
      dsimp only at e2
      rw [List.getElem?_map, List.getElem?_map, hs] at e2
      have e3 : V.int (sideW n cp s) = z := Option.some.inj e2
      subst e3
      rw [fOf_at hs] at q1 q2
      have s5 : Same H4 (upd H4 t (.tup [.ref q, .int (sideW n cp s)])) := sameNew ht
      have ht5 : SqT K (upd H4 t (.tup [.ref q, .int (sideW n cp s)])) t [.ref q, .int (sideW n cp s)] := SqT.of upd_same
      generalize upd H4 t (.tup [.ref q, .int (sideW n cp s)]) = H5 at *
      walk_at "gs"
      refine ⟨rfl, ?_⟩
      walk_at "gs"
      by_cases c : sideW n cp s = sideW n cp s0
      · rw [decide_eq_true c] at q1 q2 ⊢
        walk_at "gs"
        exact q1 rfl _ H5 s5 ⟨s, hs, q, rfl, (s4.trans s5).seqT hq⟩
      · rw [decide_eq_false c] at q1 q2 ⊢
        walk_at "gs"
        exact q2 rfl H5 s5
    · intro D2 H4 ws hD2 s4 hws pr5
      have pr6 := paired_kept (p := fun s => decide (sideW n cp s = sideW n cp s0)) (S := fun y (s : List Nat) => SideR K H4 y s) (fun i s hs => fOf_at hs) pr5
      walk_at "gs"
      intro r nr
      walk_at "gs"
      have s5 : Same H4 (upd H4 r (.tup [.int (sideW n cp s0), .ref D2])) := sameNew nr
      refine hQ r D2 _ (ev.filter fun s => decide (sideW n cp s = sideW n cp s0)) _ (((s1.trans s2).trans s4).trans s5) upd_same ⟨ws, s5 _ _ hws, side_same s5 pr6, fun s hs => bt s (List.mem_filter.mp hs).1, ?_⟩ ⟨fun s hs => hle _ (List.mem_map.mpr ⟨s, cm s hs, rfl⟩), ⟨s0, bt s0 hs0, rfl⟩, fun s hs => ?_⟩
      · have := List.length_filter_le (fun s => decide (sideW n cp s = sideW n cp s0)) ev
        omega
      · rw [List.mem_filter, decide_eq_true_iff]
        exact ⟨fun h => h.2, fun h => ⟨cm s hs, h⟩⟩
def sp_law_measure (K : PySem.W.Frag) (a : V) (H : Hp) (Q : VK) : Prop := ∃ fl, FlowT K H a fl ∧ Q (.int 55440) H
theorem pure_law_measure {K : PySem.W.Frag} : ∀ vs H Q, u1 (sp_law_measure K) vs H Q → t_law_measure K { nx := fun _ H' => Q .non H', rt := Q } (L2.start ["_law_flow", "_law_found", "_law_i", "_law_j", "_law_amount_here", "_law_one", "_law_other"] vs) H := by
  rintro _ H Q ⟨_, rfl, fl, ⟨t, rows, rfl, ht, hr⟩, hQ⟩
  unfold t_law_measure
  walk_at "st"
  walk_at "gs"
  refine ⟨t, rfl, ⟨_, ht⟩, for_tup (xs := rows) (fun i σ H' => H' = H ∧ ∃ y2 y3 y4 y5 y6 : Option V, σ = [some (.ref t), some (.int 55440), y2, y3, y4, y5, y6]) ⟨rfl, _, _, _, _, _, rfl⟩ (fun i σ H' _ p => by rw [p.1]; exact ht) ?_ ?_⟩
  · rintro i x σ H' hx ⟨rfl, y2, y3, y4, y5, y6, rfl⟩
    obtain ⟨e, he, a, w, rfl, ha, c, rfl, hc⟩ := pairGet hr hx
    walk_at "gs"
    refine ⟨fun m σ H2 => H2 = H' ∧ ∃ x' y' : Nat, m = y' ∧ σ = [some (.ref t), some (.int 55440), some (.int e.1), some (.int e.2.1), some (.ref c), some (.int x'), some (.int y')] ∧ Nat.gcd x' y' = lowB e.2.2, ⟨lowB e.2.2, rfl, 55440, lowB e.2.2, rfl, rfl, Nat.gcd_eq_right (lowB_dvd _)⟩, ?_⟩
    rintro m σ H2 ⟨rfl, x', y', rfl, rfl, eg⟩
    walk_at "gs"
    refine ite_ndec (fun h => ?_) fun h => ?_
    · refine ⟨fun σ' H3 => H3 = H2 ∧ ∃ x2 y2 : Nat, y2 < m ∧ σ' = [some (.ref t), some (.int 55440), some (.int e.1), some (.int e.2.1), some (.ref c), some (.int x2), some (.int y2)] ∧ Nat.gcd x2 y2 = lowB e.2.2, ?_, ?_⟩
      · rintro σ' H3 ⟨rfl, x2, y2, lt, rfl, eg2⟩
        exact ⟨y2, lt, rfl, x2, y2, rfl, rfl, eg2⟩
      · have m0 : 0 < m := by omega
        walk_at "gs"
        refine ⟨rfl, m, x' % m, Nat.mod_lt _ m0, ?_, ?_⟩
        · rw [Int.natCast_emod]
        · rw [← eg, Nat.gcd_comm x' m, Nat.gcd_rec m x', Nat.gcd_comm]
    · have m0 : m = 0 := by omega
      subst m0
      rw [Nat.gcd_zero_right] at eg
      subst eg
      walk_at "gs"
      · exact divW (lowB_pos e.2.2) (lowB_le e.2.2) (by decide)
      walk_at "gs"
      have e0 : (55440 : Int) / ((lowB e.2.2 : Nat) : Int) * ((lowB e.2.2 : Nat) : Int) = 55440 := by
        rw [show (55440 : Int) = ((55440 : Nat) : Int) from rfl, ← Int.natCast_ediv, ← Int.natCast_mul, Nat.div_mul_cancel (lowB_dvd _)]
      rw [e0]
      exact ⟨rfl, _, _, _, _, _, rfl⟩
  · rintro σ H' ⟨rfl, y2, y3, y4, y5, y6, rfl⟩
    walk_at "gs"
    exact hQ
theorem tyT {K : PySem.W.Frag} {H : Hp} {a : Addr} {xs : List V} (h : SqT K H a xs) : TyX K H (.ref a) (.type "tuple") := by
  rcases h with (h | ⟨o, h⟩) | h
  · exact .base (.tup h)
  · exact .fTuple h
  · obtain ⟨o, its, n, h, c, _⟩ := h
    exact .kTuple h c
theorem go_isi_tup {K : PySem.W.Frag} {H : Hp} {Q : VK} {a : Addr} {xs : List V} (hs : SqT K H a xs) (h : Q (.bl true) H) : rIsi K [.ref a, .ty "tuple"] H Q := ⟨_, _, _, _, _, rfl, .ty _, tyT hs, kit_ty (by decide +kernel), h⟩
/-- a row as data -/
def rowD (e : Tie) : PyData := .tuple [.int (e.1 : Nat), .int (e.2.1 : Nat), .tuple [.int (lowA e.2.2 : Nat), .int (lowB e.2.2 : Nat)]]
theorem rowsLay : ∀ fl : List Tie, PyData.canLayAll0 (fl.map rowD) = true
  | [] => by simp [PyData.canLayAll0]
  | e :: fl => by
    rw [List.map_cons, PyData.canLayAll0, rowsLay fl]
    simp [rowD, PyData.canLay0, PyData.canLayAll0]
theorem rowsDep : ∀ fl : List Tie, PyData.depthAll (fl.map rowD) ≤ 2
  | [] => by simp [PyData.depthAll]
  | e :: fl => by
    rw [List.map_cons, PyData.depthAll]
    have := rowsDep fl
    have h2 : PyData.depth (rowD e) ≤ 2 := by simp [rowD, PyData.depth, PyData.depthAll]
    omega
theorem rowsShape (fl : List Tie) : SeqAt.shaped (.list (fl.map rowD)) = true := by
  unfold SeqAt.shaped
  have := rowsDep fl
  rw [PyData.canLay0, rowsLay, PyData.depth, Bool.true_and]
  exact decide_eq_true (by omega)
theorem rowsEq : ∀ fl : List Tie, PyData.eqvAll (fl.map rowD) (fl.map rowD) = true
  | [] => by simp [PyData.eqvAll]
  | e :: fl => by
    rw [List.map_cons, PyData.eqvAll, rowsEq fl]
    simp [rowD, PyData.eqv, PyData.eqvAll]
theorem rowsDp {K : PySem.W.Frag} {H : Hp} : ∀ {rows : List V} {fl : List Tie}, Rows K H rows fl → DpAll K H rows (fl.map rowD)
  | _, _, .nil => .nil
  | _, _, .cons (b := e) h t => by
    obtain ⟨a, w, rfl, ha, c, rfl, hc⟩ := h
    exact .cons (.tup ha (.cons (.int _) (.cons (.int _) (.cons (.tup hc (.cons (.int _) (.cons (.int _) .nil))) .nil)))) (rowsDp t)
theorem rowsBs {K : PySem.W.Frag} {H : Hp} : ∀ {rows : List V} {fl : List Tie}, Rows K H rows fl → ∃ bs : List (Addr × Addr × (Int × Int) × (Int × Int)), rows = bs.map (fun b => V.ref b.1) ∧ bs.map (fun b => b.2.2.1) = fl.map keyI ∧ ∀ b ∈ bs, SqT K H b.1 [.int b.2.2.1.1, .int b.2.2.1.2, .ref b.2.1] ∧ SqT K H b.2.1 [.int b.2.2.2.1, .int b.2.2.2.2]
  | _, _, .nil => ⟨[], rfl, rfl, fun _ h => by cases h⟩
  | _, _, .cons (b := e) h t => by
    obtain ⟨bs, e1, e2, e3⟩ := rowsBs t
    obtain ⟨a, w, rfl, ha, c, rfl, hc⟩ := h
    refine ⟨(a, c, keyI e, ((lowA e.2.2 : Nat), (lowB e.2.2 : Nat))) :: bs, by rw [e1]; rfl, by rw [List.map_cons, List.map_cons, e2], fun b hb => ?_⟩
    rcases List.mem_cons.mp hb with q | q
    · rw [q]
      exact ⟨ha, hc⟩
    · exact e3 b q
def sp_law_are_rows (K : PySem.W.Frag) (a : V) (H : Hp) (Q : VK) : Prop := ∃ fl, FlowT K H a fl ∧ Sorted fl ∧ (∀ e ∈ fl, 0 < e.2.2) ∧ fl.length ≤ 1000 ∧ ∀ H1, Same H H1 → Q (.bl true) H1
theorem pure_law_are_rows {K : PySem.W.Frag} : ∀ vs H Q, u1 (sp_law_are_rows K) vs H Q → t_law_are_rows K { nx := fun _ H' => Q .non H', rt := Q } (L2.start ["_law_flow", "_law_row", "_law_one", "_law_other"] vs) H := by
  rintro _ H Q ⟨_, rfl, fl, ⟨t, rows, rfl, ht, hr⟩, up, ps, lf, hQ⟩
  have lr := pairLen hr
  unfold t_law_are_rows
  walk_at "st"
  walk_at "gs"
  refine go_isi_tup ht ?_
  walk_at "gs"
  refine ⟨t, rfl, ⟨_, ht⟩, for_tup (xs := rows) (fun i σ H' => H' = H ∧ ∃ y1 y2 y3 : Option V, σ = [some (.ref t), y1, y2, y3]) ⟨rfl, _, _, _, rfl⟩ (fun i σ H' _ p => by rw [p.1]; exact ht) ?_ ?_⟩
  · rintro i x σ H' hx ⟨rfl, y1, y2, y3, rfl⟩
    obtain ⟨e, he, a, w, rfl, ha, c, rfl, hc⟩ := pairGet hr hx
    have pe := ps e (List.mem_of_getElem? he)
    walk_at "gs"
    refine go_isi_tup ha ?_
    walk_at "gs"
    refine ite_ndec (fun h => absurd rfl h) fun _ => ?_
    walk_at "gs"
    refine go_isi_tup hc ?_
    walk_at "gs"
    refine ite_ndec (fun h => absurd rfl h) fun _ => ?_
    walk_at "gs"
    have a0 : 0 < lowA e.2.2 := Nat.pos_of_ne_zero fun z => by
      have := lowA_zero.mp z
      omega
    have b0 := lowB_pos e.2.2
    refine ite_dec (fun h => absurd h (by omega)) fun _ => ?_
    walk_at "gs"
    refine ite_dec (fun h => absurd h (by omega)) fun _ => ?_
    walk_at "gs"
    refine ⟨fun m σ H2 => H2 = H' ∧ ∃ x' y' : Nat, m = y' ∧ σ = [some (.ref t), some (.ref a), some (.int x'), some (.int y')] ∧ Nat.gcd x' y' = 1, ⟨_, rfl, lowA e.2.2, lowB e.2.2, rfl, rfl, low_cop _⟩, ?_⟩
    rintro m σ H2 ⟨rfl, x', y', rfl, rfl, eg⟩
    walk_at "gs"
    refine ite_ndec (fun h => ?_) fun h => ?_
    · refine ⟨fun σ' H3 => H3 = H2 ∧ ∃ x2 y2 : Nat, y2 < m ∧ σ' = [some (.ref t), some (.ref a), some (.int x2), some (.int y2)] ∧ Nat.gcd x2 y2 = 1, ?_, ?_⟩
      · rintro σ' H3 ⟨rfl, x2, y2, lt, rfl, eg2⟩
        exact ⟨y2, lt, rfl, x2, y2, rfl, rfl, eg2⟩
      · have m0 : 0 < m := by omega
        walk_at "gs"
        refine ⟨rfl, m, x' % m, Nat.mod_lt _ m0, ?_, ?_⟩
        · rw [Int.natCast_emod]
        · rw [← eg, Nat.gcd_comm x' m, Nat.gcd_rec m x', Nat.gcd_comm]
    · have m0 : m = 0 := by omega
      subst m0
      rw [Nat.gcd_zero_right] at eg
      subst eg
      walk_at "gs"
      refine ite_ndec (fun h => absurd rfl h) fun _ => ?_
      walk_at "gs"
      exact ⟨rfl, _, _, _, rfl⟩
  · rintro σ H' ⟨rfl, y1, y2, y3, rfl⟩
    walk_at "gs"
    refine ⟨t, rows, rfl, .inr ht, fun l nl => ?_⟩
    have s1 : Same H' (upd H' l (.lst rows)) := sameNew nl
    walk_at "gs"
    obtain ⟨bs, e1, e2, e3⟩ := rowsBs (s1.rows hr)
    have ht1 := s1.seqT ht
    have lb : bs.length = fl.length := by
      have := congrArg List.length e2
      rw [List.length_map, List.length_map] at this
      exact this
    refine ⟨t, bs, rfl, by rw [← e1]; exact ht1, e3, ?_, by omega, fun l2 nl2 => ?_⟩
    · have h1 : (bs.map (fun b => b.2.2.1)).Pairwise fun x y => SrtO.lexB x y = true := by
        rw [e2]
        refine List.pairwise_map.mpr (up.imp ?_)
        intro x y h
        unfold SrtO.lexB keyI
        dsimp only
        split
        · exact decide_eq_true (by omega)
        · exact decide_eq_true (by omega)
      exact List.pairwise_map.mp h1
    · rw [← e1]
      have s2 := s1.trans (sameNew (o := .lst rows) nl2)
      refine ⟨.list (fl.map rowD), .list (fl.map rowD), .lst (SqL.of (sameNew nl2 _ _ upd_same)) (rowsDp (s2.rows hr)), .lst (SqL.of upd_same) (rowsDp (s2.rows hr)), rowsShape _, rowsShape _, ?_⟩
      rw [PyData.eqv, rowsEq]
      exact hQ _ s2
theorem lk_app (e : Tie) (i j : Nat) : ∀ l : List Tie, lk (l ++ [e]) i j = lk l i j + if i = e.1 ∧ j = e.2.1 then ((e.2.2 : Nat) : Int) else 0
  | [] => by
    show (if i = e.1 ∧ j = e.2.1 then ((e.2.2 : Nat) : Int) else 0) + 0 = 0 + _
    omega
  | x :: l => by
    show (if i = x.1 ∧ j = x.2.1 then ((x.2.2 : Nat) : Int) else 0) + lk (l ++ [e]) i j = (if i = x.1 ∧ j = x.2.1 then ((x.2.2 : Nat) : Int) else 0) + lk l i j + _
    rw [lk_app e i j l]; omega
/-- what is too much, counted from rows -/
def surF (n : Nat) (l : List Tie) (v : Nat) : Int := (sm n fun j => lk l j v) + - sm n fun j => lk l v j
theorem surF_app {n : Nat} {l : List Tie} {e : Tie} (h1 : e.1 < n) (h2 : e.2.1 < n) (v : Nat) : surF n (l ++ [e]) v = surF n l v + (if v = e.2.1 then ((e.2.2 : Nat) : Int) else 0) - (if v = e.1 then ((e.2.2 : Nat) : Int) else 0) := by
  unfold surF
  have a : (sm n fun j => lk (l ++ [e]) j v) = (sm n fun j => lk l j v) + sm n fun j => if j = e.1 then (if v = e.2.1 then ((e.2.2 : Nat) : Int) else 0) else 0 := by
    rw [← sm_add]
    refine sm_congr fun j _ => ?_
    rw [lk_app]
    by_cases q : j = e.1 <;> by_cases q2 : v = e.2.1 <;> simp [q, q2]
  have b : (sm n fun j => lk (l ++ [e]) v j) = (sm n fun j => lk l v j) + sm n fun j => if j = e.2.1 then (if v = e.1 then ((e.2.2 : Nat) : Int) else 0) else 0 := by
    rw [← sm_add]
    refine sm_congr fun j _ => ?_
    rw [lk_app]
    by_cases q : j = e.2.1 <;> by_cases q2 : v = e.1 <;> simp [q, q2]
  rw [a, b, sm_one, sm_one, if_pos h1, if_pos h2]
  omega
theorem surF_flow {n : Nat} {g : Nat → Nat → Int} {fl : List Tie} (h : FlowOf n g fl) (anti : ∀ i j, g j i = - g i j) (v : Nat) : surF n fl v = - outN n g v := by
  unfold surF outN
  rw [← sm_neg, ← sm_neg, ← sm_add]
  refine sm_congr fun j _ => ?_
  rw [h.lk, h.lk, anti v j]
  omega
theorem surF_nil (n v : Nat) : surF n [] v = 0 := by
  unfold surF
  show (sm n fun _ => 0) + - (sm n fun _ => 0) = 0
  rw [sm_zero]
  rfl
/-- two places of a row, the lower one first -/
def pairN (e : Tie) : List Int := [((min e.1 e.2.1 : Nat) : Int), ((max e.1 e.2.1 : Nat) : Int)]
theorem pairs_nd {n : Nat} {es : List Tie} {F T : List Nat} {fl : List Tie} (h : FlowOk n es F T fl) : (fl.map pairN).Nodup := by
  refine List.pairwise_map.mpr ?_
  have up := List.pairwise_iff_getElem.mp h.up
  refine List.pairwise_iff_getElem.mpr fun i j hi hj hij z => ?_
  have u := up i j hi hj hij
  have nb := h.nb fl[i] (List.getElem_mem hi) fl[j] (List.getElem_mem hj)
  unfold pairN at z
  simp only [List.cons.injEq, and_true] at z
  have r1 := (h.rows fl[i] (List.getElem_mem hi)).2.2.1
  omega
theorem pairs_len {n : Nat} {es : List Tie} {F T : List Nat} {fl : List Tie} (h : FlowOk n es F T fl) (hn : n ≤ 9) : fl.length < 64 := by
  have nd := pairs_nd h
  have := nodup_le (m := ((grid 9).filter fun k => decide (k.1 < k.2)).map fun k => [((k.1 : Nat) : Int), ((k.2 : Nat) : Int)]) nd fun x hx => by
    obtain ⟨e, he, rfl⟩ := List.mem_map.mp hx
    obtain ⟨r1, r2, r3, _⟩ := h.rows e he
    refine List.mem_map.mpr ⟨(min e.1 e.2.1, max e.1 e.2.1), List.mem_filter.mpr ⟨grid_mem.mpr ⟨by omega, by omega⟩, decide_eq_true (by show min e.1 e.2.1 < max e.1 e.2.1; omega)⟩, rfl⟩
  rw [List.length_map, List.length_map] at this
  have e : ((grid 9).filter fun k => decide (k.1 < k.2)).length = 36 := by decide +kernel
  omega
theorem go_lsp {K : PySem.W.Frag} {ta : TE} {σ : L2.St} {H : Hp} {Q : VK} (h : ta σ H fun x H1 => ∃ (l : Addr) (ks : List (Addr × List Int)), x = .ref l ∧ SqL K H1 l (ks.map fun p => V.ref p.1) ∧ (∀ p ∈ ks, SqT K H1 p.1 (p.2.map V.int)) ∧ ks.length < 64 ∧ (ks.map (·.2)).Nodup ∧ Q (.int ks.length) H1) : tLenSetP K ta σ H Q := h
theorem pairKs {K : PySem.W.Frag} {H : Hp} : ∀ {ys : List V} {fl : List Tie}, Paired (fun y (e : Tie) => ∃ q, y = V.ref q ∧ SqT K H q ((pairN e).map V.int)) ys fl → ∃ ks : List (Addr × List Int), ys = ks.map (fun p => V.ref p.1) ∧ ks.map (·.2) = fl.map pairN ∧ ∀ p ∈ ks, SqT K H p.1 (p.2.map V.int)
  | _, _, .nil => ⟨[], rfl, rfl, fun _ h => by cases h⟩
  | _, _, .cons (b := e) h t => by
    obtain ⟨ks, e1, e2, e3⟩ := pairKs t
    obtain ⟨q, rfl, hq⟩ := h
    refine ⟨(q, pairN e) :: ks, by rw [e1]; rfl, by rw [List.map_cons, List.map_cons, e2], fun p hp => ?_⟩
    rcases List.mem_cons.mp hp with z | z
    · rw [z]; exact hq
    · exact e3 p z
def sp_law_worth (K : PySem.W.Frag) (a b c d : V) (H : Hp) (Q : VK) : Prop := ∃ (n : Nat) (kp : Addr) (es : List Tie) (e : Addr) (v w : V) (F T : List Nat) (fl : List Tie) (g : Nat → Nat → Int), a = .int n ∧ n ≤ 9 ∧ b = .ref kp ∧ CtI H kp (tieW es) ∧ c = .ref e ∧ SqT K H e [v, w] ∧ EndsT K H v w F T ∧ Cs.Ends n F T ∧
  FlowT K H d fl ∧ FlowOf n g fl ∧ MaxG n (tieW es) F T g ∧ ∀ H1, Same H H1 → Q (.int (wor n g F)) H1
theorem pure_law_worth {K : PySem.W.Frag} : ∀ vs H Q, u4 (sp_law_worth K) vs H Q → t_law_worth K (u1 (sp_law_are_rows K)) (u1 (sp_law_measure K)) { nx := fun _ H' => Q .non H', rt := Q } (L2.start ["_law_many", "_law_counted", "_law_ends_here", "_law_flow", "_law_measure_here", "_law_surplus", "_law_i", "_law_j", "_law_amount_here", "_law_number", "_law_pairs_here", "_law_inner", "_law_worth_here", "_law_row", "_law_place"] vs) H := by
  rintro _ H Q ⟨_, _, _, d, rfl, n, kp, es, e, v, w, F, T, fl, g, rfl, hn, rfl, hct, rfl, he, hE, ok, hf, fo, M, hQ⟩
  have FO := flow_ok fo M
  obtain ⟨rF, rT, nF, nT, dj⟩ := id ok
  unfold t_law_worth
  walk_at "st"
  walk_at "gs"
  refine ⟨fl, hf, fo.up, fun e he => (FO.rows e he).2.2.2, FO.len, fun H1 s1 => ?_⟩
  walk_at "gs"
  refine ⟨fl, s1.flowT hf, ?_⟩
  walk_at "gs"
  intro z nz
  walk_at "gs"
  have s2 : Same H1 (upd H1 z (.lst [.int 0])) := sameNew nz
  refine ⟨z, n, [.int 0], rfl, rfl, upd_same, by omega, by omega, by rw [sizeLine_eq]; simp; omega, fun sp nsp => ?_⟩
  rw [Int.toNat_natCast, rep_row]
  have sH := (s1.trans s2).trans (sameNew (o := .lst (rowI n (fun _ => 0))) nsp)
  have fsp := (s1.trans s2).free nsp
  have hsp : (upd (upd H1 z (.lst [.int 0])) sp (.lst (rowI n (fun _ => 0)))) sp = some (.lst (rowI n (fun _ => 0))) := upd_same
  generalize upd (upd H1 z (.lst [.int 0])) sp (.lst (rowI n (fun _ => 0))) = H2 at *
  obtain ⟨l, m, rfl, rfl, hF, hT⟩ := hE
  obtain ⟨t, rows, rfl, ht, hr⟩ := id hf
  obtain ⟨kc, hk, vc⟩ := hct
  have lr := pairLen hr
  walk_at "gs"
  refine ⟨t, rfl, ⟨_, sH.seqT ht⟩, for_tup (xs := rows) (fun i σ H' => (∃ y6 y7 y8 y9 : Option V, σ = [some (.int n), some (.ref kp), some (.ref e), some (.ref t), some (.int 55440), some (.ref sp), y6, y7, y8, y9, none, none, none, none, none]) ∧ Same H H' ∧ H' sp = some (.lst (rowI n (surF n (fl.take i))))) ⟨⟨_, _, _, _, rfl⟩, sH, ?_⟩ (fun i σ H' _ p => p.2.1.seqT ht) ?_ ?_⟩
  · rw [hsp]
    exact congrArg (fun l => some (HO.lst l)) (rowI_congr fun v _ => by rw [List.take_zero, surF_nil])
  · rintro i x σ H' hx ⟨⟨y6, y7, y8, y9, rfl⟩, s, hs⟩
    obtain ⟨r, hri, ra, rv, rfl, hra, rc, rfl, hrc⟩ := pairGet hr hx
    obtain ⟨r1, r2, r3, r4⟩ := FO.rows r (List.mem_of_getElem? hri)
    have fit := FO.fit r (List.mem_of_getElem? hri)
    have hra1 := s.seqT hra
    have hrc1 := s.seqT hrc
    walk_at "gs"
    · exact divW (lowB_pos r.2.2) (lowB_le r.2.2) (by decide)
    have e0 : (55440 : Int) / ((lowB r.2.2 : Nat) : Int) = ((55440 / lowB r.2.2 : Nat) : Int) := by
      rw [show (55440 : Int) = ((55440 : Nat) : Int) from rfl, ← Int.natCast_ediv]
    rw [e0]
    have l0 : 55440 / lowB r.2.2 ≤ 55440 := Nat.div_le_self _ _
    have lp := low_parts r.2.2
    generalize 55440 / lowB r.2.2 = z0 at *
    refine go_I (Or.inr ⟨by omega, by omega⟩) ?_
    have e2 : ((lowA r.2.2 : Nat) : Int) * (z0 : Int) = ((r.2.2 : Nat) : Int) := by
      rw [← Int.natCast_mul, lp]
    rw [e2]
    walk_at "gs"
    refine ⟨kp, rfl, .inr ⟨kc, Rd.of (s _ _ hk)⟩, ?_⟩
    walk_at "gs"
    intro q nq
    have s3 : Same H' (upd H' q (.tup [.int r.1, .int r.2.1])) := sameNew nq
    walk_at "gs"
    refine ⟨_, DGet.pk (i := r.1) (j := r.2.1) (Rd.of (s3 _ _ (s _ _ hk))) upd_same, ?_⟩
    rw [vc]
    have hs3 := s3 _ _ hs
    have sa := s.trans s3
    generalize upd H' q (.tup [.int r.1, .int r.2.1]) = H3 at *
    walk_at "gs"
    · exact ⟨by omega, by decide⟩
    walk_at "gs"
    refine ite_dec (fun h => absurd h (by omega)) fun _ => ?_
    walk_at "gs"
    refine go_ixL (SqL.of hs3) (atI_nat (rowI_get r1)) ?_
    walk_at "gs"
    refine go_setL hs3 (ixN_nat (by rw [rowI_len]; exact r1)) ?_
    rw [rowI_set]
    have hs4 : (upd H3 sp (.lst (rowI n (fun v => if v = r.1 then surF n (fl.take i) r.1 - ((r.2.2 : Nat) : Int) else surF n (fl.take i) v)))) sp = some (.lst (rowI n (fun v => if v = r.1 then surF n (fl.take i) r.1 - ((r.2.2 : Nat) : Int) else surF n (fl.take i) v))) := upd_same
    have sb : Same H (upd H3 sp (.lst (rowI n (fun v => if v = r.1 then surF n (fl.take i) r.1 - ((r.2.2 : Nat) : Int) else surF n (fl.take i) v)))) := sa.updFresh fsp
    generalize upd H3 sp (.lst (rowI n (fun v => if v = r.1 then surF n (fl.take i) r.1 - ((r.2.2 : Nat) : Int) else surF n (fl.take i) v))) = H4 at *
    walk_at "gs"
    refine go_ixL (SqL.of hs4) (atI_nat (rowI_get r2)) ?_
    walk_at "gs"
    refine go_setL hs4 (ixN_nat (by rw [rowI_len]; exact r2)) ?_
    rw [rowI_set]
    refine ⟨⟨_, _, _, _, rfl⟩, sb.updFresh fsp, ?_⟩
    rw [upd_same]
    have tk : fl.take (i + 1) = fl.take i ++ [r] := by rw [List.take_add_one, hri]; rfl
    rw [tk]
    refine congrArg (fun l => some (HO.lst l)) (rowI_congr fun v _ => ?_)
    rw [surF_app r1 r2]
    rw [if_neg (c := r.2.1 = r.1) (fun z => r3 z.symm)]
    by_cases q1 : v = r.2.1
    · subst q1
      rw [if_pos rfl, if_pos rfl, if_neg (fun z => r3 z.symm)]; omega
    · rw [if_neg q1, if_neg q1]
      by_cases q2 : v = r.1
      · subst q2
        rw [if_pos rfl, if_pos rfl]; omega
      · rw [if_neg q2, if_neg q2]; omega
  · rintro σ H' ⟨⟨y6, y7, y8, y9, rfl⟩, s, hs⟩
    rw [lr, List.take_length] at hs
    have hs0 : H' sp = some (.lst (rowI n (fun v => - outN n g v))) := by
      rw [hs]
      exact congrArg (fun l => some (HO.lst l)) (rowI_congr fun v _ => surF_flow fo M.ok.anti v)
    have ht1 := s.seqT ht
    walk_at "gs"
    refine ⟨t, rfl, ⟨_, ht1⟩, lcT ht1 (fun _ => true) (fun _ i H y => ∃ r, fl[i]? = some r ∧ ∃ q, y = V.ref q ∧ SqT K H q ((pairN r).map V.int)) (by have := FO.len; omega) ?_ ?_ ?_⟩
    · rintro D i H2 H3 v bu mu ⟨r, hr, q, rfl, hq⟩
      exact ⟨r, hr, q, rfl, bu.tupM mu hq⟩
    · intro D i x H3 N N' hx hD s3 mu q1 q2
      obtain ⟨r, hri, ra, rv, rfl, hra, rc, rfl, hrc⟩ := pairGet hr hx
      have hra1 := (s.trans s3).seqT hra
      walk_at "gs"
      refine ⟨rfl, ?_⟩
      walk_at "gs"
      have m1 : min ((r.1 : Nat) : Int) (r.2.1 : Nat) = ((min r.1 r.2.1 : Nat) : Int) := by omega
      have m2 : max ((r.1 : Nat) : Int) (r.2.1 : Nat) = ((max r.1 r.2.1 : Nat) : Int) := by omega
      rw [m1, m2]
      intro q nq
      exact q1 rfl _ _ (sameNew nq) ⟨r, hri, q, rfl, SqT.of upd_same⟩
    · intro D H3 ys hD s3 hy pr
      rw [lr] at pr
      have pr2 := paired_kept (p := fun _ => true) (S := fun y (r : Tie) => ∃ q, y = V.ref q ∧ SqT K H3 q ((pairN r).map V.int)) (fun _ _ _ => rfl) pr
      rw [filter_all] at pr2
      obtain ⟨ks, rfl, k2, k3⟩ := pairKs pr2
      have sb := s.trans s3
      have he3 := sb.seqT he
      have hF3 := sb.seqT hF
      have hT3 := sb.seqT hT
      walk_at "gs"
      refine ⟨n, rfl, by omega, by omega, ?_⟩
      rw [Int.toNat_natCast]
      refine lcR (fun x => !decide (x ∈ F) && !decide (x ∈ T)) (fun _ i H y => y = V.int ((i : Nat) : Int)) (by omega) (fun _ _ _ _ _ _ _ h => h) ?_ ?_
      · intro D2 j H4 N N' hj hD2 s4 mu q1 q2
        have e0 : (0 : Int) + (j : Int) = (j : Int) := Int.zero_add _
        rw [e0]
        have he4 := s4.seqT he3
        walk_at "gs"
        refine ⟨rfl, ?_⟩
        walk_at "gs"
        refine go_notin (.inr (s4.seqT hF3)) ?_
        walk_at "gs"
        by_cases c1 : j ∈ F
        · rw [decide_eq_true c1] at q1 q2 ⊢
          walk_at "gs"
          exact q2 rfl H4 (Same.refl _)
        · rw [decide_eq_false c1] at q1 q2 ⊢
          walk_at "gs"
          refine go_notin (.inr (s4.seqT hT3)) ?_
          walk_at "gs"
          by_cases c2 : j ∈ T
          · rw [decide_eq_true c2] at q1 q2 ⊢
            walk_at "gs"
            exact q2 rfl H4 (Same.refl _)
          · rw [decide_eq_false c2] at q1 q2 ⊢
            walk_at "gs"
            exact q1 rfl _ H4 (Same.refl _) rfl
      · intro lp H4 zs hD2 s4 hz pr4
        have ez : zs = nv (leftL n F T) := pairNv pr4
        subst ez
        have sc := sb.trans s4
        have lk : ks.length = fl.length := by
          have := congrArg List.length k2
          rw [List.length_map, List.length_map] at this
          exact this
        have hy4 := s4 _ _ hy
        have hs4 := (s3.trans s4) _ _ hs0
        walk_at "gs"
        refine go_lsp ?_
        walk_at "gs"
        refine ⟨D, ks, rfl, SqL.of hy4, fun p hp => s4.seqT (k3 p hp), by rw [lk]; exact pairs_len FO hn, by rw [k2]; exact pairs_nd FO, ?_⟩
        walk_at "gs"
        rw [List.length_map]
        refine ite_dec (fun h => absurd h (by omega)) fun _ => ?_
        walk_at "gs"
        have lL : (leftL n F T).length ≤ n := by
          have := List.length_filter_le (fun x => !decide (x ∈ F) && !decide (x ∈ T)) (List.range n)
          rw [List.length_range] at this
          exact this
        refine ⟨lp, rfl, ⟨_, SqL.of hz⟩, lcL (SqL.of hz) (fun _ => false) (fun _ _ _ _ => True) (by rw [nv_len]; omega) (fun _ _ _ _ _ _ _ h => h) ?_ ?_⟩
        · intro D3 i x H5 N N' hx hD3 s5 mu q1 q2
          obtain ⟨y, hy, rfl⟩ := nv_get hx
          have hm := List.mem_of_getElem? hy
          unfold leftL at hm
          rw [List.mem_filter, List.mem_range, Bool.and_eq_true] at hm
          obtain ⟨yn, yF, yT⟩ := hm
          walk_at "gs"
          refine ⟨rfl, ?_⟩
          walk_at "gs"
          refine go_ixL (SqL.of (s5 _ _ hs4)) (atI_nat (rowI_get yn)) ?_
          rw [M.ok.cons y yn (by simpa using yF) (by simpa using yT)]
          walk_at "gs"
          refine ite_ndec (fun h => absurd rfl h) fun _ => ?_
          exact q2 rfl H5 (Same.refl _)
        · intro D3 H5 us hD3 s5 hu pr5
          have eu : us = [] := by
            have := pairLen pr5
            have k : kept (nv (leftL n F T)).length (fun _ => false) = [] := by
              unfold kept
              exact List.filter_eq_nil_iff.mpr fun _ _ => by decide
            rw [k] at this
            exact List.length_eq_zero_iff.mp this
          subst eu
          walk_at "gs"
          intro q nq
          have s6 : Same H5 (upd H5 q (.lst [])) := sameNew nq
          refine go_neL (ns := []) (ms := []) (SqL.of (s6 _ _ hu)) (SqL.of upd_same) ?_
          rw [decide_eq_true rfl]
          have sd := (sc.trans s5).trans s6
          have hs6 := s6 _ _ (s5 _ _ hs4)
          have he6 := sd.seqT he
          generalize upd H5 q (.lst []) = H6 at *
          walk_at "gs"
          have hF6 := sd.seqT hF
          have lF := rising_len rF
          refine ⟨l, rfl, ⟨_, hF6⟩, lcT hF6 (fun _ => true) (fun _ i H y => ∃ x, F[i]? = some x ∧ y = V.int (- outN n g x)) (by rw [nv_len]; omega) (fun _ _ _ _ _ _ _ h => h) ?_ ?_⟩
          · intro D4 i x H7 N N' hx hD4 s7 mu q1 q2
            obtain ⟨y, hy, rfl⟩ := nv_get hx
            have yn := rF.2 y (List.mem_of_getElem? hy)
            walk_at "gs"
            refine ⟨rfl, ?_⟩
            walk_at "gs"
            refine go_ixL (SqL.of (s7 _ _ hs6)) (atI_nat (rowI_get yn)) ?_
            exact q1 rfl _ H7 (Same.refl _) ⟨y, hy, rfl⟩
          · intro D4 H7 ws hD4 s7 hw pr6
            rw [nv_len] at pr6
            have pr7 := paired_kept (p := fun _ => true) (S := fun y (x : Nat) => y = V.int (- outN n g x)) (fun _ _ _ => rfl) pr6
            rw [filter_all] at pr7
            have ew := pairIntG pr7
            subst ew
            walk_at "gs"
            refine ⟨D4, _, rfl, SqL.of hw, ?_⟩
            rw [sum_side _ (rF.1.imp fun h => Nat.ne_of_lt h) rF.2]
            have ewo : (sm n fun i => if i ∈ F then - outN n g i else 0) = - wor n g F := by
              unfold wor
              rw [← sm_neg]
              exact sm_congr fun i _ => by split <;> omega
            rw [ewo]
            have eneg : (0 : Int) - - wor n g F = wor n g F := by omega
            walk_at "gs"
            rw [eneg]
            walk_at "gs"
            refine ite_dec (fun h => absurd h (by omega)) fun _ => ?_
            walk_at "gs"
            · exact ⟨by omega, by decide⟩
            walk_at "gs"
            have ediv : wor n g F * 55440 / 55440 = wor n g F := by omega
            rw [ediv]
            exact hQ H7 (sd.trans s7)
def tupD (s : List Nat) : PyData := .tuple ((s.map fun x : Nat => (x : Int)).map PyData.int)
theorem castInj : ∀ {s t : List Nat}, s.map (fun x : Nat => (x : Int)) = t.map (fun x : Nat => (x : Int)) → s = t
  | [], [], _ => rfl
  | [], _ :: _, h => by cases h
  | _ :: _, [], h => by cases h
  | a :: s, b :: t, h => by
    rw [List.map_cons, List.map_cons] at h
    injection h with h1 h2
    rw [castInj h2, Int.ofNat.inj h1]
theorem tupEq (s t : List Nat) : PyData.eqv (tupD s) (tupD t) = decide (s = t) := by
  unfold tupD
  rw [PyData.eqv, eqvInts, decide_eq_decide]
  exact ⟨castInj, fun h => by rw [h]⟩
theorem sidesAny (s : List Nat) : ∀ sides : List (List Nat), ((sides.map tupD).any fun z => PyData.eqv z (tupD s)) = decide (s ∈ sides)
  | [] => by simp
  | t :: sides => by
    rw [List.map_cons, List.any_cons, tupEq, sidesAny s sides]
    by_cases q : t = s
    · subst q; simp
    · have q2 : ¬ s = t := fun z => q z.symm
      simp [q, q2]
theorem sidesLay : ∀ fl : List (List Nat), PyData.canLayAll0 (fl.map tupD) = true
  | [] => by simp [PyData.canLayAll0]
  | e :: fl => by
    rw [List.map_cons, PyData.canLayAll0, sidesLay fl]
    unfold tupD
    rw [PyData.canLay0, canInts]
    rfl
theorem sidesDep : ∀ fl : List (List Nat), PyData.depthAll (fl.map tupD) ≤ 1
  | [] => by simp [PyData.depthAll]
  | e :: fl => by
    rw [List.map_cons, PyData.depthAll]
    have := sidesDep fl
    have h2 : PyData.depth (tupD e) ≤ 1 := by
      unfold tupD
      rw [PyData.depth, depInts]
      omega
    omega
theorem sidesShape (fl : List (List Nat)) : SeqAt.shaped (.list (fl.map tupD)) = true := by
  unfold SeqAt.shaped
  have := sidesDep fl
  rw [PyData.canLay0, sidesLay, PyData.depth, Bool.true_and]
  exact decide_eq_true (by omega)
theorem sideDp {K : PySem.W.Frag} {H : Hp} {q : Addr} {s : List Nat} (h : SqT K H q (nv s)) : Dp K H (.ref q) (tupD s) := by
  rw [nv_ints] at h
  exact .tup h (dpInts _)
theorem sidesDp {K : PySem.W.Frag} {H : Hp} : ∀ {ys : List V} {ss : List (List Nat)}, Paired (SideR K H) ys ss → DpAll K H ys (ss.map tupD)
  | _, _, .nil => .nil
  | _, _, .cons h t => by
    obtain ⟨q, rfl, hq⟩ := h
    exact .cons (sideDp hq) (sidesDp t)
def sp_law_is_let_by (K : PySem.W.Frag) (a b c d : V) (H : Hp) (Q : VK) : Prop := ∃ (w : Addr) (n : Nat) (es : List Tie) (e : Addr) (v1 v2 : V) (F T : List Nat) (fl : List Tie) (least : Int) (tp sp lp : Addr) (ys : List V) (sm : List (List Nat)) (sides : List (List Nat)), a = .ref w ∧ WebI K H w n es ∧ EsOk n es ∧ b = .ref e ∧ SqT K H e [v1, v2] ∧ EndsT K H v1 v2 F T ∧ Cs.Ends n F T ∧
  FlowT K H c fl ∧ FlowOk n es F T fl ∧ ((outOf fl F - inTo fl F : Nat) : Int) = least ∧ d = .ref tp ∧ SqT K H tp [.ref sp, .ref lp] ∧ H sp = some (.lst ys) ∧ Paired (SideR K H) ys sm ∧ (∀ s ∈ sm, Btw n F T s) ∧ SidesI K H lp n F T sides ∧ (∀ s, Btw n F T s → (s ∈ sides ↔ sideW n (tieW es) s = least)) ∧ ∀ H1, Same H H1 → Q (.bl true) H1
theorem pure_law_is_let_by {K : PySem.W.Frag} : ∀ vs H Q, u4 (sp_law_is_let_by K) vs H Q → t_law_is_let_by K (u4 (sp_is_least_cut K)) { nx := fun _ H' => Q .non H', rt := Q } (L2.start ["_law_web_here", "_law_ends_here", "_law_flow", "_law_told", "_law_sides", "_law_least", "_law_side"] vs) H := by
  rintro _ H Q ⟨_, _, c, _, rfl, w, n, es, e, v1, v2, F, T, fl, least, tp, sp, lp, ys, ss, sides, rfl, hw, eo, rfl, he, hE, ok, hf, fo, el, rfl, htp, hsp, pr, bt, ⟨zs, hlp, prl, btl, ll⟩, mem, hQ⟩
  have nd := sorted_keys eo.up
  have le := keys_small eo.ok nd eo.small
  have hn := eo.small
  unfold t_law_is_let_by
  walk_at "st"
  walk_at "gs"
  refine ⟨sp, rfl, ⟨_, SqL.of hsp⟩, for_list (xs := ys) (fun i σ H' => (∃ y6 : Option V, σ = [some (.ref w), some (.ref e), some c, some (.ref tp), some (.ref sp), some (.ref lp), y6]) ∧ Same H H') ⟨⟨_, rfl⟩, Same.refl _⟩ (fun i σ H' _ p => p.2.seqL (SqL.of hsp)) ?_ ?_⟩
  · rintro i x σ H' hx ⟨⟨y6, rfl⟩, s⟩
    obtain ⟨sd, hsd, q, rfl, hq⟩ := pairGet pr hx
    have B := bt sd (List.mem_of_getElem? hsd)
    have he1 := s.seqT he
    walk_at "gs"
    intro p np
    walk_at "gs"
    have s2 := s.trans (sameNew (o := .lst [c, .ref q]) np)
    refine ⟨w, n, es, F, T, fl, p, q, c, sd, rfl, s2.web hw, by omega, by omega, s2.endsT hE, ok, rfl, SqL.of upd_same, s2.flowT hf, fo, s2.seqT hq, B.up, B.inn, B.out, fun H2 s3 => ?_⟩
    have s4 := s2.trans s3
    walk_at "gs"
    refine ⟨tupD sd, sides.map tupD, sideDp (s4.seqT hq), .lst (SqL.of (s4 _ _ hlp)) (sidesDp (side_same s4 prl)), shTup _, sidesShape _, ?_⟩
    rw [sidesAny]
    have key : decide (outOf fl F - inTo fl F = wOut es sd) = decide (sd ∈ sides) := by
      rw [decide_eq_decide, mem sd B]
      have := wOut_cut (n := n) (es := es) (s := sd) eo.ok nd
      unfold sideW
      omega
    rw [key]
    walk_at "gs"
    have e0 : (decide (sd ∈ sides) != decide (sd ∈ sides)) = false := by simp
    rw [e0]
    walk_at "gs"
    exact ⟨⟨_, rfl⟩, s4⟩
  · rintro σ H' ⟨⟨y6, rfl⟩, s⟩
    walk_at "gs"
    exact hQ H' s
theorem pairSub {K : PySem.W.Frag} {H : Hp} {xs : List V} {ss : List (List Nat)} (pr : Paired (SideR K H) xs ss) : ∀ {ys : List V}, (∀ z ∈ ys, z ∈ xs) → ∃ ts : List (List Nat), Paired (SideR K H) ys ts ∧ ∀ s ∈ ts, s ∈ ss
  | [], _ => ⟨[], .nil, fun _ h => by cases h⟩
  | y :: ys, h => by
    obtain ⟨ts, h1, h2⟩ := pairSub pr (ys := ys) fun z hz => h z (List.mem_cons_of_mem _ hz)
    obtain ⟨s, hs, r⟩ := pairMem pr (h y List.mem_cons_self)
    refine ⟨s :: ts, .cons r h1, fun t ht => ?_⟩
    rcases List.mem_cons.mp ht with q | q
    · rw [q]; exact hs
    · exact h2 t q
theorem cutV_mem {xs : List V} {lo hi : Option Int} {z : V} (h : z ∈ cutV xs lo hi) : z ∈ xs := by
  unfold cutV at h
  exact List.mem_of_mem_drop (List.mem_of_mem_take h)
theorem pair_app {α β : Type} {R : α → β → Prop} {xs ys : List α} {ss ts : List β} (h : Paired R xs ss) (h2 : Paired R ys ts) : Paired R (xs ++ ys) (ss ++ ts) := by
  induction h with
  | nil => exact h2
  | cons r _ ih => exact .cons r ih
/-- a greatest flow is worth the least weight of all sides between -/
theorem max_least {n : Nat} {cp : Nat → Nat → Nat} {F T : List Nat} {g : Nat → Nat → Int} {least : Int} {sides : List (List Nat)} (M : MaxG n cp F T g) (L : LeastOk n cp F T least sides) (ok : Cs.Ends n F T) : wor n g F = least := by
  obtain ⟨rF, rT, nF, nT, dj⟩ := ok
  obtain ⟨S, h1, h2, h3⟩ := M.val
  have mem : ∀ v, v ∈ (List.range n).filter S ↔ v < n ∧ S v = true := fun v => by rw [List.mem_filter, List.mem_range]
  have B : Btw n F T ((List.range n).filter S) := ⟨⟨List.pairwise_lt_range.filter _, fun x hx => ((mem x).mp hx).1⟩, fun x hx => (mem x).mpr ⟨rF.2 x hx, h1 x hx⟩, fun x hx z => by have := ((mem x).mp z).2; rw [h2 x hx] at this; cases this⟩
  have e : sideW n cp ((List.range n).filter S) = cross n (capI cp) S := by
    unfold sideW cross
    refine ss_congr fun i j hi hj => ?_
    have a : decide (i ∈ (List.range n).filter S) = S i := by
      cases q : S i
      · exact decide_eq_false fun z => by have := ((mem i).mp z).2; rw [q] at this; cases this
      · exact decide_eq_true ((mem i).mpr ⟨hi, q⟩)
    have b : decide (j ∈ (List.range n).filter S) = S j := by
      cases q : S j
      · exact decide_eq_false fun z => by have := ((mem j).mp z).2; rw [q] at this; cases this
      · exact decide_eq_true ((mem j).mpr ⟨hj, q⟩)
    simp only [a, b]
  have lo := L.low _ B
  obtain ⟨s, Bs, es⟩ := L.att
  have up := wor_le M.ok (S := fun v => decide (v ∈ s)) (fun v hv => decide_eq_true (Bs.inn v hv)) fun v hv => decide_eq_false (Bs.out v hv)
  unfold sideW at es
  omega
theorem But.webD {K : PySem.W.Frag} {H H' : Hp} {d w : Addr} {n : Nat} {es : List Tie} (b : But d H H') (hd : DrI H d) (h : WebI K H w n es) : WebI K H' w n es := by
  have m := hd.mut
  obtain ⟨ds, hd⟩ := hd
  obtain ⟨dx, wd, tt, kvs, rows, h1, h2, h3, h4, h5⟩ := h
  exact ⟨dx, wd, tt, kvs, rows, b _ _ (ne_of h1 hd (by intro z; cases z)) h1, b _ _ (ne_of h2 hd (by intro z; cases z)) h2, b.kva m h3, b _ _ (ne_of h4 hd (by intro z; cases z)) h4, pairMono (fun _ _ r => b.row3 m r) h5⟩
theorem But.ctD {H H' : Hp} {d p : Addr} {c : Nat → Nat → Nat} (b : But d H H') (hd : DrI H d) (h : CtI H p c) : CtI H' p c := by
  obtain ⟨ds, hd⟩ := hd
  obtain ⟨kc, h1, h2⟩ := h
  exact ⟨kc, b _ _ (ne_of h1 hd (by intro z; cases z)) h1, h2⟩
theorem But.tiesD {K : PySem.W.Frag} {H H' : Hp} {d t : Addr} {n : Nat} {es : List Tie} (b : But d H H') (hd : DrI H d) (h : TiesI K H t n es) : TiesI K H' t n es := by
  have m := hd.mut
  obtain ⟨ds, hd⟩ := hd
  obtain ⟨kvs, h1, h2, h3⟩ := h
  exact ⟨kvs, b _ _ (ne_of h1 hd (by intro z; cases z)) h1, b.kva m h2, h3⟩
theorem _root_.L2.Same.ties {K : PySem.W.Frag} {H H' : Hp} {t : Addr} {n : Nat} {es : List Tie} (s : Same H H') (h : TiesI K H t n es) : TiesI K H' t n es := by
  obtain ⟨kvs, h1, h2, h3⟩ := h
  exact ⟨kvs, s _ _ h1, s.kva h2, h3⟩
def FGood (K : PySem.W.Frag) (H : Hp) (n : Nat) (es : List Tie) (F T : List Nat) (v : V) : Prop := ∃ fl g, FlowT K H v fl ∧ FlowOf n g fl ∧ MaxG n (tieW es) F T g
theorem FGood.same {K : PySem.W.Frag} {H H' : Hp} {n : Nat} {es : List Tie} {F T : List Nat} {v : V} (s : Same H H') (h : FGood K H n es F T v) : FGood K H' n es F T v := by
  obtain ⟨fl, g, h1, h2, h3⟩ := h
  exact ⟨fl, g, s.flowT h1, h2, h3⟩
theorem go_sl7 {K : PySem.W.Frag} {te ti : TE} {σ : L2.St} {H : Hp} {Q : VK} (h : te σ H fun x H1 => ti σ H1 fun y H2 => ∃ a xs i, x = .ref a ∧ y = .int i ∧ SqL K H2 a xs ∧ 0 ≤ i ∧ i ≤ 1000 ∧ xs.length ≤ 100000 ∧
  ∀ p ys, (∀ z ∈ ys, z ∈ xs) → ys.length ≤ xs.length → H2 p = none → Q (.ref p) (upd H2 p (.lst ys))) : tSl7 K te ti σ H Q := h
def sp_law (K : PySem.W.Frag) (a : V) (H : Hp) (Q : VK) : Prop := ∃ (s : Addr) (ns : List Int), a = .ref s ∧ SqL K H s (ns.map V.int) ∧ ∀ H1, Q (.bl true) H1
theorem pure_law {K : PySem.W.Frag} : ∀ vs H Q, u1 (sp_law K) vs H Q → t_law K (u3 (sp_law_draws K)) (u3 (sp_law_web K)) (u2 (sp_law_rows K)) (u3 (sp_Web_init K)) (u1 (sp_law_parts K)) (u2 (sp_law_ends K)) (u3 (sp_law_least_sides K)) (u3 (sp_shortest_flow K)) (u3 (sp_shortest_flow K)) (u3 (sp_pushed_flow K)) (u2 (sp_law_sides_between K)) (u2 (sp_law_cell K)) (u4 (sp_law_worth K)) (u4 (sp_law_is_let_by K)) { nx := fun _ H' => Q .non H', rt := Q } (L2.start ["_law_script", "_law_draws_here", "_law_many", "_law_ties", "_law_web_here", "_law_counted", "_law_turn", "_law_ends_here", "_law_least", "_law_sides", "_law_flows", "_law_every", "_law_some", "_law_flow"] vs) H := by
  rintro _ H Q ⟨_, rfl, s, ns, rfl, hs, hQ⟩
  unfold t_law
  walk_at "st"
  walk_at "gs"
  refine ⟨s, ns, 0, 200, rfl, hs, rfl, rfl, by omega, by omega, fun d ds H1 s1 nd hd1 => ?_⟩
  have hd1 : DrI H1 d := ⟨ds, hd1⟩
  walk_at "gs"
  refine ⟨d, rfl, hd1, rfl, rfl, fun p t n es0 H2 b2 hd2 hp ties ft => ?_⟩
  have hpT := SqT.of (K := K) hp
  walk_at "gs"
  refine ⟨d, t, n, es0, rfl, hd2, rfl, ties, fun rv H3 b3 hd3 hrows => ?_⟩
  have ties3 := b3.tiesD hd2 ties
  obtain ⟨_, _, _, nd0, ok0, n2, n9⟩ := id ties
  have le0 := keys_small ok0 nd0 n9
  walk_at "gs"
  intro x dx nx ndx nee
  have s4 : Same H3 (upd (upd H3 dx (.own x)) x (.ins (He.ga K "Web") dx [])) := sameMk nx ndx
  walk_at "gs"
  refine ⟨x, dx, n, es0, rfl, upd_same, rfl, by omega, by omega, s4.rowsS hrows, ok0, nd0, by omega, fun H4 es2 bx pm up hw => ⟨rfl, ?_⟩⟩
  have s34 : Same H3 H4 := bx.same s4 nx
  have b14 : But d H1 H4 := (b2.trans b3).trans s34.but
  have hd4 := hd3.same s34
  have ties4 := s34.ties ties3
  have tw : tieW (es2.filter nz) = tieW es0 := by
    funext i j
    exact tie_web pm nd0 i j
  have eo : EsOk n (es2.filter nz) := ⟨n9, fun e he => ok0 e (pm.mem_iff.mp (List.mem_filter.mp he).1), fun e he => by
    have := (List.mem_filter.mp he).2
    unfold nz at this
    simpa using this, up.sublist List.filter_sublist⟩
  generalize es2.filter nz = es at *
  generalize upd (upd H3 dx (.own x)) x (.ins (He.ga K "Web") dx []) = Hx at *
  walk_at "gs"
  refine ⟨t, n, es0, rfl, ties4, fun kp H5 s5 hct => ?_⟩
  rw [← tw] at hct
  have b15 := b14.trans s5.but
  have hd5 := hd4.same s5
  have hw5 := s5.web hw
  walk_at "gs"
  refine ⟨2, rfl, by omega, by omega, for_range (lo := 0) (n := (2 : Int).toNat) (fun i σ H' => (∃ y6 y7 y8 y9 y10 y11 y12 y13 : Option V, σ = [some (.ref s), some (.ref d), some (.int n), some (.ref t), some (.ref x), some (.ref kp), y6, y7, y8, y9, y10, y11, y12, y13]) ∧ But d H5 H' ∧ DrI H' d) ⟨⟨_, _, _, _, _, _, _, _, rfl⟩, (fun _ _ _ h => h), hd5⟩ ?_ ?_⟩
  · rintro i σ H' hi ⟨⟨y6, y7, y8, y9, y10, y11, y12, y13, rfl⟩, bu, hd'⟩
    have hw' := bu.webD hd5 hw5
    have hct' := bu.ctD hd5 hct
    have sS : Same H H' := (b15.trans bu).same s1 nd
    have hs' := sS.seqL hs
    walk_at "gs"
    refine ⟨d, n, rfl, hd', rfl, n2, n9, fun ep v1 v2 F T H6 b6 hd6 hep hE ok => ?_⟩
    have hw6 := b6.webD hd' hw'
    have hct6 := b6.ctD hd' hct'
    have sS6 : Same H H6 := ((b15.trans bu).trans b6).same s1 nd
    have hs6 := sS6.seqL hs
    have hep6 := SqT.of (K := K) hep
    have bu6 := bu.trans b6
    walk_at "gs"
    refine ⟨n, kp, tieW es, ep, v1, v2, F, T, rfl, n9, rfl, hct6, rfl, hep6, hE, ok, fun r lp least sides H7 s7 hr7 hsd L => ?_⟩
    have hr7T := SqT.of (K := K) hr7
    have hep7 := s7.seqT hep6
    walk_at "gs"
    refine ⟨x, n, es, F, T, rfl, s7.web hw6, eo, s7.endsT hE, ok, fun p1 f1 x1 fl1 g1 H8 s8 hp1 ft1 fo1 M1 => ?_⟩
    have hp1T := SqT.of (K := K) hp1
    have s78 := s7.trans s8
    have hep8 := s78.seqT hep6
    walk_at "gs"
    refine ⟨x, n, es, F, T, rfl, s78.web hw6, eo, s78.endsT hE, ok, fun p2 f2 x2 fl2 g2 H9 s9 hp2 ft2 fo2 M2 => ?_⟩
    have hp2T := SqT.of (K := K) hp2
    have s79 := s78.trans s9
    have G1 : FGood K H9 n es F T f1 := ⟨fl1, g1, s9.flowT ft1, fo1, M1⟩
    have G2 : FGood K H9 n es F T f2 := ⟨fl2, g2, ft2, fo2, M2⟩
    walk_at "gs"
    intro fp nfp
    have s10 : Same H9 (upd H9 fp (.lst [f1, f2])) := sameNew nfp
    have hfp : (upd H9 fp (.lst [f1, f2])) fp = some (.lst [f1, f2]) := upd_same
    have ffp7 : H7 fp = none := (s8.trans s9).free nfp
    generalize upd H9 fp (.lst [f1, f2]) = HA at *
    have s7A := s79.trans s10
    have hepA := s7A.seqT hep6
    walk_at "gs"
    refine ⟨.inl ⟨rfl, _, SqL.of hfp⟩, ?_⟩
    walk_at "gs"
    refine ⟨x, n, es, F, T, rfl, s7A.web hw6, eo, s7A.endsT hE, ok, fun f3 fl3 g3 HB sB ft3 fo3 M3 => ?_⟩
    walk_at "gs"
    have s6B := s7A.trans sB
    have s7B := ((s8.trans s9).trans s10).trans sB
    have hfpB := sB _ _ hfp
    have G1B := (G1.same s10).same sB
    have G2B := (G2.same s10).same sB
    have G3B : FGood K HB n es F T f3 := ⟨fl3, g3, ft3, fo3, M3⟩
    refine ⟨fp, [f1, f2], f3, rfl, rfl, hfpB, by rw [sizeLine_eq]; simp, ?_⟩
    have bf : But fp HB (upd HB fp (.lst ([f1, f2] ++ [f3]))) := butUpd
    have mf : Mut (HB fp) := by rw [hfpB]; trivial
    have flow_but : ∀ v, FGood K HB n es F T v → FGood K (upd HB fp (.lst ([f1, f2] ++ [f3]))) n es F T v := fun v h => by
      obtain ⟨fl, g, ⟨l, rows, e1, h1, h2⟩, h3, h4⟩ := h
      exact ⟨fl, g, ⟨l, rows, e1, bf.tupM mf h1, pairMono (fun _ _ r => bf.row3 mf r) h2⟩, h3, h4⟩
    have G1C := flow_but f1 G1B
    have G2C := flow_but f2 G2B
    have G3C := flow_but f3 G3B
    have s7C : Same H7 (upd HB fp (.lst ([f1, f2] ++ [f3]))) := s7B.updFresh ffp7
    have hfpC : (upd HB fp (.lst ([f1, f2] ++ [f3]))) fp = some (.lst [f1, f2, f3]) := upd_same
    generalize upd HB fp (.lst ([f1, f2] ++ [f3])) = HC at *
    have s6C := s7.trans s7C
    have hepC := s6C.seqT hep6
    walk_at "gs"
    refine ⟨n, ep, v1, v2, F, T, rfl, n9, rfl, hepC, s6C.endsT hE, ok, fun vp ev HD sD nvp hev cm => ?_⟩
    obtain ⟨ys, hys, pre, bte, lee⟩ := hev
    obtain ⟨zs, hzs, prs, bts, lss⟩ := id hsd
    have s7D := s7C.trans sD
    have s6D := s7.trans s7D
    walk_at "gs"
    refine go_sl7 ?_
    walk_at "gs"
    refine ⟨s, ns, 33, rfl, (sS6.trans s6D).seqL hs, rfl, by omega, fun z => ?_⟩
    walk_at "gs"
    refine ⟨z, rfl, ?_⟩
    walk_at "gs"
    have ly := pairLen pre
    have ly2 := pairLen prs
    refine ⟨vp, ys, _, rfl, rfl, SqL.of hys, by omega, by omega, by omega, fun q1 us1 us1m us1l nq1 => ?_⟩
    have sE : Same HD (upd HD q1 (.lst us1)) := sameNew nq1
    have hq1 : (upd HD q1 (.lst us1)) q1 = some (.lst us1) := upd_same
    generalize upd HD q1 (.lst us1) = HE at *
    walk_at "gs"
    refine ⟨_, rfl, ?_⟩
    have s7E := s7D.trans sE
    refine ⟨lp, zs, rfl, SqL.of (s7E _ _ hzs), fun q2 nq2 => ?_⟩
    have lcut := cutV_length zs none (some 3)
    have sF : Same HE (upd HE q2 (.lst (cutV zs none (some 3)))) := sameNew nq2
    have hq2 : (upd HE q2 (.lst (cutV zs none (some 3)))) q2 = some (.lst (cutV zs none (some 3))) := upd_same
    obtain ⟨ss2, pr2, m2⟩ := pairSub prs (ys := cutV zs none (some 3)) fun z hz => cutV_mem hz
    obtain ⟨ss1, pr1, m1⟩ := pairSub pre us1m
    generalize cutV zs none (some 3) = us2 at *
    generalize upd HE q2 (.lst us2) = HF at *
    refine ⟨q1, q2, us1, us2, rfl, rfl, sF _ _ hq1, hq2, by rw [sizeLine_eq]; omega, fun q3 nq3 => ?_⟩
    have sG : Same HF (upd HF q3 (.lst (us1 ++ us2))) := sameNew nq3
    have hq3 : (upd HF q3 (.lst (us1 ++ us2))) q3 = some (.lst (us1 ++ us2)) := upd_same
    generalize upd HF q3 (.lst (us1 ++ us2)) = HG at *
    have sDG := (sE.trans sF).trans sG
    have s7G := s7D.trans sDG
    have s6G := s7.trans s7G
    have sCG := sD.trans sDG
    have prG : Paired (SideR K HG) (us1 ++ us2) (ss1 ++ ss2) := pair_app (side_same sDG pr1) (side_same s7G pr2)
    have btG : ∀ q ∈ ss1 ++ ss2, Btw n F T q := fun q hq => (List.mem_append.mp hq).elim (fun h => bte q (m1 q h)) fun h => bts q (m2 q h)
    walk_at "gs"
    refine ⟨fp, rfl, ⟨_, SqL.of (sCG _ _ hfpC)⟩, for_list (xs := [f1, f2, f3]) (fun j σ H' => (∃ y13 : Option V, σ = [some (.ref s), some (.ref d), some (.int n), some (.ref t), some (.ref x), some (.ref kp), some (.int (0 + (i : Int))), some (.ref ep), some (.int least), some (.ref lp), some (.ref fp), some (.ref vp), some (.ref q3), y13]) ∧ Same HG H') ⟨⟨_, rfl⟩, Same.refl _⟩ (fun j σ H' _ p => p.2.seqL (SqL.of (sCG _ _ hfpC))) ?_ ?_⟩
    · rintro j v σ H' hx ⟨⟨y13, rfl⟩, sJ⟩
      have Gv : FGood K H' n es F T v := by
        have hm := List.mem_of_getElem? hx
        simp only [List.mem_cons, List.not_mem_nil, or_false] at hm
        rcases hm with rfl | rfl | rfl
        · exact (G1C.same sCG).same sJ
        · exact (G2C.same sCG).same sJ
        · exact (G3C.same sCG).same sJ
      obtain ⟨fl, g, ft, fo, M⟩ := Gv
      have s6H := s6G.trans sJ
      walk_at "gs"
      refine ⟨n, kp, es, ep, v1, v2, F, T, fl, g, rfl, n9, rfl, s6H.ct hct6, rfl, s6H.seqT hep6, s6H.endsT hE, ok, ft, fo, M, fun HH sH => ?_⟩
      have ml := max_least M L ok
      walk_at "gs"
      refine ite_ndec (fun h => absurd ml h) fun _ => ?_
      walk_at "gs"
      intro tq ntq
      walk_at "gs"
      have sK : Same HH (upd HH tq (.tup [.ref q3, .ref lp])) := sameNew ntq
      have FO := flow_ok fo M
      have bal := FO.bal.2
      have wv := flow_wor fo M.ok.anti F
      have sX := (sJ.trans sH).trans sK
      have s6X := s6G.trans sX
      refine ⟨x, n, es, ep, v1, v2, F, T, fl, least, tq, q3, lp, us1 ++ us2, ss1 ++ ss2, sides, rfl, s6X.web hw6, eo, rfl, s6X.seqT hep6, s6X.endsT hE, ok, (sH.trans sK).flowT ft, FO, by omega, rfl, SqT.of upd_same, sX _ _ hq3, side_same sX prG, btG, ⟨zs, (s7G.trans sX) _ _ hzs, side_same (s7G.trans sX) prs, bts, lss⟩, L.mem, fun HL sL => ?_⟩
      walk_at "gs"
      exact ⟨⟨_, rfl⟩, sX.trans sL⟩
    · rintro σ H' ⟨⟨y13, rfl⟩, sJ⟩
      have s6H := s6G.trans sJ
      exact ⟨⟨_, _, _, _, _, _, _, _, rfl⟩, bu6.trans s6H.but, hd6.same s6H⟩
  · rintro σ H' ⟨⟨y6, y7, y8, y9, y10, y11, y12, y13, rfl⟩, bu, hd'⟩
    walk_at "gs"
    exact hQ H'
end Cs
namespace Cs
open PySem PySem.Spec PyProof.Rows L2
/-- Okf, with the def's own datum -/
def Okf2 (K : PySem.W.Frag) (mg : Str → Option Value) (d : He.DefD) (ps : List Str) (k : Nat) (sp : Sp0) : Prop :=
  ∃ fd : FuncData, FunD K d.name d.qual d.params d.body d.scope [] [] (He.fAd K d.at_) fd ∧ ∀ (P : Program) (w : World) (base : Heap), FnOk P w K mg base CX0 k (He.fAd K d.at_) fd ps (fun vs H Q _ => vs.length = ps.length ∧ sp vs H Q)
theorem okf_of2 {K : PySem.W.Frag} {mg : Str → Option Value} {d : He.DefD} {N ps : List Str} {k : Nat} {sp : Sp0} (t : TS) (F : ∃ fd, FunD K d.name d.qual d.params d.body d.scope [] [] (He.fAd K d.at_) fd) (S : FnScope N ps d.scope)
    (hb : ∀ (kV doc pm : Value) (an : Option Addr) (cdv ct : Value) (us : List Value), us.length = ps.length → bindArgs (PySem.W.fnOf d.name d.qual d.params d.body d.scope .none kV doc pm an cdv ct) ⟨us, []⟩ = pure (ps.zip us))
    (der : ∀ (P : Program) (w : World) (base : Heap) (cdv : Value) (A : Around) (outer : List Env) (s : Shared) (H : Hp) (E : XK), Room k (A.deeper (envOfC d.qual d.scope s.heap.objs.size (He.fAd K d.at_) cdv)) →
      PSs (cxOf CX0 P w K mg base N d.qual d.scope (He.fAd K d.at_) cdv A outer s H E).nox d.body t)
    (pure : ∀ vs H Q, sp vs H Q → t { nx := fun _ H' => Q .non H', rt := Q } (start N vs) H) : Okf2 K mg d ps (k + 1) sp := by
  obtain ⟨fd, F⟩ := F
  refine ⟨fd, F, fun P w base => F.ok S (fun _ _ _ _ h => h.1) fun cdv A outer s H vs Q E hr h => ⟨t, PSs.nox (der P w base cdv A outer s H E hr), pure vs H Q h.2⟩⟩
theorem ok_law2 {K : PySem.W.Frag} {mg : Str → Option Value} {k : Nat} {sp : Sp0} {p_law_draws p_law_web p_law_rows p_Web_init p_law_parts p_law_ends p_law_least_sides p_halved_flow p_shortest_flow p_pushed_flow p_law_sides_between p_law_cell p_law_worth p_law_is_let_by : Sp0} (E : En K mg) (h_law_draws : Okf K mg d_law_draws ["_law_script", "_law_at", "_law_many"] (k + 1) p_law_draws) (h_law_web : Okf K mg d_law_web ["_law_draws_here", "_law_least", "_law_most"] (k + 1) p_law_web) (h_law_rows : Okf K mg d_law_rows ["_law_draws_here", "_law_ties"] (k + 1) p_law_rows) (h_Web_init : Okf K mg d_Web_init ["self", "many", "ties"] k p_Web_init) (h_law_parts : Okf K mg d_law_parts ["_law_ties"] (k + 1) p_law_parts) (h_law_ends : Okf K mg d_law_ends ["_law_draws_here", "_law_many"] (k + 1) p_law_ends) (h_law_least_sides : Okf K mg d_law_least_sides ["_law_many", "_law_counted", "_law_ends_here"] (k + 1) p_law_least_sides) (h_halved_flow : Okf K mg d_halved_flow ["web", "froms", "tos"] (k + 1) p_halved_flow) (h_shortest_flow : Okf K mg d_shortest_flow ["web", "froms", "tos"] (k + 1) p_shortest_flow) (h_pushed_flow : Okf K mg d_pushed_flow ["web", "froms", "tos"] (k + 1) p_pushed_flow) (h_law_sides_between : Okf K mg d_law_sides_between ["_law_many", "_law_ends_here"] (k + 1) p_law_sides_between) (h_law_cell : Okf K mg d_law_cell ["_law_script", "_law_k"] (k + 1) p_law_cell) (h_law_worth : Okf K mg d_law_worth ["_law_many", "_law_counted", "_law_ends_here", "_law_flow"] (k + 1) p_law_worth) (h_law_is_let_by : Okf K mg d_law_is_let_by ["_law_web_here", "_law_ends_here", "_law_flow", "_law_told"] (k + 1) p_law_is_let_by)
    (pure : ∀ vs H Q, sp vs H Q → t_law K p_law_draws p_law_web p_law_rows p_Web_init p_law_parts p_law_ends p_law_least_sides p_halved_flow p_shortest_flow p_pushed_flow p_law_sides_between p_law_cell p_law_worth p_law_is_let_by { nx := fun _ H' => Q .non H', rt := Q } (start ["_law_script", "_law_draws_here", "_law_many", "_law_ties", "_law_web_here", "_law_counted", "_law_turn", "_law_ends_here", "_law_least", "_law_sides", "_law_flows", "_law_every", "_law_some", "_law_flow"] vs) H) : Okf2 K mg d_law ["_law_script"] ((k + 1) + 1) sp := by
  refine okf_of2 (d := d_law) (N := ["_law_script", "_law_draws_here", "_law_many", "_law_ties", "_law_web_here", "_law_counted", "_law_turn", "_law_ends_here", "_law_least", "_law_sides", "_law_flows", "_law_every", "_law_some", "_law_flow"]) (t_law K p_law_draws p_law_web p_law_rows p_Web_init p_law_parts p_law_ends p_law_least_sides p_halved_flow p_shortest_flow p_pushed_flow p_law_sides_between p_law_cell p_law_worth p_law_is_let_by) E.fd_law sc_law (fun _ _ _ _ _ _ us hl => match us, hl with | [_], _ => rfl) (fun P w base cdv A outer s H Ex hr => ?_) pure
  have nd := (sc_law).nd
  exact (pss_cons (ps_set (i := 1) nd rfl (Or.inl rfl) (pe_f h_law_draws hr rfl E.g_law_draws (pa_cons (pv 0) (pa_cons pe_int (pa_cons pe_int pa_nil)))))
      (pss_cons (ps_asg (pe_f h_law_web hr rfl E.g_law_web (pa_cons (pv 1) (pa_cons pe_int (pa_cons pe_int pa_nil)))) (pg_tup rfl (pgs_cons (pg_name (i := 2) nd rfl (Or.inl rfl)) (pgs_cons (pg_name (i := 3) nd rfl (Or.inl rfl)) pgs_nil))))
      (pss_cons (ps_set (i := 4) nd rfl (Or.inl rfl) (pe_mk E.mk_Web h_Web_init rfl hr rfl E.g_Web (pa_cons (pv 2) (pa_cons (pe_f h_law_rows hr rfl E.g_law_rows (pa_cons (pv 1) (pa_cons (pv 3) pa_nil))) pa_nil))))
      (pss_cons (ps_set (i := 5) nd rfl (Or.inl rfl) (pe_f h_law_parts hr rfl E.g_law_parts (pa_cons (pv 3) pa_nil)))
      (pss_cons (ps_for PassesOwn.never rfl (pi_range1 (by rfl) E.f_range (pa_cons pe_int pa_nil)) (pg_name (i := 6) nd rfl (Or.inl rfl)) (pss_cons (ps_set (i := 7) nd rfl (Or.inl rfl) (pe_f h_law_ends hr rfl E.g_law_ends (pa_cons (pv 1) (pa_cons (pv 2) pa_nil))))
      (pss_cons (ps_asg (pe_f h_law_least_sides hr rfl E.g_law_least_sides (pa_cons (pv 2) (pa_cons (pv 5) (pa_cons (pv 7) pa_nil)))) (pg_tup rfl (pgs_cons (pg_name (i := 8) nd rfl (Or.inl rfl)) (pgs_cons (pg_name (i := 9) nd rfl (Or.inl rfl)) pgs_nil))))
      (pss_cons (ps_set (i := 10) nd rfl (Or.inl rfl) (pe_lst (pa_cons (pe_ix ix_tup (pe_f h_shortest_flow hr rfl E.g_shortest_flow (pa_cons (pv 4) (pa_cons (pe_ix ix_tup (pv 7) pe_int (fun _ _ => rfl)) (pa_cons (pe_ix ix_tup (pv 7) pe_int (fun _ _ => rfl)) pa_nil)))) pe_int (fun _ _ => rfl)) (pa_cons (pe_ix ix_tup (pe_f h_halved_flow hr rfl E.g_halved_flow (pa_cons (pv 4) (pa_cons (pe_ix ix_tup (pv 7) pe_int (fun _ _ => rfl)) (pa_cons (pe_ix ix_tup (pv 7) pe_int (fun _ _ => rfl)) pa_nil)))) pe_int (fun _ _ => rfl)) pa_nil))))
      (pss_cons (ps_expr (pe_bm PySem.F.plainAttrs_list PySem.F.slot_list_append PySem.F.type_list_append mt_append (pv 10) (pa_cons (pe_f h_pushed_flow hr rfl E.g_pushed_flow (pa_cons (pv 4) (pa_cons (pe_ix ix_tup (pv 7) pe_int (fun _ _ => rfl)) (pa_cons (pe_ix ix_tup (pv 7) pe_int (fun _ _ => rfl)) pa_nil)))) pa_nil)))
      (pss_cons (ps_set (i := 11) nd rfl (Or.inl rfl) (pe_f h_law_sides_between hr rfl E.g_law_sides_between (pa_cons (pv 2) (pa_cons (pv 7) pa_nil))))
      (pss_cons (ps_set (i := 12) nd rfl (Or.inl rfl) (pe_op op_cat (pe_sl7 (pv 11) (pe_op op_mod (pe_callB call_abs (by rfl) E.f_abs (by decide +kernel) (pa_cons (pe_f h_law_cell hr rfl E.g_law_cell (pa_cons (pv 0) (pa_cons pe_int pa_nil))) pa_nil)) pe_int)) (pe_slice sl_list (pv 9) po_none (po_some pe_int))))
      (pss_one (ps_for PassesOwn.never rfl (pi_list (pv 10)) (pg_name (i := 13) nd rfl (Or.inl rfl)) (pss_cons (ps_if (pt_cmpR op_ne (pe_f h_law_worth hr rfl E.g_law_worth (pa_cons (pv 2) (pa_cons (pv 5) (pa_cons (pv 7) (pa_cons (pv 13) pa_nil))))) (pv 8) (nomark _)) (pss_one (ps_ret pe_bl)) pss_nil)
      (pss_one (ps_if (pt_not (pt_val (pe_f h_law_is_let_by hr rfl E.g_law_is_let_by (pa_cons (pv 4) (pa_cons (pv 7) (pa_cons (pv 13) (pa_cons (pe_tup (pa_cons (pv 12) (pa_cons (pv 9) pa_nil))) pa_nil))))) (by intro _; rfl))) (pss_one (ps_ret pe_bl)) pss_nil))))))))))))
      (pss_one (ps_ret pe_bl)))))))
theorem okk_law_cell {K : PySem.W.Frag} {mg : Str → Option Value} (E : En K mg) : Okf K mg d_law_cell ["_law_script", "_law_k"] 1 (u2 (sp_law_cell K)) := ok_law_cell (k := 0) E  (pure_law_cell)
theorem okk_law_draws {K : PySem.W.Frag} {mg : Str → Option Value} (E : En K mg) : Okf K mg d_law_draws ["_law_script", "_law_at", "_law_many"] 2 (u3 (sp_law_draws K)) := ok_law_draws (k := 1) E ((okk_law_cell E).mono (by decide)) (pure_law_draws)
theorem okk_law_next {K : PySem.W.Frag} {mg : Str → Option Value} (E : En K mg) : Okf K mg d_law_next ["_law_draws_here"] 1 (u1 sp_law_next) := ok_law_next (k := 0) E  (pure_law_next)
theorem okk_law_order {K : PySem.W.Frag} {mg : Str → Option Value} (E : En K mg) : Okf K mg d_law_order ["_law_draws_here", "_law_many"] 2 (u2 (sp_law_order K)) := ok_law_order (k := 1) E ((okk_law_next E).mono (by decide)) (pure_law_order)
theorem okk_law_weight {K : PySem.W.Frag} {mg : Str → Option Value} (E : En K mg) : Okf K mg d_law_weight ["_law_draws_here"] 2 (u1 (sp_law_weight K)) := ok_law_weight (k := 1) E ((okk_law_next E).mono (by decide)) (pure_law_weight)
theorem okk_law_pairs {K : PySem.W.Frag} {mg : Str → Option Value} (E : En K mg) : Okf K mg d_law_pairs ["_law_draws_here", "_law_many"] 2 (u2 sp_law_pairs) := ok_law_pairs (k := 1) E ((okk_law_next E).mono (by decide)) (pure_law_pairs)
theorem okk_law_web {K : PySem.W.Frag} {mg : Str → Option Value} (E : En K mg) : Okf K mg d_law_web ["_law_draws_here", "_law_least", "_law_most"] 3 (u3 (sp_law_web K)) := ok_law_web (k := 2) E ((okk_law_next E).mono (by decide)) ((okk_law_order E).mono (by decide)) ((okk_law_weight E).mono (by decide)) ((okk_law_pairs E).mono (by decide)) (pure_law_web)
theorem okk_law_rows {K : PySem.W.Frag} {mg : Str → Option Value} (E : En K mg) : Okf K mg d_law_rows ["_law_draws_here", "_law_ties"] 2 (u2 (sp_law_rows K)) := ok_law_rows (k := 1) E ((okk_law_next E).mono (by decide)) (pure_law_rows)
theorem okk_is_whole {K : PySem.W.Frag} {mg : Str → Option Value} (E : En K mg) : Okf K mg d_is_whole ["thing", "least", "most"] 1 (u3 sp_is_whole) := ok_is_whole (k := 0) E  (pure_is_whole)
theorem okk_is_row {K : PySem.W.Frag} {mg : Str → Option Value} (E : En K mg) : Okf K mg d_is_row ["thing"] 1 (u1 (sp_is_row K)) := ok_is_row (k := 0) E  (pure_is_row)
theorem okk_are_places {K : PySem.W.Frag} {mg : Str → Option Value} (E : En K mg) : Okf K mg d_are_places ["many", "i", "j"] 2 (u3 sp_are_places) := ok_are_places (k := 1) E ((okk_is_whole E).mono (by decide)) (pure_are_places)
theorem okk_divisor {K : PySem.W.Frag} {mg : Str → Option Value} (E : En K mg) : Okf K mg d_divisor ["one", "other"] 1 (u2 sp_divisor) := ok_divisor (k := 0) E  (pure_divisor)
theorem okk_is_amount {K : PySem.W.Frag} {mg : Str → Option Value} (E : En K mg) : Okf K mg d_is_amount ["thing"] 2 (u1 (sp_is_amount K)) := ok_is_amount (k := 1) E ((okk_is_row E).mono (by decide)) ((okk_divisor E).mono (by decide)) (pure_is_amount)
theorem okk_is_weight {K : PySem.W.Frag} {mg : Str → Option Value} (E : En K mg) : Okf K mg d_is_weight ["thing"] 3 (u1 (sp_is_weight K)) := ok_is_weight (k := 2) E ((okk_is_amount E).mono (by decide)) (pure_is_weight)
theorem okk_is_tie {K : PySem.W.Frag} {mg : Str → Option Value} (E : En K mg) : Okf K mg d_is_tie ["many", "thing"] 4 (u2 (sp_is_tie K)) := ok_is_tie (k := 3) E ((okk_is_row E).mono (by decide)) ((okk_are_places E).mono (by decide)) ((okk_is_weight E).mono (by decide)) (pure_is_tie)
theorem okk_wrong_tie {K : PySem.W.Frag} {mg : Str → Option Value} (E : En K mg) : Okf K mg d_wrong_tie ["many", "ties"] 5 (u2 (sp_wrong_tie K)) := ok_wrong_tie (k := 4) E ((okk_is_row E).mono (by decide)) ((okk_is_tie E).mono (by decide)) (pure_wrong_tie)
theorem okk_as_tuples0 {K : PySem.W.Frag} {mg : Str → Option Value} (E : En K mg) : Okf K mg d_as_tuples ["thing"] 2 (u1 sp_as_tuples0) := ok_as_tuples (k := 1) E ((okk_is_row E).mono (by decide)) (okF (k := 1) (ps := ["thing"]) E.fd_as_tuples (fun _ _ _ _ _ _ us hl => match us, hl with | [_], _ => rfl)) pure_as_tuples0
theorem okk_as_tuples {K : PySem.W.Frag} {mg : Str → Option Value} (E : En K mg) : Okf K mg d_as_tuples ["thing"] 3 (u1 (sp_as_tuples K)) := ok_as_tuples (k := 2) E ((okk_is_row E).mono (by decide)) (okk_as_tuples0 E) pure_as_tuples
theorem okk_weights_in {K : PySem.W.Frag} {mg : Str → Option Value} (E : En K mg) : Okf K mg d_weights_in ["ties"] 4 (u1 (sp_weights_in K)) := ok_weights_in (k := 3) E ((okk_as_tuples E).mono (by decide)) (pure_weights_in)
theorem okk_put_weights {K : PySem.W.Frag} {mg : Str → Option Value} (E : En K mg) : Okf K mg d_put_weights ["web", "weights"] 1 (u2 (sp_put_weights K)) := ok_put_weights (k := 0) E  (pure_put_weights E)
theorem okk_Web_init {K : PySem.W.Frag} {mg : Str → Option Value} (E : En K mg) : Okf K mg d_Web_init ["self", "many", "ties"] 6 (u3 (sp_Web_init K)) := ok_Web_init (k := 5) E ((okk_is_whole E).mono (by decide)) ((okk_wrong_tie E).mono (by decide)) ((okk_weights_in E).mono (by decide)) ((okk_put_weights E).mono (by decide)) (pure_Web_init E)
theorem okk_law_parts {K : PySem.W.Frag} {mg : Str → Option Value} (E : En K mg) : Okf K mg d_law_parts ["_law_ties"] 1 (u1 (sp_law_parts K)) := ok_law_parts (k := 0) E  (pure_law_parts)
theorem okk_law_ends {K : PySem.W.Frag} {mg : Str → Option Value} (E : En K mg) : Okf K mg d_law_ends ["_law_draws_here", "_law_many"] 3 (u2 (sp_law_ends K)) := ok_law_ends (k := 2) E ((okk_law_order E).mono (by decide)) ((okk_law_next E).mono (by decide)) (pure_law_ends)
theorem okk_law_sides_between {K : PySem.W.Frag} {mg : Str → Option Value} (E : En K mg) : Okf K mg d_law_sides_between ["_law_many", "_law_ends_here"] 1 (u2 (sp_law_sides_between K)) := ok_law_sides_between (k := 0) E  (pure_law_sides_between)
theorem okk_law_side_parts {K : PySem.W.Frag} {mg : Str → Option Value} (E : En K mg) : Okf K mg d_law_side_parts ["_law_many", "_law_counted", "_law_side"] 1 (u3 (sp_law_side_parts K)) := ok_law_side_parts (k := 0) E  (pure_law_side_parts)
theorem okk_law_least_sides {K : PySem.W.Frag} {mg : Str → Option Value} (E : En K mg) : Okf K mg d_law_least_sides ["_law_many", "_law_counted", "_law_ends_here"] 2 (u3 (sp_law_least_sides K)) := ok_law_least_sides (k := 1) E ((okk_law_sides_between E).mono (by decide)) ((okk_law_side_parts E).mono (by decide)) (pure_law_least_sides)
theorem okk_are_rising {K : PySem.W.Frag} {mg : Str → Option Value} (E : En K mg) : Okf K mg d_are_rising ["many", "thing"] 2 (u2 (sp_are_rising K)) := ok_are_rising (k := 1) E ((okk_is_row E).mono (by decide)) ((okk_is_whole E).mono (by decide)) (pure_are_rising)
theorem okk_are_ends {K : PySem.W.Frag} {mg : Str → Option Value} (E : En K mg) : Okf K mg d_are_ends ["web", "froms", "tos"] 3 (u3 (sp_are_ends K)) := ok_are_ends (k := 2) E ((okk_are_rising E).mono (by decide)) (pure_are_ends E)
theorem okk_Rooms_parts {K : PySem.W.Frag} {mg : Str → Option Value} (E : En K mg) : Okf K mg d_Rooms_parts ["self", "amount"] 1 (u2 (sp_Rooms_parts K)) := ok_Rooms_parts (k := 0) E  (pure_Rooms_parts)
theorem okk_Rooms_meet {K : PySem.W.Frag} {mg : Str → Option Value} (E : En K mg) : Okf K mg d_Rooms_meet ["self", "i", "j"] 1 (u3 (sp_Rooms_meet K)) := ok_Rooms_meet (k := 0) E  (pure_Rooms_meet E)
theorem okk_Rooms_init {K : PySem.W.Frag} {mg : Str → Option Value} (E : En K mg) : Okf K mg d_Rooms_init ["self", "web"] 2 (u2 (sp_Rooms_init K)) := ok_Rooms_init (k := 1) E ((okk_Rooms_parts E).mono (by decide)) ((okk_Rooms_meet E).mono (by decide)) (pure_Rooms_init E)
theorem okk_first_bound {K : PySem.W.Frag} {mg : Str → Option Value} (E : En K mg) : Okf K mg d_first_bound ["rooms"] 1 (u1 (sp_first_bound K)) := ok_first_bound (k := 0) E  (pure_first_bound E)
theorem okk_Rooms_spare {K : PySem.W.Frag} {mg : Str → Option Value} (E : En K mg) : Okf K mg d_Rooms_spare ["self", "i", "j"] 1 (u3 (sp_Rooms_spare K)) := ok_Rooms_spare (k := 0) E  (pure_Rooms_spare E)
theorem okk_steps_to {K : PySem.W.Frag} {mg : Str → Option Value} (E : En K mg) : Okf K mg d_steps_to ["rooms", "froms", "tos", "least"] 2 (u4 (sp_steps_to K)) := ok_steps_to (k := 1) E ((okk_Rooms_spare E).mono (by decide)) (pure_steps_to E)
theorem okk_way_with {K : PySem.W.Frag} {mg : Str → Option Value} (E : En K mg) : Okf K mg d_way_with ["rooms", "froms", "tos", "least"] 3 (u4 (sp_way_with K)) := ok_way_with (k := 2) E ((okk_steps_to E).mono (by decide)) ((okk_Rooms_spare E).mono (by decide)) (pure_way_with E)
theorem okk_Rooms_put {K : PySem.W.Frag} {mg : Str → Option Value} (E : En K mg) : Okf K mg d_Rooms_put ["self", "i", "j", "number"] 1 (u4 (sp_Rooms_put K)) := ok_Rooms_put (k := 0) E  (pure_Rooms_put E)
theorem okk_Rooms_carry {K : PySem.W.Frag} {mg : Str → Option Value} (E : En K mg) : Okf K mg d_Rooms_carry ["self", "way", "number"] 2 (u3 (sp_Rooms_carry K)) := ok_Rooms_carry (k := 1) E ((okk_Rooms_put E).mono (by decide)) (pure_Rooms_carry)
theorem okk_Rooms_least_room {K : PySem.W.Frag} {mg : Str → Option Value} (E : En K mg) : Okf K mg d_Rooms_least_room ["self", "way"] 2 (u2 (sp_Rooms_least_room K)) := ok_Rooms_least_room (k := 1) E ((okk_Rooms_spare E).mono (by decide)) (pure_Rooms_least_room)
theorem okk_filled {K : PySem.W.Frag} {mg : Str → Option Value} (E : En K mg) : Okf K mg d_filled ["rooms", "froms", "tos", "least"] 4 (u4 (sp_filled K)) := ok_filled (k := 3) E ((okk_way_with E).mono (by decide)) ((okk_Rooms_carry E).mono (by decide)) ((okk_Rooms_least_room E).mono (by decide)) (pure_filled)
theorem okk_lowest {K : PySem.W.Frag} {mg : Str → Option Value} (E : En K mg) : Okf K mg d_lowest ["number"] 2 (u1 (sp_lowest K)) := ok_lowest (k := 1) E ((okk_divisor E).mono (by decide)) (pure_lowest)
theorem okk_Rooms_flow {K : PySem.W.Frag} {mg : Str → Option Value} (E : En K mg) : Okf K mg d_Rooms_flow ["self"] 3 (u1 (sp_Rooms_flow K)) := ok_Rooms_flow (k := 2) E ((okk_lowest E).mono (by decide)) (pure_Rooms_flow E)
theorem okk_halved_flow {K : PySem.W.Frag} {mg : Str → Option Value} (E : En K mg) : Okf K mg d_halved_flow ["web", "froms", "tos"] 5 (u3 (sp_shortest_flow K)) := ok_halved_flow (k := 3) E ((okk_are_ends E).mono (by decide)) ((okk_Rooms_init E).mono (by decide)) ((okk_first_bound E).mono (by decide)) ((okk_filled E).mono (by decide)) ((okk_Rooms_flow E).mono (by decide)) (pure_halved_flow)
theorem okk_rooms_of {K : PySem.W.Frag} {mg : Str → Option Value} (E : En K mg) : Okf K mg d_rooms_of ["web", "flow"] 4 (u2 (sp_rooms_of K)) := ok_rooms_of (k := 2) E ((okk_Rooms_init E).mono (by decide)) ((okk_Rooms_meet E).mono (by decide)) ((okk_Rooms_put E).mono (by decide)) ((okk_Rooms_parts E).mono (by decide)) (pure_rooms_of)
theorem okk_shortest_flow {K : PySem.W.Frag} {mg : Str → Option Value} (E : En K mg) : Okf K mg d_shortest_flow ["web", "froms", "tos"] 5 (u3 (sp_shortest_flow K)) := ok_shortest_flow (k := 4) E ((okk_are_ends E).mono (by decide)) ((okk_rooms_of E).mono (by decide)) ((okk_filled E).mono (by decide)) ((okk_Rooms_flow E).mono (by decide)) (pure_shortest_flow)
theorem okk_Heights_push {K : PySem.W.Frag} {mg : Str → Option Value} (E : En K mg) : Okf K mg d_Heights_push ["self", "place", "other", "number"] 2 (u4 (sp_Heights_push K)) := ok_Heights_push (k := 1) E ((okk_Rooms_put E).mono (by decide)) (pure_Heights_push E)
theorem okk_Heights_init {K : PySem.W.Frag} {mg : Str → Option Value} (E : En K mg) : Okf K mg d_Heights_init ["self", "rooms", "froms", "tos"] 3 (u4 (sp_Heights_init K)) := ok_Heights_init (k := 2) E ((okk_Heights_push E).mono (by decide)) ((okk_Rooms_spare E).mono (by decide)) (pure_Heights_init E)
theorem okk_Heights_waiting {K : PySem.W.Frag} {mg : Str → Option Value} (E : En K mg) : Okf K mg d_Heights_waiting ["self"] 1 (u1 (sp_Heights_waiting K)) := ok_Heights_waiting (k := 0) E  (pure_Heights_waiting E)
theorem okk_Heights_lift {K : PySem.W.Frag} {mg : Str → Option Value} (E : En K mg) : Okf K mg d_Heights_lift ["self", "place"] 2 (u2 (sp_Heights_lift K)) := ok_Heights_lift (k := 1) E ((okk_Rooms_spare E).mono (by decide)) (pure_Heights_lift E)
theorem okk_Heights_clear {K : PySem.W.Frag} {mg : Str → Option Value} (E : En K mg) : Okf K mg d_Heights_clear ["self", "place"] 3 (u2 (sp_Heights_clear K)) := ok_Heights_clear (k := 2) E ((okk_Rooms_spare E).mono (by decide)) ((okk_Heights_push E).mono (by decide)) ((okk_Heights_lift E).mono (by decide)) (pure_Heights_clear E)
theorem okk_pushed_flow {K : PySem.W.Frag} {mg : Str → Option Value} (E : En K mg) : Okf K mg d_pushed_flow ["web", "froms", "tos"] 5 (u3 (sp_pushed_flow K)) := ok_pushed_flow (k := 3) E ((okk_are_ends E).mono (by decide)) ((okk_rooms_of E).mono (by decide)) ((okk_Heights_init E).mono (by decide)) ((okk_Heights_waiting E).mono (by decide)) ((okk_Heights_clear E).mono (by decide)) ((okk_Rooms_flow E).mono (by decide)) (pure_pushed_flow)
theorem okk_law_are_rows {K : PySem.W.Frag} {mg : Str → Option Value} (E : En K mg) : Okf K mg d_law_are_rows ["_law_flow"] 1 (u1 (sp_law_are_rows K)) := ok_law_are_rows (k := 0) E  (pure_law_are_rows)
theorem okk_law_measure {K : PySem.W.Frag} {mg : Str → Option Value} (E : En K mg) : Okf K mg d_law_measure ["_law_flow"] 1 (u1 (sp_law_measure K)) := ok_law_measure (k := 0) E  (pure_law_measure)
theorem okk_law_worth {K : PySem.W.Frag} {mg : Str → Option Value} (E : En K mg) : Okf K mg d_law_worth ["_law_many", "_law_counted", "_law_ends_here", "_law_flow"] 2 (u4 (sp_law_worth K)) := ok_law_worth (k := 1) E ((okk_law_are_rows E).mono (by decide)) ((okk_law_measure E).mono (by decide)) (pure_law_worth)
theorem okk_ask_ends {K : PySem.W.Frag} {mg : Str → Option Value} (E : En K mg) : Okf K mg d_ask_ends ["web", "froms", "tos"] 4 (u3 (sp_ask_ends K)) := ok_ask_ends (k := 3) E ((okk_are_ends E).mono (by decide)) (pure_ask_ends)
theorem okk_is_side {K : PySem.W.Frag} {mg : Str → Option Value} (E : En K mg) : Okf K mg d_is_side ["web", "side"] 3 (u2 (sp_is_side K)) := ok_is_side (k := 2) E ((okk_are_rising E).mono (by decide)) (pure_is_side E)
theorem okk_is_between {K : PySem.W.Frag} {mg : Str → Option Value} (E : En K mg) : Okf K mg d_is_between ["froms", "tos", "side"] 1 (u3 (sp_is_between K)) := ok_is_between (k := 0) E  (pure_is_between)
theorem okk_is_flow_row {K : PySem.W.Frag} {mg : Str → Option Value} (E : En K mg) : Okf K mg d_is_flow_row ["many", "row"] 3 (u2 (sp_is_flow_row K)) := ok_is_flow_row (k := 2) E ((okk_is_row E).mono (by decide)) ((okk_is_whole E).mono (by decide)) ((okk_is_amount E).mono (by decide)) (pure_is_flow_row)
theorem okk_are_flow_rows {K : PySem.W.Frag} {mg : Str → Option Value} (E : En K mg) : Okf K mg d_are_flow_rows ["many", "flow"] 4 (u2 (sp_are_flow_rows K)) := ok_are_flow_rows (k := 3) E ((okk_is_row E).mono (by decide)) ((okk_is_flow_row E).mono (by decide)) (pure_are_flow_rows)
theorem okk_Web_tie {K : PySem.W.Frag} {mg : Str → Option Value} (E : En K mg) : Okf K mg d_Web_tie ["self", "i", "j"] 1 (u3 (sp_Web_tie K)) := ok_Web_tie (k := 0) E  (pure_Web_tie E)
theorem okk_is_below {K : PySem.W.Frag} {mg : Str → Option Value} (E : En K mg) : Okf K mg d_is_below ["one", "other"] 1 (u2 (sp_is_below K)) := ok_is_below (k := 0) E  (pure_is_below)
theorem okk_fits {K : PySem.W.Frag} {mg : Str → Option Value} (E : En K mg) : Okf K mg d_fits ["web", "flow"] 2 (u2 (sp_fits K)) := ok_fits (k := 1) E ((okk_Web_tie E).mono (by decide)) ((okk_is_below E).mono (by decide)) (pure_fits)
theorem okk_in_least_terms {K : PySem.W.Frag} {mg : Str → Option Value} (E : En K mg) : Okf K mg d_in_least_terms ["above", "below"] 2 (u2 sp_in_least_terms) := ok_in_least_terms (k := 1) E ((okk_divisor E).mono (by decide)) (pure_in_least_terms)
theorem okk_plus {K : PySem.W.Frag} {mg : Str → Option Value} (E : En K mg) : Okf K mg d_plus ["one", "other"] 3 (u2 (sp_plus K)) := ok_plus (k := 2) E ((okk_in_least_terms E).mono (by decide)) (pure_plus)
theorem okk_total {K : PySem.W.Frag} {mg : Str → Option Value} (E : En K mg) : Okf K mg d_total ["amounts"] 4 (u1 (sp_total K)) := ok_total (k := 3) E ((okk_plus E).mono (by decide)) (pure_total E)
theorem okk_going_out {K : PySem.W.Frag} {mg : Str → Option Value} (E : En K mg) : Okf K mg d_going_out ["flow", "places"] 5 (u2 (sp_going outOf K)) := ok_going_out (k := 4) E ((okk_total E).mono (by decide)) (pure_going_out)
theorem okk_coming_in {K : PySem.W.Frag} {mg : Str → Option Value} (E : En K mg) : Okf K mg d_coming_in ["flow", "places"] 5 (u2 (sp_going inTo K)) := ok_coming_in (k := 4) E ((okk_total E).mono (by decide)) (pure_coming_in)
theorem okk_is_balanced {K : PySem.W.Frag} {mg : Str → Option Value} (E : En K mg) : Okf K mg d_is_balanced ["many", "froms", "tos", "flow"] 6 (u4 (sp_is_balanced K)) := ok_is_balanced (k := 5) E ((okk_going_out E).mono (by decide)) ((okk_coming_in E).mono (by decide)) ((okk_is_below E).mono (by decide)) (pure_is_balanced)
theorem okk_is_flow {K : PySem.W.Frag} {mg : Str → Option Value} (E : En K mg) : Okf K mg d_is_flow ["web", "froms", "tos", "flow"] 7 (u4 (sp_is_flow K)) := ok_is_flow (k := 6) E ((okk_ask_ends E).mono (by decide)) ((okk_are_flow_rows E).mono (by decide)) ((okk_fits E).mono (by decide)) ((okk_is_balanced E).mono (by decide)) (pure_is_flow E)
theorem okk_less {K : PySem.W.Frag} {mg : Str → Option Value} (E : En K mg) : Okf K mg d_less ["one", "other"] 3 (u2 (sp_less K)) := ok_less (k := 2) E ((okk_is_below E).mono (by decide)) ((okk_in_least_terms E).mono (by decide)) (pure_less)
theorem okk_worth_of {K : PySem.W.Frag} {mg : Str → Option Value} (E : En K mg) : Okf K mg d_worth_of ["froms", "flow"] 6 (u2 (sp_worth_of K)) := ok_worth_of (k := 5) E ((okk_coming_in E).mono (by decide)) ((okk_going_out E).mono (by decide)) ((okk_less E).mono (by decide)) (pure_worth_of E)
theorem okk_weight_out {K : PySem.W.Frag} {mg : Str → Option Value} (E : En K mg) : Okf K mg d_weight_out ["web", "side"] 5 (u2 (sp_weight_out K)) := ok_weight_out (k := 4) E ((okk_total E).mono (by decide)) (pure_weight_out E)
theorem okk_is_least_cut {K : PySem.W.Frag} {mg : Str → Option Value} (E : En K mg) : Okf K mg d_is_least_cut ["web", "froms", "tos", "paper"] 8 (u4 (sp_is_least_cut K)) := ok_is_least_cut (k := 7) E ((okk_ask_ends E).mono (by decide)) ((okk_is_row E).mono (by decide)) ((okk_is_side E).mono (by decide)) ((okk_is_between E).mono (by decide)) ((okk_is_flow E).mono (by decide)) ((okk_worth_of E).mono (by decide)) ((okk_weight_out E).mono (by decide)) (pure_is_least_cut)
theorem okk_law_is_let_by {K : PySem.W.Frag} {mg : Str → Option Value} (E : En K mg) : Okf K mg d_law_is_let_by ["_law_web_here", "_law_ends_here", "_law_flow", "_law_told"] 9 (u4 (sp_law_is_let_by K)) := ok_law_is_let_by (k := 8) E ((okk_is_least_cut E).mono (by decide)) (pure_law_is_let_by)
theorem okk_law2 {K : PySem.W.Frag} {mg : Str → Option Value} (E : En K mg) : Okf2 K mg d_law ["_law_script"] 10 (u1 (sp_law K)) := ok_law2 (k := 8) E ((okk_law_draws E).mono (by decide)) ((okk_law_web E).mono (by decide)) ((okk_law_rows E).mono (by decide)) ((okk_Web_init E).mono (by decide)) ((okk_law_parts E).mono (by decide)) ((okk_law_ends E).mono (by decide)) ((okk_law_least_sides E).mono (by decide)) ((okk_halved_flow E).mono (by decide)) ((okk_shortest_flow E).mono (by decide)) ((okk_pushed_flow E).mono (by decide)) ((okk_law_sides_between E).mono (by decide)) ((okk_law_cell E).mono (by decide)) ((okk_law_worth E).mono (by decide)) ((okk_law_is_let_by E).mono (by decide)) (pure_law)
abbrev spLaw (K : PySem.W.Frag) : Sp := fun vs H Q _ => vs.length = 1 ∧ u1 (sp_law K) vs H Q
theorem facts {P : Program} {w : World} {K : PySem.W.Frag} {h h0 : Heap} {mg : Str → Option Value} {f : Addr} (X : K.In h) (G : h.Ns mainGlobals mg) (hfa : mg ("law" : Str) = some (.ref f)) (c : He.SaysX fa fn [] [] exN w h0 K) :
    ∃ fd : FuncData, (∀ (s : Shared) (v : Value), BindsTo s fd ⟨[v], []⟩ [("_law_script", v)]) ∧ ∀ base : Heap, K.In base → base.Ns mainGlobals mg → FnOk P w K mg base CX0 10 f fd ["_law_script"] (spLaw K) := by
  have E : En K mg := En.of X G c
  obtain ⟨fd, F, ok⟩ := okk_law2 E
  have e := hfa.symm.trans E.g_law
  cases e
  have b := FunD.bindsA (ps := ["_law_script"]) F fun _ _ _ _ _ _ us hl => match us, hl with | [_], _ => rfl
  exact ⟨fd, fun s v => b s [v] rfl, fun base _ _ => ok P w base⟩
end Cs
open PySem PySem.W PySem.Calls PyProof.Rows
set_option maxHeartbeats 0
theorem PySem.Challenge.cw_cutstree_k20_whole_flow_is_cut_holds : PySem.Challenge.rw_cutstree_k20_whole_flow_is_cut.Holds := by
  w_on; o_law
  refine HandSHeadRun.head_any (r := OpenLaw.row PySem.Challenge.rw_cutstree_k20_whole_flow_is_cut) (q := view (OpenLaw.row PySem.Challenge.rw_cutstree_k20_whole_flow_is_cut).prog [Cs.lawIx]) (H := Cs.hk) (ob := Cs.ob) (M := 4000) (loose := Cs.loose) (d := HandSHeadRun.topDef (OpenLaw.row PySem.Challenge.rw_cutstree_k20_whole_flow_is_cut).prog Cs.lawIx) (kwd := []) Cs.ob_eq
    (by kernel_rfl) (fun s => by kernel_rfl) Cs.run (by kernel_rfl) (by kernel_rfl) (by kernel_rfl) (by rfl) (by first | assumption | decide +kernel) (by decide +kernel) ⟨rfl, rfl, rfl, rfl, rfl, by decide +kernel⟩ ?hw ?hc
  case hw => w_witness2
  case hc =>
    refine L2.walk_ofE (l := PySem.Challenge.rw_cutstree_k20_whole_flow_is_cut) (n := 63) (k := 10) (x := "_law_script") (CX := L2.CX0) rfl (by decide) (by kernel_rfl) ⟨rfl, by decide, by decide⟩ ?F (fun _ _ _ _ z => z)
    intro w mg fa h Y G hmg0
    obtain ⟨K, KX, c⟩ := Y
    have hmg : mg ("law" : PySem.Str) = some (.ref fa) := by
      have e : (HandSHeadRun.topDef (OpenLaw.row PySem.Challenge.rw_cutstree_k20_whole_flow_is_cut).prog Cs.lawIx).name = ("law" : PySem.Str) := by kernel_rfl
      rw [← e]
      exact hmg0
    obtain ⟨fd, hb, hF⟩ := Cs.facts (P := (PySem.Challenge.rw_cutstree_k20_whole_flow_is_cut).prog) (w := w) KX G hmg c
    exact ⟨K, fd, Cs.spLaw K, KX, hb, fun H a ns hl _ hS => ⟨rfl, _, rfl, a, ns, rfl, hS, fun _ => rfl⟩, hF⟩

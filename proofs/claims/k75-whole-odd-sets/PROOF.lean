import PyProof.Rows.All
import Wide.All
import OpenK.AllK
import Wide.FinOn
import KE.KStateDown
import Lean
import HandS.ForMost
import HandS.ForExc
import HandS.Defaults
import HandS.Head0
import HandS.Head1
import HandS.Head2
import HandS.HeadEnd
import HandS.HeadHook1
import HandS.HeadHook2
import HandS.IsInst
import HandS.ExcIs
import PySem.Challenge.RW_cherrystone_k75_whole_odd_sets_or_papers
import HandS.Strs
import HandS.SetKeys
import HandS.Style
import HandS.TupLe
import HandS.SortInts
import HandS.SortRule
import HandS.Conv
import HandS.DictTup
import HandS.More
import HandS.SetFor
import KE.DatumOrd
import HandS.WordsExc
import HandS.ExcOwn
import HandS.HotCalls
import HandS.ExcCtx
set_option Elab.async false
set_option linter.all false
set_option maxRecDepth 100000
set_option maxHeartbeats 2000000
namespace G3
open PySem PySem.Spec PyProof.Rows L2
/-! ### the text: where each def stands -/
def top (i : Nat) : Stmt := PySem.Challenge.pw_cherrystone_k75_whole_odd_sets_or_papers.main.body.getD i (.Pass ⟨0, 0, 0, 0⟩)
abbrev s_is_integer : Stmt := top 8
abbrev s_is_index : Stmt := top 9
abbrev s_is_rising : Stmt := top 10
abbrev s_check_edges : Stmt := top 11
abbrev s_Graph_init : Stmt := inClass (top 12) 0
abbrev s_Graph_neighbours : Stmt := inClass (top 12) 3
abbrev s_Graph_induced : Stmt := inClass (top 12) 6
abbrev s_Graph_without : Stmt := inClass (top 12) 7
abbrev s_is_list : Stmt := top 13
abbrev s_check_node : Stmt := top 14
abbrev s_check_list : Stmt := top 15
abbrev s_make_graph : Stmt := top 16
abbrev s_is_path : Stmt := top 17
abbrev s_reached : Stmt := top 18
abbrev s_parts_without : Stmt := top 19
abbrev s_components : Stmt := top 20
abbrev s_search : Stmt := top 21
abbrev s_trail : Stmt := top 22
abbrev s_round_trip : Stmt := top 23
abbrev s_two_colours : Stmt := top 24
abbrev s_arcs_of : Stmt := top 26
abbrev s_found_from : Stmt := top 27
abbrev s_push : Stmt := top 28
abbrev s_greatest_flow : Stmt := top 29
abbrev s_used : Stmt := top 30
abbrev s_walk : Stmt := top 31
abbrev s_shortened : Stmt := top 32
abbrev s_ways_of : Stmt := top 33
abbrev s_near_cut : Stmt := top 34
abbrev s_disjoint_ways : Stmt := top 36
abbrev s_is_way : Stmt := top 37
abbrev s_are_ways : Stmt := top 38
abbrev s_is_odd_set : Stmt := top 42
abbrev s_colours_without : Stmt := top 43
abbrev s_splits_of : Stmt := top 44
abbrev s_fits : Stmt := top 45
abbrev s_sides : Stmt := top 46
abbrev s_graph_outside : Stmt := top 47
abbrev s_is_small : Stmt := top 48
abbrev s_fewer_odd : Stmt := top 49
abbrev s_refuses_odd : Stmt := top 50
abbrev s_law_mixed : Stmt := top 52
abbrev s_law_numbers : Stmt := top 53
abbrev s_law_draw : Stmt := top 54
abbrev s_law_equal : Stmt := top 55
abbrev s_law_all_equal : Stmt := top 56
abbrev s_law_pairs : Stmt := top 57
abbrev s_law_order : Stmt := top 58
abbrev s_law_edges : Stmt := top 59
abbrev s_law_near : Stmt := top 60
abbrev s_law_is_nodes : Stmt := top 61
abbrev s_law_is_path : Stmt := top 62
abbrev s_law_are_ways : Stmt := top 63
abbrev s_law_two : Stmt := top 64
abbrev s_law_subsets_of : Stmt := top 65
abbrev s_law_without : Stmt := top 66
abbrev s_law_least_odd : Stmt := top 67
abbrev s_law_splits : Stmt := top 68
abbrev s_law_is_right : Stmt := top 69
abbrev s_law_sides : Stmt := top 70
abbrev s_law_are_rows : Stmt := top 71
abbrev s_law_refuses : Stmt := top 72
abbrev s_law_same : Stmt := top 73
abbrev s_law_told_right : Stmt := top 74
abbrev s_law_asked : Stmt := top 75
abbrev s_law_rings : Stmt := top 76
abbrev s_law : Stmt := top 77
def d_is_integer : He.DefD := ⟨("is_integer", none), "is_integer", "is_integer", defArgs s_is_integer, defBody s_is_integer, defScope s_is_integer, [], []⟩
def d_is_index : He.DefD := ⟨("is_index", none), "is_index", "is_index", defArgs s_is_index, defBody s_is_index, defScope s_is_index, [], []⟩
def d_is_rising : He.DefD := ⟨("is_rising", none), "is_rising", "is_rising", defArgs s_is_rising, defBody s_is_rising, defScope s_is_rising, [], []⟩
def d_check_edges : He.DefD := ⟨("check_edges", none), "check_edges", "check_edges", defArgs s_check_edges, defBody s_check_edges, defScope s_check_edges, [], []⟩
def d_Graph_init : He.DefD := ⟨("Graph", some "__init__"), "__init__", "Graph.__init__", defArgs s_Graph_init, defBody s_Graph_init, defScope s_Graph_init, [], []⟩
def d_Graph_neighbours : He.DefD := ⟨("Graph", some "neighbours"), "neighbours", "Graph.neighbours", defArgs s_Graph_neighbours, defBody s_Graph_neighbours, defScope s_Graph_neighbours, [], []⟩
def d_Graph_induced : He.DefD := ⟨("Graph", some "induced"), "induced", "Graph.induced", defArgs s_Graph_induced, defBody s_Graph_induced, defScope s_Graph_induced, [], []⟩
def d_Graph_without : He.DefD := ⟨("Graph", some "without"), "without", "Graph.without", defArgs s_Graph_without, defBody s_Graph_without, defScope s_Graph_without, [], []⟩
def d_is_list : He.DefD := ⟨("is_list", none), "is_list", "is_list", defArgs s_is_list, defBody s_is_list, defScope s_is_list, [], []⟩
def d_check_node : He.DefD := ⟨("check_node", none), "check_node", "check_node", defArgs s_check_node, defBody s_check_node, defScope s_check_node, [], []⟩
def d_check_list : He.DefD := ⟨("check_list", none), "check_list", "check_list", defArgs s_check_list, defBody s_check_list, defScope s_check_list, [], []⟩
def d_make_graph : He.DefD := ⟨("make_graph", none), "make_graph", "make_graph", defArgs s_make_graph, defBody s_make_graph, defScope s_make_graph, [], []⟩
def d_is_path : He.DefD := ⟨("is_path", none), "is_path", "is_path", defArgs s_is_path, defBody s_is_path, defScope s_is_path, [], []⟩
def d_reached : He.DefD := ⟨("reached", none), "reached", "reached", defArgs s_reached, defBody s_reached, defScope s_reached, [], []⟩
def d_parts_without : He.DefD := ⟨("parts_without", none), "parts_without", "parts_without", defArgs s_parts_without, defBody s_parts_without, defScope s_parts_without, [], []⟩
def d_components : He.DefD := ⟨("components", none), "components", "components", defArgs s_components, defBody s_components, defScope s_components, [], []⟩
def d_search : He.DefD := ⟨("search", none), "search", "search", defArgs s_search, defBody s_search, defScope s_search, [], []⟩
def d_trail : He.DefD := ⟨("trail", none), "trail", "trail", defArgs s_trail, defBody s_trail, defScope s_trail, [], []⟩
def d_round_trip : He.DefD := ⟨("round_trip", none), "round_trip", "round_trip", defArgs s_round_trip, defBody s_round_trip, defScope s_round_trip, [], []⟩
def d_two_colours : He.DefD := ⟨("two_colours", none), "two_colours", "two_colours", defArgs s_two_colours, defBody s_two_colours, defScope s_two_colours, [], []⟩
def d_arcs_of : He.DefD := ⟨("arcs_of", none), "arcs_of", "arcs_of", defArgs s_arcs_of, defBody s_arcs_of, defScope s_arcs_of, [], []⟩
def d_found_from : He.DefD := ⟨("found_from", none), "found_from", "found_from", defArgs s_found_from, defBody s_found_from, defScope s_found_from, [], []⟩
def d_push : He.DefD := ⟨("push", none), "push", "push", defArgs s_push, defBody s_push, defScope s_push, [], []⟩
def d_greatest_flow : He.DefD := ⟨("greatest_flow", none), "greatest_flow", "greatest_flow", defArgs s_greatest_flow, defBody s_greatest_flow, defScope s_greatest_flow, [], []⟩
def d_used : He.DefD := ⟨("used", none), "used", "used", defArgs s_used, defBody s_used, defScope s_used, [], []⟩
def d_walk : He.DefD := ⟨("walk", none), "walk", "walk", defArgs s_walk, defBody s_walk, defScope s_walk, [], []⟩
def d_shortened : He.DefD := ⟨("shortened", none), "shortened", "shortened", defArgs s_shortened, defBody s_shortened, defScope s_shortened, [], []⟩
def d_ways_of : He.DefD := ⟨("ways_of", none), "ways_of", "ways_of", defArgs s_ways_of, defBody s_ways_of, defScope s_ways_of, [], []⟩
def d_near_cut : He.DefD := ⟨("near_cut", none), "near_cut", "near_cut", defArgs s_near_cut, defBody s_near_cut, defScope s_near_cut, [], []⟩
def d_disjoint_ways : He.DefD := ⟨("disjoint_ways", none), "disjoint_ways", "disjoint_ways", defArgs s_disjoint_ways, defBody s_disjoint_ways, defScope s_disjoint_ways, [], []⟩
def d_is_way : He.DefD := ⟨("is_way", none), "is_way", "is_way", defArgs s_is_way, defBody s_is_way, defScope s_is_way, [], []⟩
def d_are_ways : He.DefD := ⟨("are_ways", none), "are_ways", "are_ways", defArgs s_are_ways, defBody s_are_ways, defScope s_are_ways, [], []⟩
def d_is_odd_set : He.DefD := ⟨("is_odd_set", none), "is_odd_set", "is_odd_set", defArgs s_is_odd_set, defBody s_is_odd_set, defScope s_is_odd_set, [], []⟩
def d_colours_without : He.DefD := ⟨("colours_without", none), "colours_without", "colours_without", defArgs s_colours_without, defBody s_colours_without, defScope s_colours_without, [], []⟩
def d_splits_of : He.DefD := ⟨("splits_of", none), "splits_of", "splits_of", defArgs s_splits_of, defBody s_splits_of, defScope s_splits_of, [], []⟩
def d_fits : He.DefD := ⟨("fits", none), "fits", "fits", defArgs s_fits, defBody s_fits, defScope s_fits, [], []⟩
def d_sides : He.DefD := ⟨("sides", none), "sides", "sides", defArgs s_sides, defBody s_sides, defScope s_sides, [], []⟩
def d_graph_outside : He.DefD := ⟨("graph_outside", none), "graph_outside", "graph_outside", defArgs s_graph_outside, defBody s_graph_outside, defScope s_graph_outside, [], []⟩
def d_is_small : He.DefD := ⟨("is_small", none), "is_small", "is_small", defArgs s_is_small, defBody s_is_small, defScope s_is_small, [], []⟩
def d_fewer_odd : He.DefD := ⟨("fewer_odd", none), "fewer_odd", "fewer_odd", defArgs s_fewer_odd, defBody s_fewer_odd, defScope s_fewer_odd, [], []⟩
def d_refuses_odd : He.DefD := ⟨("refuses_odd", none), "refuses_odd", "refuses_odd", defArgs s_refuses_odd, defBody s_refuses_odd, defScope s_refuses_odd, [], []⟩
def d_law_mixed : He.DefD := ⟨("_law_mixed", none), "_law_mixed", "_law_mixed", defArgs s_law_mixed, defBody s_law_mixed, defScope s_law_mixed, [], []⟩
def d_law_numbers : He.DefD := ⟨("_law_numbers", none), "_law_numbers", "_law_numbers", defArgs s_law_numbers, defBody s_law_numbers, defScope s_law_numbers, [], []⟩
def d_law_draw : He.DefD := ⟨("_law_draw", none), "_law_draw", "_law_draw", defArgs s_law_draw, defBody s_law_draw, defScope s_law_draw, [], []⟩
def d_law_equal : He.DefD := ⟨("_law_equal", none), "_law_equal", "_law_equal", defArgs s_law_equal, defBody s_law_equal, defScope s_law_equal, [], []⟩
def d_law_all_equal : He.DefD := ⟨("_law_all_equal", none), "_law_all_equal", "_law_all_equal", defArgs s_law_all_equal, defBody s_law_all_equal, defScope s_law_all_equal, [], []⟩
def d_law_pairs : He.DefD := ⟨("_law_pairs", none), "_law_pairs", "_law_pairs", defArgs s_law_pairs, defBody s_law_pairs, defScope s_law_pairs, [], []⟩
def d_law_order : He.DefD := ⟨("_law_order", none), "_law_order", "_law_order", defArgs s_law_order, defBody s_law_order, defScope s_law_order, [], []⟩
def d_law_edges : He.DefD := ⟨("_law_edges", none), "_law_edges", "_law_edges", defArgs s_law_edges, defBody s_law_edges, defScope s_law_edges, [], []⟩
def d_law_near : He.DefD := ⟨("_law_near", none), "_law_near", "_law_near", defArgs s_law_near, defBody s_law_near, defScope s_law_near, [], []⟩
def d_law_is_nodes : He.DefD := ⟨("_law_is_nodes", none), "_law_is_nodes", "_law_is_nodes", defArgs s_law_is_nodes, defBody s_law_is_nodes, defScope s_law_is_nodes, [], []⟩
def d_law_is_path : He.DefD := ⟨("_law_is_path", none), "_law_is_path", "_law_is_path", defArgs s_law_is_path, defBody s_law_is_path, defScope s_law_is_path, [], []⟩
def d_law_are_ways : He.DefD := ⟨("_law_are_ways", none), "_law_are_ways", "_law_are_ways", defArgs s_law_are_ways, defBody s_law_are_ways, defScope s_law_are_ways, [], []⟩
def d_law_two : He.DefD := ⟨("_law_two", none), "_law_two", "_law_two", defArgs s_law_two, defBody s_law_two, defScope s_law_two, [], []⟩
def d_law_subsets_of : He.DefD := ⟨("_law_subsets_of", none), "_law_subsets_of", "_law_subsets_of", defArgs s_law_subsets_of, defBody s_law_subsets_of, defScope s_law_subsets_of, [], []⟩
def d_law_without : He.DefD := ⟨("_law_without", none), "_law_without", "_law_without", defArgs s_law_without, defBody s_law_without, defScope s_law_without, [], []⟩
def d_law_least_odd : He.DefD := ⟨("_law_least_odd", none), "_law_least_odd", "_law_least_odd", defArgs s_law_least_odd, defBody s_law_least_odd, defScope s_law_least_odd, [], []⟩
def d_law_splits : He.DefD := ⟨("_law_splits", none), "_law_splits", "_law_splits", defArgs s_law_splits, defBody s_law_splits, defScope s_law_splits, [], []⟩
def d_law_is_right : He.DefD := ⟨("_law_is_right", none), "_law_is_right", "_law_is_right", defArgs s_law_is_right, defBody s_law_is_right, defScope s_law_is_right, [], []⟩
def d_law_sides : He.DefD := ⟨("_law_sides", none), "_law_sides", "_law_sides", defArgs s_law_sides, defBody s_law_sides, defScope s_law_sides, [], []⟩
def d_law_are_rows : He.DefD := ⟨("_law_are_rows", none), "_law_are_rows", "_law_are_rows", defArgs s_law_are_rows, defBody s_law_are_rows, defScope s_law_are_rows, [], []⟩
def d_law_refuses : He.DefD := ⟨("_law_refuses", none), "_law_refuses", "_law_refuses", defArgs s_law_refuses, defBody s_law_refuses, defScope s_law_refuses, [], []⟩
def d_law_same : He.DefD := ⟨("_law_same", none), "_law_same", "_law_same", defArgs s_law_same, defBody s_law_same, defScope s_law_same, [], []⟩
def d_law_told_right : He.DefD := ⟨("_law_told_right", none), "_law_told_right", "_law_told_right", defArgs s_law_told_right, defBody s_law_told_right, defScope s_law_told_right, [], []⟩
def d_law_asked : He.DefD := ⟨("_law_asked", none), "_law_asked", "_law_asked", defArgs s_law_asked, defBody s_law_asked, defScope s_law_asked, [], []⟩
def d_law_rings : He.DefD := ⟨("_law_rings", none), "_law_rings", "_law_rings", defArgs s_law_rings, defBody s_law_rings, defScope s_law_rings, [], []⟩
def d_law : He.DefD := ⟨("law", none), "law", "law", defArgs s_law, defBody s_law, defScope s_law, [], []⟩
def fn : List He.DefD := [d_is_integer, d_is_index, d_is_rising, d_check_edges, d_Graph_init, d_Graph_neighbours, d_Graph_induced, d_Graph_without, d_is_list, d_check_node, d_check_list, d_make_graph, d_is_path, d_reached, d_parts_without, d_components, d_search, d_trail, d_round_trip, d_two_colours, d_arcs_of, d_found_from, d_push, d_greatest_flow, d_used, d_walk, d_shortened, d_ways_of, d_near_cut, d_disjoint_ways, d_is_way, d_are_ways, d_is_odd_set, d_colours_without, d_splits_of] ++ [d_fits, d_sides, d_graph_outside, d_is_small, d_fewer_odd, d_refuses_odd, d_law_mixed, d_law_numbers, d_law_draw, d_law_equal, d_law_all_equal, d_law_pairs, d_law_order, d_law_edges, d_law_near, d_law_is_nodes, d_law_is_path, d_law_are_ways, d_law_two, d_law_subsets_of, d_law_without, d_law_least_odd, d_law_splits, d_law_is_right, d_law_sides, d_law_are_rows, d_law_refuses, d_law_same, d_law_told_right, d_law_asked, d_law_rings, d_law]
def fa0 : List He.Fa := [.glo "is_integer", .glo "is_index", .glo "is_rising", .glo "check_edges", .glo "is_list", .glo "check_node", .glo "check_list", .glo "make_graph", .glo "is_path", .glo "reached", .glo "parts_without", .glo "components", .glo "search", .glo "trail", .glo "round_trip", .glo "two_colours", .glo "arcs_of", .glo "found_from", .glo "push", .glo "greatest_flow", .glo "used", .glo "walk", .glo "shortened", .glo "ways_of", .glo "near_cut", .glo "disjoint_ways", .glo "is_way", .glo "are_ways", .glo "is_odd_set", .glo "colours_without"]
def fa1 : List He.Fa := [.glo "splits_of", .glo "fits", .glo "sides", .glo "graph_outside", .glo "is_small", .glo "fewer_odd", .glo "refuses_odd", .glo "_law_mixed", .glo "_law_numbers", .glo "_law_draw", .glo "_law_equal", .glo "_law_all_equal", .glo "_law_pairs", .glo "_law_order", .glo "_law_edges", .glo "_law_near", .glo "_law_is_nodes", .glo "_law_is_path", .glo "_law_are_ways", .glo "_law_two", .glo "_law_subsets_of", .glo "_law_without", .glo "_law_least_odd", .glo "_law_splits", .glo "_law_is_right", .glo "_law_sides", .glo "_law_are_rows", .glo "_law_refuses", .glo "_law_same", .glo "_law_told_right"]
def fa2 : List He.Fa := [.glo "_law_asked", .glo "_law_rings", .glo "law", .glo "CherrystoneError", .glo "BadGraph", .glo "BadArgument", .glo "TooLarge", .glo "Graph", .glo "LETTERS", .free "len", .free "range", .free "isinstance", .free "int", .free "bool", .free "list", .free "tuple", .free "str", .free "set", .free "sorted", .free "min", .free "max", .free "sum", .free "enumerate", .free "zip", .int "MOST" 40, .int "SMALL" 5, .cls "Graph", .mkr "Graph", .noat "Graph" "nodes", .noat "Graph" "edges"]
def fa3 : List He.Fa := [.noat "Graph" "links", .meth "Graph" "neighbours", .meth "Graph" "induced", .meth "Graph" "without", .exc "BadArgument", .exc "BadGraph", .exm "BadArgument" "BadArgument" true]
def fa : List He.Fa := fa0 ++ fa1 ++ fa2 ++ fa3
def loose0 : List Str := ["_wall", "CherrystoneError", "BadGraph", "BadArgument", "TooLarge", "MOST", "is_integer", "is_index", "is_rising", "check_edges", "Graph", "is_list", "check_node", "check_list", "make_graph", "is_path", "reached", "parts_without", "components", "search", "trail", "round_trip", "two_colours", "arcs_of", "found_from", "push", "greatest_flow", "used", "walk", "shortened"]
def loose1 : List Str := ["ways_of", "near_cut", "disjoint_ways", "is_way", "are_ways", "SMALL", "LETTERS", "is_odd_set", "colours_without", "splits_of", "fits", "sides", "graph_outside", "is_small", "fewer_odd", "refuses_odd", "_law_mixed", "_law_numbers", "_law_draw", "_law_equal", "_law_all_equal", "_law_pairs", "_law_order", "_law_edges", "_law_near", "_law_is_nodes", "_law_is_path", "_law_are_ways", "_law_two", "_law_subsets_of"]
def loose2 : List Str := ["_law_without", "_law_least_odd", "_law_splits", "_law_is_right", "_law_sides", "_law_are_rows", "_law_refuses", "_law_same", "_law_told_right", "_law_asked", "_law_rings"]
def loose : List Str := loose0 ++ loose1 ++ loose2
def iLaw : Nat := 77
end G3

set_option maxHeartbeats 0
namespace G3
open PySem PySem.Spec PyProof.Rows L2
/-! ### the head: one kernel run of the top; what is asked of it -/
abbrev AlY : Type := He.AlD × Bool
def obsY (n : Nat) (fa : List He.Fa) (fn : List He.DefD) (ex : PySem.W.Frag → Bool) (g : Addr → Option Obj) : AlY := (He.obsD fa fn (He.frG g (He.asD g n)), ex (He.frG g (He.asD g n)))
def hookY (n : Nat) (fa : List He.Fa) (fn : List He.DefD) (ex : PySem.W.Frag → Bool) : PySem.W.Hook where
  α := AlY
  obs := fun s => obsY n fa fn ex s.heap.get?
  val := fun _ => (He.valD fn, true)
  says := fun _ h => ∃ K : PySem.W.Frag, K.In h ∧ He.SaysD fa fn K ∧ ex K = true
  of := fun _ _ e => ⟨_, He.frG_in, congrArg (fun z : AlY => z.1) e, congrArg (fun z : AlY => z.2) e⟩
  keeps := fun _ _ _ ⟨K, hK, c⟩ k => ⟨K, PySem.W.Frag.In.keeps hK k, c⟩
theorem obsY_eq {n : Nat} {fa : List He.Fa} {fn : List He.DefD} {ex : PySem.W.Frag → Bool} {g : Addr → Option Obj} {s : Shared} (h : ∀ a, g a = s.heap.get? a) : obsY n fa fn ex g = (hookY n fa fn ex).obs s := by
  have e : g = s.heap.get? := funext h
  rw [e] <;> rfl
/-- what more is asked: LETTERS, the error's class for isinstance -/
def excB (K : PySem.W.Frag) (D : Addr) : Bool :=
  decide (PySem.W.findIn K (.ref D) "__getattribute__" = some (some (.builtin "BaseException.__getattribute__"))) && (decide (PySem.W.findIn K (.ref D) "__getattr__" = some none) && (decide (PySem.W.subIn K (.ref D) (.type "BaseException") = some true) && (PySem.W.hasDictIn K D && (decide (PySem.W.findIn K (.ref D) "__class__" = some (some (.builtin "object.__class__"))) &&
  (decide (PySem.W.specialIn K (.builtin "object.__class__") "__get__" = some (some (.builtin "getset_descriptor.__get__"))) && (decide (PySem.W.takesIn K (.builtin "object.__class__") = some true) && decide (PySem.W.mroIn K D (.type "object") = some true)))))))
def ex (K : PySem.W.Frag) : Bool := He.lstB K "LETTERS" [.str "-", .str "0", .str "1"] && (excB K (He.ga K "BadArgument") && decide (PySem.W.kitOne K (.ref (He.ga K "BadArgument")) (.ref (He.ga K "TooLarge")) = some false))
abbrev R : PySem.W.OpenRow := PySem.W.OpenLaw.row PySem.Challenge.rw_cherrystone_k75_whole_odd_sets_or_papers
abbrev hk : PySem.W.Hook := hookY 4 fa fn ex
def ob (s : PySem.W.SharedT) : AlY := obsY 4 fa fn ex (HandSHeadRun.getT s)
theorem ob_eq (s : PySem.W.SharedT) : ob s = hk.obs s.abs := obsY_eq (HandSHeadRun.getT_eq s)
theorem run (w : World) : HandSHeadRun.RunEq R (PySem.W.view R.prog [iLaw]) hk ob 4000 loose w := by
  intro os
  kernel_rfl
end G3

set_option maxHeartbeats 2000000
/-! ### what the head has told -/
namespace G3
open PySem PySem.Spec PyProof.Rows L2
structure Hd (K : PySem.W.Frag) (mg : Str → Option Value) : Prop where
  heap : ∃ h : Heap, K.In h ∧ h.Ns mainGlobals mg
  says : He.SaysD fa fn K
  more : G3.ex K = true
theorem Hd.fact {K : PySem.W.Frag} {mg : Str → Option Value} (W : Hd K mg) (i : Nat) {f : He.Fa} (h : fa[i]? = some f := by rfl) : f.ok K = true := W.says.fact i h
theorem Hd.glo {K : PySem.W.Frag} {mg : Str → Option Value} (W : Hd K mg) {x : Str} (i : Nat) (h : fa[i]? = some (.glo x) := by rfl) : mg x = some (.ref (He.ga K x)) := let ⟨_, X, Gn⟩ := W.heap; He.glo_ok X Gn (W.fact i h)
theorem Hd.free {K : PySem.W.Frag} {mg : Str → Option Value} (W : Hd K mg) {x : Str} (i : Nat) (h : fa[i]? = some (.free x) := by rfl) : mg x = none := let ⟨_, X, Gn⟩ := W.heap; He.free_ok X Gn (W.fact i h)
theorem Hd.int {K : PySem.W.Frag} {mg : Str → Option Value} (W : Hd K mg) {x : Str} {n : Int} (i : Nat) (h : fa[i]? = some (.int x n) := by rfl) : ∃ t, mg x = some (.int n t) := let ⟨_, X, Gn⟩ := W.heap; He.int_ok X Gn (W.fact i h)
theorem Hd.dfn {K : PySem.W.Frag} {mg : Str → Option Value} (W : Hd K mg) (i : Nat) {d : He.DefD} (h : fn[i]? = some d := by rfl) : ∃ fd, FunD K d.name d.qual d.params d.body d.scope (d.dvs K) (d.kws K) (He.fAd K d.at_) fd := W.says.def_ i h
/-! ### the head's facts by name -/
section
variable {K : PySem.W.Frag} {mg : Str → Option Value}
theorem Hd.mg_is_integer (W : Hd K mg) : mg "is_integer" = some (.ref (He.ga K "is_integer")) := W.glo 0 rfl
theorem Hd.mg_is_index (W : Hd K mg) : mg "is_index" = some (.ref (He.ga K "is_index")) := W.glo 1 rfl
theorem Hd.mg_is_rising (W : Hd K mg) : mg "is_rising" = some (.ref (He.ga K "is_rising")) := W.glo 2 rfl
theorem Hd.mg_check_edges (W : Hd K mg) : mg "check_edges" = some (.ref (He.ga K "check_edges")) := W.glo 3 rfl
theorem Hd.mg_is_list (W : Hd K mg) : mg "is_list" = some (.ref (He.ga K "is_list")) := W.glo 4 rfl
theorem Hd.mg_check_node (W : Hd K mg) : mg "check_node" = some (.ref (He.ga K "check_node")) := W.glo 5 rfl
theorem Hd.mg_check_list (W : Hd K mg) : mg "check_list" = some (.ref (He.ga K "check_list")) := W.glo 6 rfl
theorem Hd.mg_make_graph (W : Hd K mg) : mg "make_graph" = some (.ref (He.ga K "make_graph")) := W.glo 7 rfl
theorem Hd.mg_is_path (W : Hd K mg) : mg "is_path" = some (.ref (He.ga K "is_path")) := W.glo 8 rfl
theorem Hd.mg_reached (W : Hd K mg) : mg "reached" = some (.ref (He.ga K "reached")) := W.glo 9 rfl
theorem Hd.mg_parts_without (W : Hd K mg) : mg "parts_without" = some (.ref (He.ga K "parts_without")) := W.glo 10 rfl
theorem Hd.mg_components (W : Hd K mg) : mg "components" = some (.ref (He.ga K "components")) := W.glo 11 rfl
theorem Hd.mg_search (W : Hd K mg) : mg "search" = some (.ref (He.ga K "search")) := W.glo 12 rfl
theorem Hd.mg_trail (W : Hd K mg) : mg "trail" = some (.ref (He.ga K "trail")) := W.glo 13 rfl
theorem Hd.mg_round_trip (W : Hd K mg) : mg "round_trip" = some (.ref (He.ga K "round_trip")) := W.glo 14 rfl
theorem Hd.mg_two_colours (W : Hd K mg) : mg "two_colours" = some (.ref (He.ga K "two_colours")) := W.glo 15 rfl
theorem Hd.mg_arcs_of (W : Hd K mg) : mg "arcs_of" = some (.ref (He.ga K "arcs_of")) := W.glo 16 rfl
theorem Hd.mg_found_from (W : Hd K mg) : mg "found_from" = some (.ref (He.ga K "found_from")) := W.glo 17 rfl
theorem Hd.mg_push (W : Hd K mg) : mg "push" = some (.ref (He.ga K "push")) := W.glo 18 rfl
theorem Hd.mg_greatest_flow (W : Hd K mg) : mg "greatest_flow" = some (.ref (He.ga K "greatest_flow")) := W.glo 19 rfl
theorem Hd.mg_used (W : Hd K mg) : mg "used" = some (.ref (He.ga K "used")) := W.glo 20 rfl
theorem Hd.mg_walk (W : Hd K mg) : mg "walk" = some (.ref (He.ga K "walk")) := W.glo 21 rfl
theorem Hd.mg_shortened (W : Hd K mg) : mg "shortened" = some (.ref (He.ga K "shortened")) := W.glo 22 rfl
theorem Hd.mg_ways_of (W : Hd K mg) : mg "ways_of" = some (.ref (He.ga K "ways_of")) := W.glo 23 rfl
theorem Hd.mg_near_cut (W : Hd K mg) : mg "near_cut" = some (.ref (He.ga K "near_cut")) := W.glo 24 rfl
theorem Hd.mg_disjoint_ways (W : Hd K mg) : mg "disjoint_ways" = some (.ref (He.ga K "disjoint_ways")) := W.glo 25 rfl
theorem Hd.mg_is_way (W : Hd K mg) : mg "is_way" = some (.ref (He.ga K "is_way")) := W.glo 26 rfl
theorem Hd.mg_are_ways (W : Hd K mg) : mg "are_ways" = some (.ref (He.ga K "are_ways")) := W.glo 27 rfl
theorem Hd.mg_is_odd_set (W : Hd K mg) : mg "is_odd_set" = some (.ref (He.ga K "is_odd_set")) := W.glo 28 rfl
theorem Hd.mg_colours_without (W : Hd K mg) : mg "colours_without" = some (.ref (He.ga K "colours_without")) := W.glo 29 rfl
theorem Hd.mg_splits_of (W : Hd K mg) : mg "splits_of" = some (.ref (He.ga K "splits_of")) := W.glo 30 rfl
theorem Hd.mg_fits (W : Hd K mg) : mg "fits" = some (.ref (He.ga K "fits")) := W.glo 31 rfl
theorem Hd.mg_sides (W : Hd K mg) : mg "sides" = some (.ref (He.ga K "sides")) := W.glo 32 rfl
theorem Hd.mg_graph_outside (W : Hd K mg) : mg "graph_outside" = some (.ref (He.ga K "graph_outside")) := W.glo 33 rfl
theorem Hd.mg_is_small (W : Hd K mg) : mg "is_small" = some (.ref (He.ga K "is_small")) := W.glo 34 rfl
theorem Hd.mg_fewer_odd (W : Hd K mg) : mg "fewer_odd" = some (.ref (He.ga K "fewer_odd")) := W.glo 35 rfl
theorem Hd.mg_refuses_odd (W : Hd K mg) : mg "refuses_odd" = some (.ref (He.ga K "refuses_odd")) := W.glo 36 rfl
theorem Hd.mg_law_mixed (W : Hd K mg) : mg "_law_mixed" = some (.ref (He.ga K "_law_mixed")) := W.glo 37 rfl
theorem Hd.mg_law_numbers (W : Hd K mg) : mg "_law_numbers" = some (.ref (He.ga K "_law_numbers")) := W.glo 38 rfl
theorem Hd.mg_law_draw (W : Hd K mg) : mg "_law_draw" = some (.ref (He.ga K "_law_draw")) := W.glo 39 rfl
theorem Hd.mg_law_equal (W : Hd K mg) : mg "_law_equal" = some (.ref (He.ga K "_law_equal")) := W.glo 40 rfl
theorem Hd.mg_law_all_equal (W : Hd K mg) : mg "_law_all_equal" = some (.ref (He.ga K "_law_all_equal")) := W.glo 41 rfl
theorem Hd.mg_law_pairs (W : Hd K mg) : mg "_law_pairs" = some (.ref (He.ga K "_law_pairs")) := W.glo 42 rfl
theorem Hd.mg_law_order (W : Hd K mg) : mg "_law_order" = some (.ref (He.ga K "_law_order")) := W.glo 43 rfl
theorem Hd.mg_law_edges (W : Hd K mg) : mg "_law_edges" = some (.ref (He.ga K "_law_edges")) := W.glo 44 rfl
theorem Hd.mg_law_near (W : Hd K mg) : mg "_law_near" = some (.ref (He.ga K "_law_near")) := W.glo 45 rfl
theorem Hd.mg_law_is_nodes (W : Hd K mg) : mg "_law_is_nodes" = some (.ref (He.ga K "_law_is_nodes")) := W.glo 46 rfl
theorem Hd.mg_law_is_path (W : Hd K mg) : mg "_law_is_path" = some (.ref (He.ga K "_law_is_path")) := W.glo 47 rfl
theorem Hd.mg_law_are_ways (W : Hd K mg) : mg "_law_are_ways" = some (.ref (He.ga K "_law_are_ways")) := W.glo 48 rfl
theorem Hd.mg_law_two (W : Hd K mg) : mg "_law_two" = some (.ref (He.ga K "_law_two")) := W.glo 49 rfl
theorem Hd.mg_law_subsets_of (W : Hd K mg) : mg "_law_subsets_of" = some (.ref (He.ga K "_law_subsets_of")) := W.glo 50 rfl
theorem Hd.mg_law_without (W : Hd K mg) : mg "_law_without" = some (.ref (He.ga K "_law_without")) := W.glo 51 rfl
theorem Hd.mg_law_least_odd (W : Hd K mg) : mg "_law_least_odd" = some (.ref (He.ga K "_law_least_odd")) := W.glo 52 rfl
theorem Hd.mg_law_splits (W : Hd K mg) : mg "_law_splits" = some (.ref (He.ga K "_law_splits")) := W.glo 53 rfl
theorem Hd.mg_law_is_right (W : Hd K mg) : mg "_law_is_right" = some (.ref (He.ga K "_law_is_right")) := W.glo 54 rfl
theorem Hd.mg_law_sides (W : Hd K mg) : mg "_law_sides" = some (.ref (He.ga K "_law_sides")) := W.glo 55 rfl
theorem Hd.mg_law_are_rows (W : Hd K mg) : mg "_law_are_rows" = some (.ref (He.ga K "_law_are_rows")) := W.glo 56 rfl
theorem Hd.mg_law_refuses (W : Hd K mg) : mg "_law_refuses" = some (.ref (He.ga K "_law_refuses")) := W.glo 57 rfl
theorem Hd.mg_law_same (W : Hd K mg) : mg "_law_same" = some (.ref (He.ga K "_law_same")) := W.glo 58 rfl
theorem Hd.mg_law_told_right (W : Hd K mg) : mg "_law_told_right" = some (.ref (He.ga K "_law_told_right")) := W.glo 59 rfl
theorem Hd.mg_law_asked (W : Hd K mg) : mg "_law_asked" = some (.ref (He.ga K "_law_asked")) := W.glo 60 rfl
theorem Hd.mg_law_rings (W : Hd K mg) : mg "_law_rings" = some (.ref (He.ga K "_law_rings")) := W.glo 61 rfl
theorem Hd.mg_law (W : Hd K mg) : mg "law" = some (.ref (He.ga K "law")) := W.glo 62 rfl
theorem Hd.mg_CherrystoneError (W : Hd K mg) : mg "CherrystoneError" = some (.ref (He.ga K "CherrystoneError")) := W.glo 63 rfl
theorem Hd.mg_BadGraph (W : Hd K mg) : mg "BadGraph" = some (.ref (He.ga K "BadGraph")) := W.glo 64 rfl
theorem Hd.mg_BadArgument (W : Hd K mg) : mg "BadArgument" = some (.ref (He.ga K "BadArgument")) := W.glo 65 rfl
theorem Hd.mg_TooLarge (W : Hd K mg) : mg "TooLarge" = some (.ref (He.ga K "TooLarge")) := W.glo 66 rfl
theorem Hd.mg_Graph (W : Hd K mg) : mg "Graph" = some (.ref (He.ga K "Graph")) := W.glo 67 rfl
theorem Hd.mg_LETTERS (W : Hd K mg) : mg "LETTERS" = some (.ref (He.ga K "LETTERS")) := W.glo 68 rfl
theorem Hd.fr_len (W : Hd K mg) : mg "len" = none := W.free 69 rfl
theorem Hd.fr_range (W : Hd K mg) : mg "range" = none := W.free 70 rfl
theorem Hd.fr_isinstance (W : Hd K mg) : mg "isinstance" = none := W.free 71 rfl
theorem Hd.fr_int (W : Hd K mg) : mg "int" = none := W.free 72 rfl
theorem Hd.fr_bool (W : Hd K mg) : mg "bool" = none := W.free 73 rfl
theorem Hd.fr_list (W : Hd K mg) : mg "list" = none := W.free 74 rfl
theorem Hd.fr_tuple (W : Hd K mg) : mg "tuple" = none := W.free 75 rfl
theorem Hd.fr_str (W : Hd K mg) : mg "str" = none := W.free 76 rfl
theorem Hd.fr_set (W : Hd K mg) : mg "set" = none := W.free 77 rfl
theorem Hd.fr_sorted (W : Hd K mg) : mg "sorted" = none := W.free 78 rfl
theorem Hd.fr_min (W : Hd K mg) : mg "min" = none := W.free 79 rfl
theorem Hd.fr_max (W : Hd K mg) : mg "max" = none := W.free 80 rfl
theorem Hd.fr_sum (W : Hd K mg) : mg "sum" = none := W.free 81 rfl
theorem Hd.fr_enumerate (W : Hd K mg) : mg "enumerate" = none := W.free 82 rfl
theorem Hd.fr_zip (W : Hd K mg) : mg "zip" = none := W.free 83 rfl
theorem Hd.mg_MOST (W : Hd K mg) : ∃ t, mg "MOST" = some (.int 40 t) := W.int 84 rfl
theorem Hd.mg_SMALL (W : Hd K mg) : ∃ t, mg "SMALL" = some (.int 5 t) := W.int 85 rfl
theorem Hd.cl_Graph (W : Hd K mg) : Cls K (He.ga K "Graph") := He.cls_ok (W.fact 86 rfl)
theorem Hd.mk_Graph (W : Hd K mg) : Mk K (He.ga K "Graph") (He.ma K (He.ga K "Graph") "__init__") := He.mkr_ok (W.fact 87 rfl)
theorem Hd.no_nodes (W : Hd K mg) : NoAttr K (He.ga K "Graph") "nodes" := He.noat_ok (W.fact 88 rfl)
theorem Hd.no_edges (W : Hd K mg) : NoAttr K (He.ga K "Graph") "edges" := He.noat_ok (W.fact 89 rfl)
theorem Hd.no_links (W : Hd K mg) : NoAttr K (He.ga K "Graph") "links" := He.noat_ok (W.fact 90 rfl)
theorem Hd.me_neighbours (W : Hd K mg) : Meth K (He.ga K "Graph") "neighbours" (He.ma K (He.ga K "Graph") "neighbours") := He.meth_ok (W.fact 91 rfl)
theorem Hd.me_induced (W : Hd K mg) : Meth K (He.ga K "Graph") "induced" (He.ma K (He.ga K "Graph") "induced") := He.meth_ok (W.fact 92 rfl)
theorem Hd.me_without (W : Hd K mg) : Meth K (He.ga K "Graph") "without" (He.ma K (He.ga K "Graph") "without") := He.meth_ok (W.fact 93 rfl)
theorem Hd.exc_BadArgument (W : Hd K mg) : PySem.W.excIn K (He.ga K "BadArgument") He.veBase "ValueError.__new__" = true ∧ PySem.W.keepIn K (.ref (He.ga K "BadArgument")) = true ∧ PySem.W.subIn K (.ref (He.ga K "BadArgument")) (.type "BaseException") = some true ∧ PySem.W.typeIn K (.ref (He.ga K "BadArgument")) = some (.type "type") := He.exc_ok (W.fact (f := .exc "BadArgument") 94 rfl)
theorem Hd.exc_BadGraph (W : Hd K mg) : PySem.W.excIn K (He.ga K "BadGraph") He.veBase "ValueError.__new__" = true ∧ PySem.W.keepIn K (.ref (He.ga K "BadGraph")) = true ∧ PySem.W.subIn K (.ref (He.ga K "BadGraph")) (.type "BaseException") = some true ∧ PySem.W.typeIn K (.ref (He.ga K "BadGraph")) = some (.type "type") := He.exc_ok (W.fact (f := .exc "BadGraph") 95 rfl)
theorem Hd.exm_BadArgument (W : Hd K mg) : PySem.W.exmOne K (.ref (He.ga K "BadArgument")) (.ref (He.ga K "BadArgument")) = some true := He.exm_ok (W.fact 96 rfl)
theorem Hd.df_is_integer (W : Hd K mg) : ∃ fd, FunD K "is_integer" "is_integer" (defArgs s_is_integer) (defBody s_is_integer) (defScope s_is_integer) [] [] (He.ga K "is_integer") fd := W.dfn 0 rfl
theorem Hd.df_is_index (W : Hd K mg) : ∃ fd, FunD K "is_index" "is_index" (defArgs s_is_index) (defBody s_is_index) (defScope s_is_index) [] [] (He.ga K "is_index") fd := W.dfn 1 rfl
theorem Hd.df_is_rising (W : Hd K mg) : ∃ fd, FunD K "is_rising" "is_rising" (defArgs s_is_rising) (defBody s_is_rising) (defScope s_is_rising) [] [] (He.ga K "is_rising") fd := W.dfn 2 rfl
theorem Hd.df_check_edges (W : Hd K mg) : ∃ fd, FunD K "check_edges" "check_edges" (defArgs s_check_edges) (defBody s_check_edges) (defScope s_check_edges) [] [] (He.ga K "check_edges") fd := W.dfn 3 rfl
theorem Hd.df_Graph_init (W : Hd K mg) : ∃ fd, FunD K "__init__" "Graph.__init__" (defArgs s_Graph_init) (defBody s_Graph_init) (defScope s_Graph_init) [] [] (He.ma K (He.ga K "Graph") "__init__") fd := W.dfn 4 rfl
theorem Hd.df_Graph_neighbours (W : Hd K mg) : ∃ fd, FunD K "neighbours" "Graph.neighbours" (defArgs s_Graph_neighbours) (defBody s_Graph_neighbours) (defScope s_Graph_neighbours) [] [] (He.ma K (He.ga K "Graph") "neighbours") fd := W.dfn 5 rfl
theorem Hd.df_Graph_induced (W : Hd K mg) : ∃ fd, FunD K "induced" "Graph.induced" (defArgs s_Graph_induced) (defBody s_Graph_induced) (defScope s_Graph_induced) [] [] (He.ma K (He.ga K "Graph") "induced") fd := W.dfn 6 rfl
theorem Hd.df_Graph_without (W : Hd K mg) : ∃ fd, FunD K "without" "Graph.without" (defArgs s_Graph_without) (defBody s_Graph_without) (defScope s_Graph_without) [] [] (He.ma K (He.ga K "Graph") "without") fd := W.dfn 7 rfl
theorem Hd.df_is_list (W : Hd K mg) : ∃ fd, FunD K "is_list" "is_list" (defArgs s_is_list) (defBody s_is_list) (defScope s_is_list) [] [] (He.ga K "is_list") fd := W.dfn 8 rfl
theorem Hd.df_check_node (W : Hd K mg) : ∃ fd, FunD K "check_node" "check_node" (defArgs s_check_node) (defBody s_check_node) (defScope s_check_node) [] [] (He.ga K "check_node") fd := W.dfn 9 rfl
theorem Hd.df_check_list (W : Hd K mg) : ∃ fd, FunD K "check_list" "check_list" (defArgs s_check_list) (defBody s_check_list) (defScope s_check_list) [] [] (He.ga K "check_list") fd := W.dfn 10 rfl
theorem Hd.df_make_graph (W : Hd K mg) : ∃ fd, FunD K "make_graph" "make_graph" (defArgs s_make_graph) (defBody s_make_graph) (defScope s_make_graph) [] [] (He.ga K "make_graph") fd := W.dfn 11 rfl
theorem Hd.df_is_path (W : Hd K mg) : ∃ fd, FunD K "is_path" "is_path" (defArgs s_is_path) (defBody s_is_path) (defScope s_is_path) [] [] (He.ga K "is_path") fd := W.dfn 12 rfl
theorem Hd.df_reached (W : Hd K mg) : ∃ fd, FunD K "reached" "reached" (defArgs s_reached) (defBody s_reached) (defScope s_reached) [] [] (He.ga K "reached") fd := W.dfn 13 rfl
theorem Hd.df_parts_without (W : Hd K mg) : ∃ fd, FunD K "parts_without" "parts_without" (defArgs s_parts_without) (defBody s_parts_without) (defScope s_parts_without) [] [] (He.ga K "parts_without") fd := W.dfn 14 rfl
theorem Hd.df_components (W : Hd K mg) : ∃ fd, FunD K "components" "components" (defArgs s_components) (defBody s_components) (defScope s_components) [] [] (He.ga K "components") fd := W.dfn 15 rfl
theorem Hd.df_search (W : Hd K mg) : ∃ fd, FunD K "search" "search" (defArgs s_search) (defBody s_search) (defScope s_search) [] [] (He.ga K "search") fd := W.dfn 16 rfl
theorem Hd.df_trail (W : Hd K mg) : ∃ fd, FunD K "trail" "trail" (defArgs s_trail) (defBody s_trail) (defScope s_trail) [] [] (He.ga K "trail") fd := W.dfn 17 rfl
theorem Hd.df_round_trip (W : Hd K mg) : ∃ fd, FunD K "round_trip" "round_trip" (defArgs s_round_trip) (defBody s_round_trip) (defScope s_round_trip) [] [] (He.ga K "round_trip") fd := W.dfn 18 rfl
theorem Hd.df_two_colours (W : Hd K mg) : ∃ fd, FunD K "two_colours" "two_colours" (defArgs s_two_colours) (defBody s_two_colours) (defScope s_two_colours) [] [] (He.ga K "two_colours") fd := W.dfn 19 rfl
theorem Hd.df_arcs_of (W : Hd K mg) : ∃ fd, FunD K "arcs_of" "arcs_of" (defArgs s_arcs_of) (defBody s_arcs_of) (defScope s_arcs_of) [] [] (He.ga K "arcs_of") fd := W.dfn 20 rfl
theorem Hd.df_found_from (W : Hd K mg) : ∃ fd, FunD K "found_from" "found_from" (defArgs s_found_from) (defBody s_found_from) (defScope s_found_from) [] [] (He.ga K "found_from") fd := W.dfn 21 rfl
theorem Hd.df_push (W : Hd K mg) : ∃ fd, FunD K "push" "push" (defArgs s_push) (defBody s_push) (defScope s_push) [] [] (He.ga K "push") fd := W.dfn 22 rfl
theorem Hd.df_greatest_flow (W : Hd K mg) : ∃ fd, FunD K "greatest_flow" "greatest_flow" (defArgs s_greatest_flow) (defBody s_greatest_flow) (defScope s_greatest_flow) [] [] (He.ga K "greatest_flow") fd := W.dfn 23 rfl
theorem Hd.df_used (W : Hd K mg) : ∃ fd, FunD K "used" "used" (defArgs s_used) (defBody s_used) (defScope s_used) [] [] (He.ga K "used") fd := W.dfn 24 rfl
theorem Hd.df_walk (W : Hd K mg) : ∃ fd, FunD K "walk" "walk" (defArgs s_walk) (defBody s_walk) (defScope s_walk) [] [] (He.ga K "walk") fd := W.dfn 25 rfl
theorem Hd.df_shortened (W : Hd K mg) : ∃ fd, FunD K "shortened" "shortened" (defArgs s_shortened) (defBody s_shortened) (defScope s_shortened) [] [] (He.ga K "shortened") fd := W.dfn 26 rfl
theorem Hd.df_ways_of (W : Hd K mg) : ∃ fd, FunD K "ways_of" "ways_of" (defArgs s_ways_of) (defBody s_ways_of) (defScope s_ways_of) [] [] (He.ga K "ways_of") fd := W.dfn 27 rfl
theorem Hd.df_near_cut (W : Hd K mg) : ∃ fd, FunD K "near_cut" "near_cut" (defArgs s_near_cut) (defBody s_near_cut) (defScope s_near_cut) [] [] (He.ga K "near_cut") fd := W.dfn 28 rfl
theorem Hd.df_disjoint_ways (W : Hd K mg) : ∃ fd, FunD K "disjoint_ways" "disjoint_ways" (defArgs s_disjoint_ways) (defBody s_disjoint_ways) (defScope s_disjoint_ways) [] [] (He.ga K "disjoint_ways") fd := W.dfn 29 rfl
theorem Hd.df_is_way (W : Hd K mg) : ∃ fd, FunD K "is_way" "is_way" (defArgs s_is_way) (defBody s_is_way) (defScope s_is_way) [] [] (He.ga K "is_way") fd := W.dfn 30 rfl
theorem Hd.df_are_ways (W : Hd K mg) : ∃ fd, FunD K "are_ways" "are_ways" (defArgs s_are_ways) (defBody s_are_ways) (defScope s_are_ways) [] [] (He.ga K "are_ways") fd := W.dfn 31 rfl
theorem Hd.df_is_odd_set (W : Hd K mg) : ∃ fd, FunD K "is_odd_set" "is_odd_set" (defArgs s_is_odd_set) (defBody s_is_odd_set) (defScope s_is_odd_set) [] [] (He.ga K "is_odd_set") fd := W.dfn 32 rfl
theorem Hd.df_colours_without (W : Hd K mg) : ∃ fd, FunD K "colours_without" "colours_without" (defArgs s_colours_without) (defBody s_colours_without) (defScope s_colours_without) [] [] (He.ga K "colours_without") fd := W.dfn 33 rfl
theorem Hd.df_splits_of (W : Hd K mg) : ∃ fd, FunD K "splits_of" "splits_of" (defArgs s_splits_of) (defBody s_splits_of) (defScope s_splits_of) [] [] (He.ga K "splits_of") fd := W.dfn 34 rfl
theorem Hd.df_fits (W : Hd K mg) : ∃ fd, FunD K "fits" "fits" (defArgs s_fits) (defBody s_fits) (defScope s_fits) [] [] (He.ga K "fits") fd := W.dfn 35 rfl
theorem Hd.df_sides (W : Hd K mg) : ∃ fd, FunD K "sides" "sides" (defArgs s_sides) (defBody s_sides) (defScope s_sides) [] [] (He.ga K "sides") fd := W.dfn 36 rfl
theorem Hd.df_graph_outside (W : Hd K mg) : ∃ fd, FunD K "graph_outside" "graph_outside" (defArgs s_graph_outside) (defBody s_graph_outside) (defScope s_graph_outside) [] [] (He.ga K "graph_outside") fd := W.dfn 37 rfl
theorem Hd.df_is_small (W : Hd K mg) : ∃ fd, FunD K "is_small" "is_small" (defArgs s_is_small) (defBody s_is_small) (defScope s_is_small) [] [] (He.ga K "is_small") fd := W.dfn 38 rfl
theorem Hd.df_fewer_odd (W : Hd K mg) : ∃ fd, FunD K "fewer_odd" "fewer_odd" (defArgs s_fewer_odd) (defBody s_fewer_odd) (defScope s_fewer_odd) [] [] (He.ga K "fewer_odd") fd := W.dfn 39 rfl
theorem Hd.df_refuses_odd (W : Hd K mg) : ∃ fd, FunD K "refuses_odd" "refuses_odd" (defArgs s_refuses_odd) (defBody s_refuses_odd) (defScope s_refuses_odd) [] [] (He.ga K "refuses_odd") fd := W.dfn 40 rfl
theorem Hd.df_law_mixed (W : Hd K mg) : ∃ fd, FunD K "_law_mixed" "_law_mixed" (defArgs s_law_mixed) (defBody s_law_mixed) (defScope s_law_mixed) [] [] (He.ga K "_law_mixed") fd := W.dfn 41 rfl
theorem Hd.df_law_numbers (W : Hd K mg) : ∃ fd, FunD K "_law_numbers" "_law_numbers" (defArgs s_law_numbers) (defBody s_law_numbers) (defScope s_law_numbers) [] [] (He.ga K "_law_numbers") fd := W.dfn 42 rfl
theorem Hd.df_law_draw (W : Hd K mg) : ∃ fd, FunD K "_law_draw" "_law_draw" (defArgs s_law_draw) (defBody s_law_draw) (defScope s_law_draw) [] [] (He.ga K "_law_draw") fd := W.dfn 43 rfl
theorem Hd.df_law_equal (W : Hd K mg) : ∃ fd, FunD K "_law_equal" "_law_equal" (defArgs s_law_equal) (defBody s_law_equal) (defScope s_law_equal) [] [] (He.ga K "_law_equal") fd := W.dfn 44 rfl
theorem Hd.df_law_all_equal (W : Hd K mg) : ∃ fd, FunD K "_law_all_equal" "_law_all_equal" (defArgs s_law_all_equal) (defBody s_law_all_equal) (defScope s_law_all_equal) [] [] (He.ga K "_law_all_equal") fd := W.dfn 45 rfl
theorem Hd.df_law_pairs (W : Hd K mg) : ∃ fd, FunD K "_law_pairs" "_law_pairs" (defArgs s_law_pairs) (defBody s_law_pairs) (defScope s_law_pairs) [] [] (He.ga K "_law_pairs") fd := W.dfn 46 rfl
theorem Hd.df_law_order (W : Hd K mg) : ∃ fd, FunD K "_law_order" "_law_order" (defArgs s_law_order) (defBody s_law_order) (defScope s_law_order) [] [] (He.ga K "_law_order") fd := W.dfn 47 rfl
theorem Hd.df_law_edges (W : Hd K mg) : ∃ fd, FunD K "_law_edges" "_law_edges" (defArgs s_law_edges) (defBody s_law_edges) (defScope s_law_edges) [] [] (He.ga K "_law_edges") fd := W.dfn 48 rfl
theorem Hd.df_law_near (W : Hd K mg) : ∃ fd, FunD K "_law_near" "_law_near" (defArgs s_law_near) (defBody s_law_near) (defScope s_law_near) [] [] (He.ga K "_law_near") fd := W.dfn 49 rfl
theorem Hd.df_law_is_nodes (W : Hd K mg) : ∃ fd, FunD K "_law_is_nodes" "_law_is_nodes" (defArgs s_law_is_nodes) (defBody s_law_is_nodes) (defScope s_law_is_nodes) [] [] (He.ga K "_law_is_nodes") fd := W.dfn 50 rfl
theorem Hd.df_law_is_path (W : Hd K mg) : ∃ fd, FunD K "_law_is_path" "_law_is_path" (defArgs s_law_is_path) (defBody s_law_is_path) (defScope s_law_is_path) [] [] (He.ga K "_law_is_path") fd := W.dfn 51 rfl
theorem Hd.df_law_are_ways (W : Hd K mg) : ∃ fd, FunD K "_law_are_ways" "_law_are_ways" (defArgs s_law_are_ways) (defBody s_law_are_ways) (defScope s_law_are_ways) [] [] (He.ga K "_law_are_ways") fd := W.dfn 52 rfl
theorem Hd.df_law_two (W : Hd K mg) : ∃ fd, FunD K "_law_two" "_law_two" (defArgs s_law_two) (defBody s_law_two) (defScope s_law_two) [] [] (He.ga K "_law_two") fd := W.dfn 53 rfl
theorem Hd.df_law_subsets_of (W : Hd K mg) : ∃ fd, FunD K "_law_subsets_of" "_law_subsets_of" (defArgs s_law_subsets_of) (defBody s_law_subsets_of) (defScope s_law_subsets_of) [] [] (He.ga K "_law_subsets_of") fd := W.dfn 54 rfl
theorem Hd.df_law_without (W : Hd K mg) : ∃ fd, FunD K "_law_without" "_law_without" (defArgs s_law_without) (defBody s_law_without) (defScope s_law_without) [] [] (He.ga K "_law_without") fd := W.dfn 55 rfl
theorem Hd.df_law_least_odd (W : Hd K mg) : ∃ fd, FunD K "_law_least_odd" "_law_least_odd" (defArgs s_law_least_odd) (defBody s_law_least_odd) (defScope s_law_least_odd) [] [] (He.ga K "_law_least_odd") fd := W.dfn 56 rfl
theorem Hd.df_law_splits (W : Hd K mg) : ∃ fd, FunD K "_law_splits" "_law_splits" (defArgs s_law_splits) (defBody s_law_splits) (defScope s_law_splits) [] [] (He.ga K "_law_splits") fd := W.dfn 57 rfl
theorem Hd.df_law_is_right (W : Hd K mg) : ∃ fd, FunD K "_law_is_right" "_law_is_right" (defArgs s_law_is_right) (defBody s_law_is_right) (defScope s_law_is_right) [] [] (He.ga K "_law_is_right") fd := W.dfn 58 rfl
theorem Hd.df_law_sides (W : Hd K mg) : ∃ fd, FunD K "_law_sides" "_law_sides" (defArgs s_law_sides) (defBody s_law_sides) (defScope s_law_sides) [] [] (He.ga K "_law_sides") fd := W.dfn 59 rfl
theorem Hd.df_law_are_rows (W : Hd K mg) : ∃ fd, FunD K "_law_are_rows" "_law_are_rows" (defArgs s_law_are_rows) (defBody s_law_are_rows) (defScope s_law_are_rows) [] [] (He.ga K "_law_are_rows") fd := W.dfn 60 rfl
theorem Hd.df_law_refuses (W : Hd K mg) : ∃ fd, FunD K "_law_refuses" "_law_refuses" (defArgs s_law_refuses) (defBody s_law_refuses) (defScope s_law_refuses) [] [] (He.ga K "_law_refuses") fd := W.dfn 61 rfl
theorem Hd.df_law_same (W : Hd K mg) : ∃ fd, FunD K "_law_same" "_law_same" (defArgs s_law_same) (defBody s_law_same) (defScope s_law_same) [] [] (He.ga K "_law_same") fd := W.dfn 62 rfl
theorem Hd.df_law_told_right (W : Hd K mg) : ∃ fd, FunD K "_law_told_right" "_law_told_right" (defArgs s_law_told_right) (defBody s_law_told_right) (defScope s_law_told_right) [] [] (He.ga K "_law_told_right") fd := W.dfn 63 rfl
theorem Hd.df_law_asked (W : Hd K mg) : ∃ fd, FunD K "_law_asked" "_law_asked" (defArgs s_law_asked) (defBody s_law_asked) (defScope s_law_asked) [] [] (He.ga K "_law_asked") fd := W.dfn 64 rfl
theorem Hd.df_law_rings (W : Hd K mg) : ∃ fd, FunD K "_law_rings" "_law_rings" (defArgs s_law_rings) (defBody s_law_rings) (defScope s_law_rings) [] [] (He.ga K "_law_rings") fd := W.dfn 65 rfl
theorem Hd.df_law (W : Hd K mg) : ∃ fd, FunD K "law" "law" (defArgs s_law) (defBody s_law) (defScope s_law) [] [] (He.ga K "law") fd := W.dfn 66 rfl
end
end G3

set_option maxHeartbeats 2000000
open PySem PySem.W PySem.Calls PyProof.Rows
/-- the law holds if its def's walk does: here, ahead of the walks, where the kernel's runs find room -/
theorem G3.from_walk (F : ∀ (w : World) (mg : PySem.Str → Option Value) (f : Addr) (h : Heap) (K : PySem.W.Frag), K.In h → He.SaysD G3.fa G3.fn K → G3.ex K = true → h.Ns mainGlobals mg → mg ("law" : PySem.Str) = some (.ref f) →
      ∃ (fd : FuncData) (sp : L2.Sp), (∀ (s : Shared) (v : Value), PySem.BindsTo s fd ⟨[v], []⟩ [("_law_script", v)]) ∧
        (∀ (H : L2.Hp) (a : Addr) (ns : List Int), ns.length ≤ 63 → L2.SqL K H a (ns.map L2.V.int) → sp [.ref a] H (fun v _ => v = .bl true) fun _ _ _ => False) ∧
        ∀ base : Heap, K.In base → base.Ns mainGlobals mg → L2.FnOk PySem.Challenge.rw_cherrystone_k75_whole_odd_sets_or_papers.prog w K mg base L2.CX0 17 f fd ["_law_script"] sp) : PySem.Challenge.rw_cherrystone_k75_whole_odd_sets_or_papers.Holds := by
  w_on; o_law
  refine HandSHeadRun.head_any (r := OpenLaw.row PySem.Challenge.rw_cherrystone_k75_whole_odd_sets_or_papers) (q := view (OpenLaw.row PySem.Challenge.rw_cherrystone_k75_whole_odd_sets_or_papers).prog [G3.iLaw]) (H := G3.hk) (ob := G3.ob) (M := 4000) (loose := G3.loose) (d := HandSHeadRun.topDef (OpenLaw.row PySem.Challenge.rw_cherrystone_k75_whole_odd_sets_or_papers).prog G3.iLaw) (kwd := []) G3.ob_eq
    (by kernel_rfl) (fun s => by kernel_rfl) G3.run (by kernel_rfl) (by kernel_rfl) (by kernel_rfl) (by rfl) (by first | assumption | decide +kernel) (by decide +kernel) ⟨rfl, rfl, rfl, rfl, rfl, by decide +kernel⟩ ?hw ?hc
  case hw => w_witness2
  case hc =>
    refine L2.walk_ofE (l := PySem.Challenge.rw_cherrystone_k75_whole_odd_sets_or_papers) (n := 63) (k := 17) (x := "_law_script") (CX := L2.CX0) rfl (by decide) (by kernel_rfl) ⟨rfl, by decide, by decide⟩ ?F (fun _ _ _ _ z => z)
    intro w mg f h Y G hmg0
    obtain ⟨K, KX, c, ce⟩ := Y
    have hmg : mg ("law" : PySem.Str) = some (.ref f) := by
      have e : (HandSHeadRun.topDef (OpenLaw.row PySem.Challenge.rw_cherrystone_k75_whole_odd_sets_or_papers).prog G3.iLaw).name = ("law" : PySem.Str) := by kernel_rfl
      rw [← e]
      exact hmg0
    obtain ⟨fd, sp, hb, hsp, hF⟩ := F w mg f h K KX c ce G hmg
    exact ⟨K, fd, sp, KX, hb, fun H a ns hl _ hS => hsp H a ns hl hS, hF⟩

set_option maxHeartbeats 2000000
namespace G3
/-! ### lists of whole numbers in order -/
def insI (x : Int) : List Int → List Int
  | [] => [x]
  | y :: r => if x ≤ y then x :: y :: r else y :: insI x r
def isort : List Int → List Int
  | [] => []
  | x :: r => insI x (isort r)
theorem insI_perm (x : Int) : ∀ l, (insI x l).Perm (x :: l)
  | [] => List.Perm.refl _
  | y :: r => by
    unfold insI
    split
    · exact List.Perm.refl _
    · exact ((insI_perm x r).cons y).trans (List.Perm.swap x y r)
theorem isort_perm : ∀ l, (isort l).Perm l
  | [] => List.Perm.refl _
  | x :: r => (insI_perm x (isort r)).trans ((isort_perm r).cons x)
theorem insI_srt (x : Int) : ∀ l : List Int, l.Pairwise (· ≤ ·) → (insI x l).Pairwise (· ≤ ·)
  | [], _ => by simp [insI]
  | y :: r, h => by
    unfold insI
    obtain ⟨h1, h2⟩ := List.pairwise_cons.mp h
    split
    · rename_i hle
      refine List.pairwise_cons.mpr ⟨fun z hz => ?_, h⟩
      rcases List.mem_cons.mp hz with rfl | hz
      · exact hle
      · exact Int.le_trans hle (h1 z hz)
    · rename_i hle
      refine List.pairwise_cons.mpr ⟨fun z hz => ?_, insI_srt x r h2⟩
      rcases List.mem_cons.mp ((insI_perm x r).mem_iff.mp hz) with rfl | hz
      · omega
      · exact h1 z hz
theorem isort_srt : ∀ l, (isort l).Pairwise (· ≤ ·)
  | [] => List.Pairwise.nil
  | x :: r => insI_srt x _ (isort_srt r)
theorem mem_isort {x : Int} {l : List Int} : x ∈ isort l ↔ x ∈ l := (isort_perm l).mem_iff
/-- one order of a multiset -/
theorem srt_eq : ∀ {l m : List Int}, l.Perm m → l.Pairwise (· ≤ ·) → m.Pairwise (· ≤ ·) → l = m
  | [], m, p, _, _ => (List.Perm.nil_eq p)
  | x :: l, [], p, _, _ => by
    have := p.length_eq
    simp at this
  | x :: l, y :: m, p, hl, hm => by
    obtain ⟨l1, l2⟩ := List.pairwise_cons.mp hl
    obtain ⟨m1, m2⟩ := List.pairwise_cons.mp hm
    have a : x ≤ y := by
      have : y ∈ x :: l := p.mem_iff.mpr List.mem_cons_self
      rcases List.mem_cons.mp this with e | e
      · omega
      · exact l1 y e
    have b : y ≤ x := by
      have : x ∈ y :: m := p.mem_iff.mp List.mem_cons_self
      rcases List.mem_cons.mp this with e | e
      · omega
      · exact m1 x e
    have e : x = y := by omega
    subst e
    rw [srt_eq (List.Perm.cons_inv p) l2 m2]
/-- strictly rising lists with the same members are one -/
theorem rise_eq : ∀ {l m : List Int}, l.Pairwise (· < ·) → m.Pairwise (· < ·) → (∀ x, x ∈ l ↔ x ∈ m) → l = m
  | [], [], _, _, _ => rfl
  | [], y :: m, _, _, h => by
    have := (h y).mpr List.mem_cons_self
    simp at this
  | x :: l, [], _, _, h => by
    have := (h x).mp List.mem_cons_self
    simp at this
  | x :: l, y :: m, hl, hm, h => by
    obtain ⟨l1, l2⟩ := List.pairwise_cons.mp hl
    obtain ⟨m1, m2⟩ := List.pairwise_cons.mp hm
    have e : x = y := by
      rcases List.mem_cons.mp ((h x).mp List.mem_cons_self) with e | e
      · exact e
      · rcases List.mem_cons.mp ((h y).mpr List.mem_cons_self) with e' | e'
        · exact e'.symm
        · have a := m1 x e
          have b := l1 y e'
          omega
    subst e
    rw [rise_eq l2 m2 fun z => ⟨fun hz => ?_, fun hz => ?_⟩]
    · rcases List.mem_cons.mp ((h z).mp (List.mem_cons_of_mem _ hz)) with e | e
      · have := l1 z hz
        omega
      · exact e
    · rcases List.mem_cons.mp ((h z).mpr (List.mem_cons_of_mem _ hz)) with e | e
      · have := m1 z hz
        omega
      · exact e
theorem rise_srt {l : List Int} (h : l.Pairwise (· < ·)) : l.Pairwise (· ≤ ·) := h.imp fun a => Int.le_of_lt a
theorem rise_nd {l : List Int} (h : l.Pairwise (· < ·)) : l.Nodup := h.imp fun a => by omega
theorem srt_rise : ∀ {l : List Int}, l.Pairwise (· ≤ ·) → l.Nodup → l.Pairwise (· < ·)
  | [], _, _ => List.Pairwise.nil
  | x :: l, h, n => by
    obtain ⟨h1, h2⟩ := List.pairwise_cons.mp h
    obtain ⟨n1, n2⟩ := List.nodup_cons.mp n
    refine List.pairwise_cons.mpr ⟨fun y hy => ?_, srt_rise h2 n2⟩
    have := h1 y hy
    by_cases e : x = y
    · subst e
      exact absurd hy n1
    · omega
/-! ### node lists, graphs -/
/-- a node list of a graph with n nodes -/
def Rising (n : Int) (l : List Int) : Prop := l.Pairwise (· < ·) ∧ ∀ x ∈ l, 0 ≤ x ∧ x < n
instance (n : Int) (l : List Int) : Decidable (Rising n l) := inferInstanceAs (Decidable (_ ∧ _))
/-- u stands ahead of v in the order of pairs -/
def plt (u v : Int × Int) : Prop := u.1 < v.1 ∨ u.1 = v.1 ∧ u.2 < v.2
instance (u v : Int × Int) : Decidable (plt u v) := inferInstanceAs (Decidable (_ ∨ _ ∧ _))
theorem plt_irr (u : Int × Int) : ¬ plt u u := fun h => by unfold plt at h; omega
theorem plt_trans {u v w : Int × Int} (h : plt u v) (k : plt v w) : plt u w := by unfold plt at *; omega
/-- the edges of a graph with n nodes -/
def GoodE (n : Nat) (E : List (Int × Int)) : Prop := (∀ p ∈ E, 0 ≤ p.1 ∧ p.1 < p.2 ∧ p.2 < n) ∧ E.Pairwise plt
def adjs (E : List (Int × Int)) (v : Int) : List Int := E.flatMap fun p => if p.1 = v then [p.2] else if p.2 = v then [p.1] else []
/-- the neighbours of v, ascending -/
def nb (E : List (Int × Int)) (v : Int) : List Int := isort (adjs E v)
def links (n : Nat) (E : List (Int × Int)) : List (List Int) := (List.range n).map fun (v : Nat) => nb E (v : Int)
def Adj (E : List (Int × Int)) (u v : Int) : Prop := (u, v) ∈ E ∨ (v, u) ∈ E
theorem Adj.symm {E : List (Int × Int)} {u v : Int} (h : Adj E u v) : Adj E v u := Or.symm h
theorem GoodE.ne {n : Nat} {E : List (Int × Int)} (g : GoodE n E) {u v : Int} (h : Adj E u v) : u ≠ v := by
  rcases h with h | h
  · have := g.1 _ h
    simp at this
    omega
  · have := g.1 _ h
    simp at this
    omega
theorem GoodE.at {n : Nat} {E : List (Int × Int)} (g : GoodE n E) {u v : Int} (h : Adj E u v) : 0 ≤ u ∧ u < n := by
  rcases h with h | h
  · have := g.1 _ h
    simp at this
    omega
  · have := g.1 _ h
    simp at this
    omega
theorem mem_adjs {n : Nat} {E : List (Int × Int)} (g : GoodE n E) {u v : Int} : u ∈ adjs E v ↔ Adj E v u := by
  unfold adjs Adj
  rw [List.mem_flatMap]
  constructor
  · rintro ⟨p, hp, hu⟩
    obtain ⟨a, b⟩ := p
    have q := g.1 _ hp
    simp at q hu
    split at hu
    · rename_i e
      simp at hu
      subst e hu
      exact .inl hp
    · split at hu
      · rename_i e
        simp at hu
        subst e hu
        exact .inr hp
      · simp at hu
  · rintro (h | h)
    · exact ⟨_, h, by simp⟩
    · have q := g.1 _ h
      simp at q
      refine ⟨_, h, ?_⟩
      have : ¬ u = v := by omega
      simp [this]
theorem mem_nb {n : Nat} {E : List (Int × Int)} (g : GoodE n E) {u v : Int} : u ∈ nb E v ↔ Adj E v u := mem_isort.trans (mem_adjs g)
theorem links_get {n : Nat} {E : List (Int × Int)} {v : Nat} (h : v < n) : (links n E)[v]? = some (nb E (v : Int)) := by
  unfold links
  rw [List.getElem?_map, List.getElem?_range h]
  rfl
theorem links_len (n : Nat) (E : List (Int × Int)) : (links n E).length = n := by simp [links]
/-- the neighbours are all different -/
theorem adjs_nd {n : Nat} : ∀ {E : List (Int × Int)}, GoodE n E → ∀ v, (adjs E v).Nodup
  | [], _, v => List.nodup_nil
  | (a, b) :: E, g, v => by
    obtain ⟨g1, g2⟩ := g
    obtain ⟨g3, g4⟩ := List.pairwise_cons.mp g2
    have g' : GoodE n E := ⟨fun p hp => g1 p (List.mem_cons_of_mem _ hp), g4⟩
    have ih := adjs_nd g' v
    have e : adjs ((a, b) :: E) v = (if a = v then [b] else if b = v then [a] else []) ++ adjs E v := rfl
    have q := g1 (a, b) List.mem_cons_self
    simp at q
    rw [e]
    split
    · rename_i ea
      refine List.nodup_cons.mpr ⟨fun m => ?_, ih⟩
      have m := (mem_adjs g').mp m
      rcases m with m | m
      · have := g3 _ m
        subst ea
        exact plt_irr _ this
      · have := g1 _ (List.mem_cons_of_mem _ m)
        simp at this
        omega
    · split
      · rename_i ea eb
        refine List.nodup_cons.mpr ⟨fun m => ?_, ih⟩
        have m := (mem_adjs g').mp m
        rcases m with m | m
        · have := g1 _ (List.mem_cons_of_mem _ m)
          simp at this
          omega
        · have := g3 _ m
          subst eb
          exact plt_irr _ this
      · exact ih
theorem nb_rise {n : Nat} {E : List (Int × Int)} (g : GoodE n E) (v : Int) : (nb E v).Pairwise (· < ·) :=
  srt_rise (isort_srt _) ((isort_perm _).nodup_iff.mpr (adjs_nd g v))
theorem rise_len : ∀ {l : List Int} {lo hi : Int}, l.Pairwise (· < ·) → (∀ x ∈ l, lo ≤ x ∧ x < hi) → (l.length : Int) ≤ max 0 (hi - lo)
  | [], lo, hi, _, _ => by simp; omega
  | x :: l, lo, hi, h, b => by
    obtain ⟨h1, h2⟩ := List.pairwise_cons.mp h
    have b0 := b x List.mem_cons_self
    have := rise_len (l := l) (lo := x + 1) (hi := hi) h2 fun y hy => ⟨by have := h1 y hy; omega, (b y (List.mem_cons_of_mem _ hy)).2⟩
    rw [List.length_cons]
    omega
theorem nd_len {l : List Int} {n : Nat} (h : l.Nodup) (b : ∀ x ∈ l, 0 ≤ x ∧ x < n) : l.length ≤ n := by
  have p := isort_perm l
  have := rise_len (l := isort l) (lo := 0) (hi := n) (srt_rise (isort_srt l) (p.nodup_iff.mpr h)) fun x hx => b x (mem_isort.mp hx)
  rw [p.length_eq] at this
  omega
theorem Rising.len {n : Nat} {l : List Int} (h : Rising n l) : l.length ≤ n := nd_len (rise_nd h.1) h.2
theorem GoodE.pre {n : Nat} {E pre post : List (Int × Int)} (g : GoodE n E) (e : E = pre ++ post) : GoodE n pre := by
  subst e
  exact ⟨fun p hp => g.1 p (List.mem_append_left _ hp), (List.pairwise_append.mp g.2).1⟩
theorem adjs_len {n : Nat} {E : List (Int × Int)} (g : GoodE n E) (v : Int) : (adjs E v).length ≤ n :=
  nd_len (adjs_nd g v) fun x hx => by
    have a := (mem_adjs g).mp hx
    exact g.at a.symm
theorem nb_len {n : Nat} {E : List (Int × Int)} (g : GoodE n E) (v : Int) : (nb E v).length ≤ n := by
  unfold nb
  rw [(isort_perm _).length_eq]
  exact adjs_len g v
theorem adjs_snoc (E : List (Int × Int)) (d : Int × Int) (v : Int) : adjs (E ++ [d]) v = adjs E v ++ (if d.1 = v then [d.2] else if d.2 = v then [d.1] else []) := by
  unfold adjs
  rw [List.flatMap_append]
  simp
/-! ### what is reached -/
inductive Reach (E : List (Int × Int)) (P : Int → Prop) (s : Int) : Int → Prop where
  | refl : Reach E P s s
  | step {u v : Int} (h : Reach E P s u) (a : Adj E u v) (p : P v) : Reach E P s v
/-! ### the induced graph -/
/-- the place of v among l -/
def pos (l : List Int) (v : Int) : Int := (l.idxOf v : Nat)
/-- the induced graph's edges -/
def indE (E : List (Int × Int)) (l : List Int) : List (Int × Int) := E.flatMap fun p => if p.1 ∈ l ∧ p.2 ∈ l then [(pos l p.1, pos l p.2)] else []
theorem pos_at {pre post : List Int} {x : Int} (h : x ∉ pre) : pos (pre ++ x :: post) x = (pre.length : Nat) := by
  unfold pos
  rw [List.idxOf_append, if_neg h, List.idxOf_cons_self]
  simp
theorem pos_range {l : List Int} {v : Int} (h : v ∈ l) : 0 ≤ pos l v ∧ pos l v < l.length := by
  unfold pos
  have := List.idxOf_lt_length_iff.mpr h
  omega
theorem pos_get {l : List Int} {v : Int} (h : v ∈ l) : l[(pos l v).toNat]? = some v := by
  unfold pos
  have := List.idxOf_lt_length_iff.mpr h
  rw [Int.toNat_natCast, List.getElem?_eq_getElem this, List.getElem_idxOf]
theorem pos_of_get {l : List Int} {v : Int} {i : Nat} (n : l.Nodup) (h : l[i]? = some v) : pos l v = i := by
  obtain ⟨h1, e⟩ := List.getElem?_eq_some_iff.mp h
  have m : v ∈ l := by rw [← e]; exact List.getElem_mem h1
  have g := pos_get m
  obtain ⟨h2, e2⟩ := List.getElem?_eq_some_iff.mp g
  have := (List.getElem_inj n).mp (e2.trans e.symm)
  have r := pos_range m
  omega
theorem pos_lt {l : List Int} (r : l.Pairwise (· < ·)) {u v : Int} (hu : u ∈ l) (hv : v ∈ l) : pos l u < pos l v ↔ u < v := by
  have gu := pos_get hu
  have gv := pos_get hv
  obtain ⟨h1, e1⟩ := List.getElem?_eq_some_iff.mp gu
  obtain ⟨h2, e2⟩ := List.getElem?_eq_some_iff.mp gv
  have ru := pos_range hu
  have rv := pos_range hv
  constructor
  · intro h
    have := List.pairwise_iff_getElem.mp r _ _ h1 h2 (by omega)
    rw [e1, e2] at this
    exact this
  · intro h
    rcases Int.lt_trichotomy (pos l u) (pos l v) with q | q | q
    · exact q
    · have z : (pos l u).toNat = (pos l v).toNat := by rw [q]
      have : u = v := by
        rw [← e1, ← e2]
        simp only [z]
      omega
    · have := List.pairwise_iff_getElem.mp r _ _ h2 h1 (by omega)
      rw [e1, e2] at this
      omega
theorem pos_inj {l : List Int} {u v : Int} (hu : u ∈ l) (hv : v ∈ l) (h : pos l u = pos l v) : u = v := by
  have gu := pos_get hu
  have gv := pos_get hv
  rw [h, gv] at gu
  exact (Option.some.inj gu).symm
theorem mem_indE {E : List (Int × Int)} {l : List Int} {q : Int × Int} : q ∈ indE E l ↔ ∃ p ∈ E, p.1 ∈ l ∧ p.2 ∈ l ∧ q = (pos l p.1, pos l p.2) := by
  unfold indE
  rw [List.mem_flatMap]
  constructor
  · rintro ⟨p, hp, hq⟩
    split at hq
    · rename_i h
      exact ⟨p, hp, h.1, h.2, by simpa using hq⟩
    · simp at hq
  · rintro ⟨p, hp, h1, h2, rfl⟩
    exact ⟨p, hp, by simp [h1, h2]⟩
theorem indE_good {n : Nat} {l : List Int} (r : l.Pairwise (· < ·)) : ∀ {E : List (Int × Int)}, GoodE n E → GoodE l.length (indE E l)
  | [], _ => ⟨by simp [indE], by simp [indE]⟩
  | p :: E, g => by
    obtain ⟨g1, g2⟩ := g
    obtain ⟨g3, g4⟩ := List.pairwise_cons.mp g2
    have ih := indE_good r (E := E) ⟨fun q hq => g1 q (List.mem_cons_of_mem _ hq), g4⟩
    have e : indE (p :: E) l = (if p.1 ∈ l ∧ p.2 ∈ l then [(pos l p.1, pos l p.2)] else []) ++ indE E l := rfl
    rw [e]
    split
    · rename_i h
      have q := g1 p List.mem_cons_self
      refine ⟨fun z hz => ?_, List.pairwise_cons.mpr ⟨fun z hz => ?_, ih.2⟩⟩
      · rcases List.mem_cons.mp hz with rfl | hz
        · have a := pos_range h.1
          have b := pos_range h.2
          have c := (pos_lt r h.1 h.2).mpr q.2.1
          simp
          omega
        · exact ih.1 z hz
      · obtain ⟨p', hp', h1, h2, rfl⟩ := mem_indE.mp hz
        rcases g3 p' hp' with c | ⟨c, d⟩
        · exact .inl ((pos_lt r h.1 h1).mpr c)
        · exact .inr ⟨by rw [c], (pos_lt r h.2 h2).mpr d⟩
    · exact ih
theorem indE_snoc (E : List (Int × Int)) (p : Int × Int) (l : List Int) : indE (E ++ [p]) l = indE E l ++ (if p.1 ∈ l ∧ p.2 ∈ l then [(pos l p.1, pos l p.2)] else []) := by
  unfold indE
  rw [List.flatMap_append]
  simp
theorem edges_len : ∀ {n : Nat} {E : List (Int × Int)}, GoodE n E → E.length ≤ n * n := by
  intro n E g
  have key : ∀ {E : List (Int × Int)}, GoodE n E → (E.map fun p => p.1 * (n : Int) + p.2).Pairwise (fun x y : Int => x < y) := by
    intro E
    induction E with
    | nil => intro _; exact List.Pairwise.nil
    | cons p E ih =>
      intro g
      obtain ⟨g1, g2⟩ := g
      obtain ⟨g3, g4⟩ := List.pairwise_cons.mp g2
      rw [List.map_cons]
      refine List.pairwise_cons.mpr ⟨fun z hz => ?_, ih ⟨fun q hq => g1 q (List.mem_cons_of_mem _ hq), g4⟩⟩
      obtain ⟨q, hq, rfl⟩ := List.mem_map.mp hz
      have b1 := g1 p List.mem_cons_self
      have b2 := g1 q (List.mem_cons_of_mem _ hq)
      show p.1 * (n : Int) + p.2 < q.1 * (n : Int) + q.2
      rcases g3 q hq with c | ⟨c, d⟩
      · have : (p.1 + 1) * (n : Int) ≤ q.1 * (n : Int) := Int.mul_le_mul_of_nonneg_right (by omega) (by omega)
        rw [Int.add_mul] at this
        omega
      · rw [c]
        omega
  have b := rise_len (lo := 0) (hi := (n : Int) * n) (key g) fun x hx => by
    obtain ⟨q, hq, rfl⟩ := List.mem_map.mp hx
    have b2 := g.1 q hq
    have h1 : 0 ≤ q.1 * (n : Int) := Int.mul_nonneg b2.1 (by omega)
    have h2 : (q.1 + 1) * (n : Int) ≤ (n : Int) * n := Int.mul_le_mul_of_nonneg_right (by omega) (by omega)
    rw [Int.add_mul] at h2
    omega
  rw [List.length_map] at b
  have h3 : (0 : Int) ≤ (n : Int) * n := Int.mul_nonneg (by omega) (by omega)
  have h4 : ((n * n : Nat) : Int) = (n : Int) * n := by simp
  omega
theorem edges_small {n : Nat} {E : List (Int × Int)} (g : GoodE n E) (h : n ≤ 40) : E.length ≤ 1600 := by
  have a := edges_len g
  have b : n * n ≤ 40 * 40 := Nat.mul_le_mul h h
  omega
end G3

set_option maxHeartbeats 2000000
namespace G3
open PySem PySem.Spec PyProof.Rows L2
/-! ### defs as their callers see them -/
/-- the def x, at level k, keeps sp -/
def OkD (P : Program) (w : World) (K : PySem.W.Frag) (mg : Str → Option Value) (base : Heap) (k : Nat) (x : Str) (ps : List Str) (sp : Sp) : Prop :=
  ∃ fd, FnOk P w K mg base CX0 k (He.ga K x) fd ps sp ∧ mg x = some (.ref (He.ga K x)) ∧ PySem.W.keepIn K (.ref (He.ga K x)) = true ∧ Binds K fd ps []
/-- the method x of Graph -/
def OkM (P : Program) (w : World) (K : PySem.W.Frag) (mg : Str → Option Value) (base : Heap) (k : Nat) (x : Str) (ps : List Str) (sp : Sp) : Prop :=
  ∃ fd, FnOk P w K mg base CX0 k (He.ma K (He.ga K "Graph") x) fd ps sp ∧ Binds K fd ps []
theorem okD_mk {P : Program} {w : World} {K : PySem.W.Frag} {mg : Str → Option Value} {base : Heap} {k : Nat} {x q : Str} {ps : List Str} {sp : Sp} {pa : Arguments} {bd : List Stmt} {sc : Scope} {fd : FuncData}
    (F : FunD K x q pa bd sc [] [] (He.ga K x) fd) (g : mg x = some (.ref (He.ga K x)))
    (h : ∀ (kV doc pm : Value) (an : Option Addr) (cdv ct : Value) (us : List Value), us.length = ps.length → bindArgs (PySem.W.fnOf x q pa bd sc .none kV doc pm an cdv ct) ⟨us, []⟩ = pure (ps.zip us))
    (ok : FnOk P w K mg base CX0 k (He.ga K x) fd ps sp) : OkD P w K mg base k x ps sp := ⟨fd, ok, g, F.kp, F.bindsN h⟩
theorem okM_mk {P : Program} {w : World} {K : PySem.W.Frag} {mg : Str → Option Value} {base : Heap} {k : Nat} {x q : Str} {ps : List Str} {sp : Sp} {pa : Arguments} {bd : List Stmt} {sc : Scope} {fd : FuncData}
    (F : FunD K x q pa bd sc [] [] (He.ma K (He.ga K "Graph") x) fd)
    (h : ∀ (kV doc pm : Value) (an : Option Addr) (cdv ct : Value) (us : List Value), us.length = ps.length → bindArgs (PySem.W.fnOf x q pa bd sc .none kV doc pm an cdv ct) ⟨us, []⟩ = pure (ps.zip us))
    (ok : FnOk P w K mg base CX0 k (He.ma K (He.ga K "Graph") x) fd ps sp) : OkM P w K mg base k x ps sp := ⟨fd, ok, F.bindsN h⟩
section
variable {X : Cx} {k : Nat} {x m : Str} {ps : List Str} {sp : Sp} {p pos apos : Pos} {e o : Expr} {es : List Expr} {ta : TE} {t : TA}
theorem pe_callD (D : OkD X.prog X.w X.K X.mg X.base k x ps sp) (hr : Room k X.A) (ha : PA X (e :: es) t) (hg : Gl X x := by rfl)
    (hdb : (x == ("__debug__" : Str)) = false := by decide) (he : starEach (e :: es) X.env = (false, eval e X.env) :: starEach es X.env := by rfl) (hpl : (backTo pos (starEach es X.env)).any (·.1) = false := by rfl) :
    PE X (.Call (.Name x p) (e :: es) [] pos) (tCall sp [] E0 t) := by
  obtain ⟨fd, F, hm, hk, hb⟩ := D
  exact pe_call F hr hg hm hk hb .nil pass0 ha hdb he hpl
theorem pe_methG {pl : Sem Bool} (W : Hd X.K X.mg) (D : OkM X.prog X.w X.K X.mg X.base k m ps sp) (hm : Meth X.K (He.ga X.K "Graph") m (He.ma X.K (He.ga X.K "Graph") m)) (he : PE X o ta) (hr : Room k X.A) (ha : PA X (e :: es) t)
    (hst : starEach (e :: es) X.env = (false, eval e X.env) :: starEach es X.env := by rfl) (hpl : (backTo pos (starEach es X.env)).any (·.1) = false := by rfl)
    (ht : eval (.Call (.Attribute o m apos) (e :: es) [] pos) X.env = (do
      let ov ← eval o X.env
      standAt apos.atName
      let (f, first) ← holding [ov] (getMethod ov m pl)
      callWith pos f first (backTo pos (starEach (e :: es) X.env)) (backToKw pos (keywordEach [] X.env))) := by rfl) :
    PE X (.Call (.Attribute o m apos) (e :: es) [] pos) (tMeth (He.ga X.K "Graph") m sp [] E0 ta t) := by
  obtain ⟨fd, F, hb⟩ := D
  exact pe_meth (pl := pl) he W.cl_Graph hm F hr hb .nil pass0 ha hst hpl ht
theorem pe_makeG (W : Hd X.K X.mg) (D : OkM X.prog X.w X.K X.mg X.base k "__init__" ps sp) (hr : Room (k + 1) X.A) (ha : PA X (e :: es) t) (hg : Gl X "Graph" := by rfl)
    (he : starEach (e :: es) X.env = (false, eval e X.env) :: starEach es X.env := by rfl) (hpl : (backTo pos (starEach es X.env)).any (·.1) = false := by rfl) :
    PE X (.Call (.Name "Graph" p) (e :: es) [] pos) (tMake (He.ga X.K "Graph") sp [] E0 t) := by
  obtain ⟨fd, F, hb⟩ := D
  exact pe_make W.mk_Graph F hr hg W.mg_Graph hb .nil pass0 ha (by decide) he hpl
theorem pe_globI {n : Int} (hg : Gl X x) (h : ∃ t, X.mg x = some (.int n t)) (hd : (x == ("__debug__" : Str)) = false := by decide) : PE X (.Name x pos) (tC (.int n)) := by
  obtain ⟨t, e⟩ := h
  exact pe_glob hg e ⟨t, rfl⟩ hd
end
/-! ### heaps -/
theorem Same.new {H0 H : Hp} {p : Addr} {o : HO} (s : Same H0 H) (n : H p = none) : Same H0 (upd H p o) := fun b u e => by
  rw [upd_ne (ne_of_none (s b u e) n)]
  exact s b u e
theorem Same.mut {H0 H : Hp} {p : Addr} {o : HO} (s : Same H0 H) (n : H0 p = none) : Same H0 (upd H p o) := fun b u e => by
  rw [upd_ne (ne_of_none e n)]
  exact s b u e
theorem Same.get {H H' : Hp} {a : Addr} {o : HO} (s : Same H H') (h : H a = some o) : H' a = some o := s a o h
theorem hp_new {H : Hp} {a p : Addr} {o o' : HO} (h : H a = some o) (n : H p = none) : upd H p o' a = some o := by
  rw [upd_ne (ne_of_none h n)]
  exact h
theorem hp_ne {H : Hp} {a p : Addr} {o o' : HO} (h : H a = some o) (n : a ≠ p) : upd H p o' a = some o := by
  rw [upd_ne n]
  exact h
theorem hp_none {H : Hp} {a p : Addr} {o' : HO} (h : H a = none) (n : a ≠ p) : upd H p o' a = none := by
  rw [upd_ne n]
  exact h
theorem new_ne {H : Hp} {a p : Addr} {o : HO} (n : upd H p o a = none) : a ≠ p := fun e => by
  rw [e, upd_same] at n
  cases n
theorem new_old {H : Hp} {a p : Addr} {o : HO} (n : upd H p o a = none) : H a = none := by
  rw [upd_ne (new_ne n)] at n
  exact n
/-! ### what is represented: a value v at the heap H is the datum x, off the addresses M -/
abbrev Av : Type := Addr → Prop
def No : Av := fun _ => False
/-- what is off M in H stands in H' too, off M' -/
def Mov (M : Av) (H : Hp) (M' : Av) (H' : Hp) : Prop := ∀ b o, ¬ M b → H b = some o → H' b = some o ∧ ¬ M' b
theorem Mov.same {M : Av} {H H' : Hp} (s : Same H H') : Mov M H M H' := fun b o m e => ⟨s b o e, m⟩
theorem Mov.weak {M M' : Av} {H : Hp} (h : ∀ b, M' b → M b) : Mov M H M' H := fun b o m e => ⟨e, fun z => m (h b z)⟩
theorem Mov.trans {M1 M2 M3 : Av} {H1 H2 H3 : Hp} (a : Mov M1 H1 M2 H2) (b : Mov M2 H2 M3 H3) : Mov M1 H1 M3 H3 := fun c o m e => b c o (a c o m e).2 (a c o m e).1
theorem Mov.mut {M : Av} {H : Hp} {p : Addr} {o : HO} (h : M p) : Mov M H M (upd H p o) := fun b u m e => ⟨by
  have n : b ≠ p := fun z => m (by rw [z]; exact h)
  rw [upd_ne n]
  exact e, m⟩
theorem Mov.new {M : Av} {H : Hp} {p : Addr} {o : HO} (h : H p = none) : Mov M H M (upd H p o) := .same (Same.new (Same.refl H) h)
/-- from the entry's heap, where M's addresses were not yet -/
theorem Mov.of {M : Av} {H0 H : Hp} (s : Same H0 H) (h : ∀ b, M b → H0 b = none) : Mov No H0 M H := fun b o _ e => ⟨s b o e, fun z => by
  rw [h b z] at e
  cases e⟩
/-- the addresses that are tracked -/
def Trk (H : Hp) : Av := fun b => H b ≠ none
theorem Mov.trk {M : Av} {H H' : Hp} (h : ∀ b, M b → H b ≠ none) : Mov (Trk H) H' M H' := .weak h
theorem Mov.drop {M : Av} {H : Hp} : Mov M H No H := .weak fun _ z => z.elim
abbrev Rp (α : Type) : Type := Av → Hp → V → α → Prop
/-- a representation that moves -/
structure Frm {α : Type} (r : Rp α) : Prop where
  mv : ∀ {M M' : Av} {H H' : Hp} {v : V} {x : α}, Mov M H M' H' → r M H v x → r M' H' v x
def AtL (M : Av) (H : Hp) (v : V) (xs : List V) : Prop := ∃ a, v = .ref a ∧ ¬ M a ∧ H a = some (.lst xs)
def AtT (M : Av) (H : Hp) (v : V) (xs : List V) : Prop := ∃ a, v = .ref a ∧ ¬ M a ∧ H a = some (.tup xs)
theorem AtL.mov {M M' : Av} {H H' : Hp} {v : V} {xs : List V} (m : Mov M H M' H') (h : AtL M H v xs) : AtL M' H' v xs := by
  obtain ⟨a, e, n, h⟩ := h
  exact ⟨a, e, (m a _ n h).2, (m a _ n h).1⟩
theorem AtT.mov {M M' : Av} {H H' : Hp} {v : V} {xs : List V} (m : Mov M H M' H') (h : AtT M H v xs) : AtT M' H' v xs := by
  obtain ⟨a, e, n, h⟩ := h
  exact ⟨a, e, (m a _ n h).2, (m a _ n h).1⟩
def rInt : Rp Int := fun _ _ v i => v = .int i
def rStr : Rp Str := fun _ _ v z => v = .str z
def rInts : Rp (List Int) := fun M H v ns => AtL M H v (ns.map V.int)
def rStrs : Rp (List Str) := fun M H v ss => AtL M H v (ss.map V.str)
def rLst {α : Type} (r : Rp α) : Rp (List α) := fun M H v xs => ∃ vs, AtL M H v vs ∧ Paired (r M H) vs xs
def rPair : Rp (Int × Int) := fun M H v p => AtT M H v [.int p.1, .int p.2]
def rTup {α β : Type} (r : Rp α) (s : Rp β) : Rp (α × β) := fun M H v p => ∃ x y, AtT M H v [x, y] ∧ r M H x p.1 ∧ s M H y p.2
theorem rInt.frm : Frm rInt := ⟨fun _ h => h⟩
theorem rStr.frm : Frm rStr := ⟨fun _ h => h⟩
theorem rInts.frm : Frm rInts := ⟨fun m h => AtL.mov m h⟩
theorem rStrs.frm : Frm rStrs := ⟨fun m h => AtL.mov m h⟩
theorem rPair.frm : Frm rPair := ⟨fun m h => AtT.mov m h⟩
theorem rLst.frm {α : Type} {r : Rp α} (f : Frm r) : Frm (rLst r) := ⟨fun m ⟨vs, h, p⟩ => ⟨vs, h.mov m, L2.Paired.mapP p fun _ _ z => f.mv m z⟩⟩
theorem rTup.frm {α β : Type} {r : Rp α} {s : Rp β} (f : Frm r) (g : Frm s) : Frm (rTup r s) := ⟨fun m ⟨x, y, h, p, q⟩ => ⟨x, y, h.mov m, f.mv m p, g.mv m q⟩⟩
theorem Paired.get {α β : Type} {R : α → β → Prop} : ∀ {xs : List α} {ys : List β} {i : Nat} {x : α}, Paired R xs ys → xs[i]? = some x → ∃ y, ys[i]? = some y ∧ R x y
  | _, _, _, _, .nil, e => by simp at e
  | _, _, 0, _, .cons r _, e => by simp at e; subst e; exact ⟨_, rfl, r⟩
  | _, _, i + 1, x, .cons _ t, e => by
    obtain ⟨u, h1, h2⟩ := Paired.get (i := i) (x := x) t (by simpa using e)
    exact ⟨u, by simpa using h1, h2⟩
theorem Paired.get' {α β : Type} {R : α → β → Prop} : ∀ {xs : List α} {ys : List β} {i : Nat} {y : β}, Paired R xs ys → ys[i]? = some y → ∃ x, xs[i]? = some x ∧ R x y
  | _, _, _, _, .nil, e => by simp at e
  | _, _, 0, _, .cons r _, e => by simp at e; subst e; exact ⟨_, rfl, r⟩
  | _, _, i + 1, y, .cons _ t, e => by
    obtain ⟨u, h1, h2⟩ := Paired.get' (i := i) (y := y) t (by simpa using e)
    exact ⟨u, by simpa using h1, h2⟩
theorem Paired.app {α β : Type} {R : α → β → Prop} : ∀ {xs xs' : List α} {ys ys' : List β}, Paired R xs ys → Paired R xs' ys' → Paired R (xs ++ xs') (ys ++ ys')
  | _, _, _, _, .nil, h => h
  | _, _, _, _, .cons r t, h => .cons r (Paired.app t h)
theorem Paired.snoc {α β : Type} {R : α → β → Prop} {xs : List α} {ys : List β} {x : α} {y : β} (h : Paired R xs ys) (r : R x y) : Paired R (xs ++ [x]) (ys ++ [y]) := Paired.app h (.cons r .nil)
theorem Paired.split {α β : Type} {R : α → β → Prop} : ∀ {xs : List α} {pre post : List β}, Paired R xs (pre ++ post) → ∃ a b, xs = a ++ b ∧ Paired R a pre ∧ Paired R b post
  | xs, [], post, h => ⟨[], xs, rfl, .nil, h⟩
  | _, y :: pre, post, .cons r t => by
    obtain ⟨a, b, e, p, q⟩ := Paired.split t
    exact ⟨_ :: a, b, by rw [e]; rfl, .cons r p, q⟩
theorem Paired.len {α β : Type} {R : α → β → Prop} : ∀ {xs : List α} {ys : List β}, Paired R xs ys → xs.length = ys.length
  | _, _, .nil => rfl
  | _, _, .cons _ t => by simp [Paired.len t]
theorem sq_of {K : PySem.W.Frag} {H : Hp} {a : Addr} {xs : List V} (h : H a = some (.lst xs)) : SqL K H a xs := .inl (.inl h)
theorem st_of {K : PySem.W.Frag} {H : Hp} {a : Addr} {xs : List V} (h : H a = some (.tup xs)) : SqT K H a xs := .inl (.inl h)
/-! ### readings, one step at a time -/
section
variable {K : PySem.W.Frag} {σ : L2.St} {H : Hp} {Q : VK} {D : Ends} {v x y : V} {i j : Int} {te ta tb tc : TE} {t u : TS} {c c' : TT} {b : Bool} {QB : Bool → Hp → Prop}
theorem g_seq {nx bk ct : L2.St → Hp → Prop} {rt : VK} (h : t ⟨u ⟨nx, rt, bk, ct⟩, rt, bk, ct⟩ σ H) : tSeq t u ⟨nx, rt, bk, ct⟩ σ H := h
theorem g_asg {g : TG} (h : te σ H fun x H1 => g x σ H1 D.nx) : tAsg te g D σ H := h
theorem g_name {i : Nat} {Q : L2.St → Hp → Prop} (h : Q (σ.set i (some v)) H) : gName i v σ H Q := h
theorem g_var {i : Nat} (e : σ[i]? = some (some v)) (h : Q v H) : tVar i σ H Q := ⟨v, e, h⟩
theorem g_c (h : Q v H) : tC v σ H Q := h
theorem g_op {r : R2} (h : ta σ H fun x H1 => tb σ H1 fun y H2 => r x y H2 Q) : tOp r ta tb σ H Q := h
theorem g_un {r : V → Hp → VK → Prop} (h : ta σ H fun x H1 => r x H1 Q) : tUn r ta σ H Q := h
theorem g_rI0 {g : Int → Int → V} (h : Q (g i j) H) : rI0 g (.int i) (.int j) H Q := ⟨i, j, rfl, rfl, h⟩
theorem g_rI {C : Int → Int → Prop} {g : Int → Int → V} (h : C i j) (k : Q (g i j) H) : rI C g (.int i) (.int j) H Q := ⟨i, j, rfl, rfl, h, k⟩
theorem g_rU {g : Int → V} (h : Q (g i) H) : rU g (.int i) H Q := ⟨i, rfl, h⟩
theorem dec_int : decide (V.int i = V.int j) = decide (i = j) := by
  by_cases e : i = j
  · rw [e, decide_eq_true rfl, decide_eq_true rfl]
  · rw [decide_eq_false e, decide_eq_false fun z => e (V.int.inj z)]
theorem dec_str {x y : Str} : decide (V.str x = V.str y) = decide (x = y) := by
  by_cases e : x = y
  · rw [e, decide_eq_true rfl, decide_eq_true rfl]
  · rw [decide_eq_false e, decide_eq_false fun z => e (V.str.inj z)]
theorem dec_bl {x y : Bool} : decide (V.bl x = V.bl y) = decide (x = y) := by
  by_cases e : x = y
  · rw [e, decide_eq_true rfl, decide_eq_true rfl]
  · rw [decide_eq_false e, decide_eq_false fun z => e (V.bl.inj z)]
theorem g_eqI (h : Q (.bl (decide (i = j))) H) : rEq (.int i) (.int j) H Q := ⟨rfl, by rw [dec_int]; exact h⟩
theorem g_eqS {x y : Str} (h : Q (.bl (decide (x = y))) H) : rEq (.str x) (.str y) H Q := ⟨rfl, by rw [dec_str]; exact h⟩
theorem g_neI (h : Q (.bl (decide (¬ i = j))) H) : rNe (.int i) (.int j) H Q := ⟨rfl, by rw [dec_int, ← decide_not]; exact h⟩
theorem g_neS {x y : Str} (h : Q (.bl (decide (¬ x = y))) H) : rNe (.str x) (.str y) H Q := ⟨rfl, by rw [dec_str, ← decide_not]; exact h⟩
theorem g_test (h : te σ H fun x H' => ∃ k, x = .bl k ∧ QB k H') : tTest te σ H QB := h
theorem g_tB (h : te σ H fun x H' => ∃ k, x = .bl k ∧ QB k H') : tB te σ H QB := h
theorem g_bl {Q : Bool → Prop} (h : Q b) : ∃ k, V.bl b = V.bl k ∧ Q k := ⟨b, rfl, h⟩
theorem g_and (h : c σ H fun b H1 => if b = true then c' σ H1 QB else QB false H1) : tAnd c c' σ H QB := h
theorem g_or (h : c σ H fun b H1 => if b = true then QB true H1 else c' σ H1 QB) : tOr c c' σ H QB := h
theorem g_not (h : c σ H fun b H1 => QB (!b) H1) : tNot c σ H QB := h
theorem g_ifS (h : c σ H fun b H1 => if b = true then t D σ H1 else u D σ H1) : tIfS c t u D σ H := h
theorem g_ifE (h : c σ H fun b H1 => if b = true then ta σ H1 Q else tb σ H1 Q) : tIf c ta tb σ H Q := h
theorem g_andV (h : ta σ H fun x H1 => ∃ c, x = .bl c ∧ if c = true then tb σ H1 Q else Q (.bl false) H1) : tAndV ta tb σ H Q := h
theorem g_orV (h : ta σ H fun x H1 => ∃ c, x = .bl c ∧ if c = true then Q (.bl true) H1 else tb σ H1 Q) : tOrV ta tb σ H Q := h
theorem g_notV (h : ta σ H fun x H1 => ∃ c, x = .bl c ∧ Q (.bl (!c)) H1) : tNotV ta σ H Q := h
theorem g_chain {r r' : R2} (h : ta σ H fun x H1 => tb σ H1 fun y H2 => r x y H2 fun z H3 => ∃ k, z = .bl k ∧ (if k = true then tc σ H3 fun w' H4 => r' y w' H4 Q else Q (.bl false) H3)) : tChain r r' ta tb tc σ H Q := h
theorem g_iteT {A B : Prop} (h : A) : if true = true then A else B := iteT h
theorem g_iteF {A B : Prop} (h : B) : if false = true then A else B := iteF h
theorem g_iteNT {A B : Prop} (h : B) : if (!true) = true then A else B := iteF h
theorem g_iteNF {A B : Prop} (h : A) : if (!false) = true then A else B := iteT h
theorem g_ite {A B p : Prop} [Decidable p] (h1 : p → A) (h2 : ¬ p → B) : if decide p = true then A else B := ite2 (fun z => h1 (of_decide_eq_true z)) fun z => h2 fun q => z (decide_eq_true q)
theorem g_iteN {A B p : Prop} [Decidable p] (h1 : p → B) (h2 : ¬ p → A) : if (!decide p) = true then A else B := by
  by_cases e : p
  · rw [decide_eq_true e]; exact iteF (h1 e)
  · rw [decide_eq_false e]; exact iteT (h2 e)
theorem g_iteP {A B p : Prop} [Decidable p] (e : p) (h : A) : if decide p = true then A else B := by rw [decide_eq_true e]; exact iteT h
theorem g_iteQ {A B p : Prop} [Decidable p] (e : ¬ p) (h : B) : if decide p = true then A else B := by rw [decide_eq_false e]; exact iteF h
theorem g_iteNP {A B p : Prop} [Decidable p] (e : p) (h : B) : if (!decide p) = true then A else B := by rw [decide_eq_true e]; exact iteF h
theorem g_iteNQ {A B p : Prop} [Decidable p] (e : ¬ p) (h : A) : if (!decide p) = true then A else B := by rw [decide_eq_false e]; exact iteT h
theorem g_ret {nx bk ct : L2.St → Hp → Prop} {rt : VK} (h : te σ H rt) : tRet te ⟨nx, rt, bk, ct⟩ σ H := h
theorem g_drop (h : te σ H fun _ H1 => D.nx σ H1) : tDrop te D σ H := h
theorem g_next (h : D.nx σ H) : tNext D σ H := h
theorem g_brk (h : D.bk σ H) : tBreak D σ H := h
theorem g_cnt (h : D.ct σ H) : tCont D σ H := h
theorem g_nil {Q : List V → Hp → Prop} (h : Q [] H) : tNil σ H Q := h
theorem g_cons {tr : TA} {Q : List V → Hp → Prop} (h : ta σ H fun x H1 => tr σ H1 fun xs H2 => Q (x :: xs) H2) : tCons ta tr σ H Q := h
theorem g_callB {r : List V → Hp → VK → Prop} {tr : TA} (h : tr σ H fun vs H1 => r vs H1 Q) : tCB r tr σ H Q := h
theorem g_call {sp : Sp} {E : XK} {tr : TA} (h : tr σ H fun vs H1 => sp vs H1 Q E) : tCall sp [] E tr σ H Q := by
  show tr σ H fun vs H1 => sp (vs ++ []) H1 Q E
  have e : (fun vs H1 => sp (vs ++ []) H1 Q E) = fun vs H1 => sp vs H1 Q E := by
    funext vs H1
    rw [List.append_nil]
  rw [e]
  exact h
theorem g_isi {T : String} {ty : Value} (k : TyX K H x ty) (e : PySem.W.kitOne K ty (.type T) = some b) (h : Q (.bl b) H) : rIsi K [x, .ty T] H Q := ⟨x, .ty T, ty, .type T, b, rfl, .ty T, k, e, h⟩
theorem g_isi_i_int (h : Q (.bl true) H) : rIsi K [.int i, .ty "int"] H Q := g_isi (.base (.int i)) (kit_ty (by decide +kernel)) h
theorem g_isi_i_bool (h : Q (.bl false) H) : rIsi K [.int i, .ty "bool"] H Q := g_isi (.base (.int i)) (kit_ty (by decide +kernel)) h
theorem g_isi_i_list (h : Q (.bl false) H) : rIsi K [.int i, .ty "list"] H Q := g_isi (.base (.int i)) (kit_ty (by decide +kernel)) h
theorem g_isi_i_tuple (h : Q (.bl false) H) : rIsi K [.int i, .ty "tuple"] H Q := g_isi (.base (.int i)) (kit_ty (by decide +kernel)) h
theorem g_isi_i_str (h : Q (.bl false) H) : rIsi K [.int i, .ty "str"] H Q := g_isi (.base (.int i)) (kit_ty (by decide +kernel)) h
theorem g_isi_s_str {z : Str} (h : Q (.bl true) H) : rIsi K [.str z, .ty "str"] H Q := g_isi (.base (.str z)) (kit_ty (by decide +kernel)) h
theorem g_isi_s_int {z : Str} (h : Q (.bl false) H) : rIsi K [.str z, .ty "int"] H Q := g_isi (.base (.str z)) (kit_ty (by decide +kernel)) h
theorem g_isi_s_bool {z : Str} (h : Q (.bl false) H) : rIsi K [.str z, .ty "bool"] H Q := g_isi (.base (.str z)) (kit_ty (by decide +kernel)) h
theorem g_isi_s_list {z : Str} (h : Q (.bl false) H) : rIsi K [.str z, .ty "list"] H Q := g_isi (.base (.str z)) (kit_ty (by decide +kernel)) h
theorem g_isi_s_tuple {z : Str} (h : Q (.bl false) H) : rIsi K [.str z, .ty "tuple"] H Q := g_isi (.base (.str z)) (kit_ty (by decide +kernel)) h
theorem g_isi_l_list {a : Addr} {xs : List V} (e : H a = some (.lst xs)) (h : Q (.bl true) H) : rIsi K [.ref a, .ty "list"] H Q := g_isi (.base (.lst e)) (kit_ty (by decide +kernel)) h
theorem g_isi_l_tuple {a : Addr} {xs : List V} (e : H a = some (.lst xs)) (h : Q (.bl false) H) : rIsi K [.ref a, .ty "tuple"] H Q := g_isi (.base (.lst e)) (kit_ty (by decide +kernel)) h
theorem g_isi_l_int {a : Addr} {xs : List V} (e : H a = some (.lst xs)) (h : Q (.bl false) H) : rIsi K [.ref a, .ty "int"] H Q := g_isi (.base (.lst e)) (kit_ty (by decide +kernel)) h
theorem g_isi_t_tuple {a : Addr} {xs : List V} (e : H a = some (.tup xs)) (h : Q (.bl true) H) : rIsi K [.ref a, .ty "tuple"] H Q := g_isi (.base (.tup e)) (kit_ty (by decide +kernel)) h
theorem g_isi_t_list {a : Addr} {xs : List V} (e : H a = some (.tup xs)) (h : Q (.bl false) H) : rIsi K [.ref a, .ty "list"] H Q := g_isi (.base (.tup e)) (kit_ty (by decide +kernel)) h
/-! readings that the modules leave without a name -/
def rIsN : R2 := fun x y H Q => y = .non ∧ Q (.bl (decide (x = .non))) H
def rNotN : R2 := fun x y H Q => y = .non ∧ Q (.bl (!decide (x = .non))) H
def rIsBl : R2 := fun x y H Q => ∃ a b, x = .bl a ∧ y = .bl b ∧ Q (.bl (decide (a = b))) H
def rNotBl : R2 := fun x y H Q => ∃ a b, x = .bl a ∧ y = .bl b ∧ Q (.bl (!decide (a = b))) H
def rLenS (K : PySem.W.Frag) : List V → Hp → VK → Prop := fun xs H Q => ∃ p ys, xs = [.ref p] ∧ (SqL K H p ys ∨ SqT K H p ys) ∧ Q (.int (ys.length : Nat)) H
def rListS (K : PySem.W.Frag) : List V → Hp → VK → Prop := fun xs H Q => ∃ p ys, xs = [.ref p] ∧ (SqL K H p ys ∨ SqT K H p ys) ∧ ∀ l, H l = none → Q (.ref l) (upd H l (.lst ys))
def rMin2 : List V → Hp → VK → Prop := fun xs H Q => ∃ i j, xs = [.int i, .int j] ∧ Q (.int (if j < i then j else i)) H
def rMax2 : List V → Hp → VK → Prop := fun xs H Q => ∃ i j, xs = [.int i, .int j] ∧ Q (.int (if j > i then j else i)) H
def rStrI : List V → Hp → VK → Prop := fun xs H Q => ∃ i, xs = [.int i] ∧ i.natAbs.log2 < 1920 ∧ Q (.str (toString i)) H
def rSortD : List V → Hp → VK → Prop := fun xs H Q => ∃ (a : Addr) (kvs : List (Key × V)) (ks : List Int), xs = [.ref a] ∧ Rd H a (.dK kvs) ∧ kvs.map (·.1) = ks.map Sum.inl ∧ ks.length < 64 ∧ ∀ (ys : List Int) (p : Addr), ys.Perm ks → ys.Pairwise (· ≤ ·) → H p = none → Q (.ref p) (upd H p (.lst (ys.map V.int)))
theorem op_isNq {X : Cx} : OpR X (compareOp .Is) rIsN := op_isN
theorem op_notNq {X : Cx} : OpR X (compareOp .IsNot) rNotN := op_notN
theorem op_isBq {X : Cx} : OpR X (compareOp .Is) rIsBl := op_is_bl
theorem op_notBq {X : Cx} : OpR X (compareOp .IsNot) rNotBl := op_isnot_bl
theorem call_lenS {X : Cx} : CallR X (.builtin "len") (rLenS X.K) := call_len_seq
theorem call_listS {X : Cx} : CallR X (.type "list") (rListS X.K) := call_list_of
theorem call_min2q {X : Cx} (hc : X.calm = true) : CallR X (.builtin "min") rMin2 := call_min2 hc
theorem call_max2q {X : Cx} (hc : X.calm = true) : CallR X (.builtin "max") rMax2 := call_max2 hc
theorem call_strS {X : Cx} : CallR X (.type "str") rStrI := call_str_int
theorem call_sortedDq {X : Cx} (hc : X.calm = true) : CallR X (.builtin "sorted") rSortD := call_sortedDI hc
theorem ix_listK {X : Cx} (K : PySem.W.Frag) (hK : X.K = K := by rfl) : IxR X (rIxL K) := hK ▸ ix_list
theorem ix_tupK {X : Cx} (K : PySem.W.Frag) (hK : X.K = K := by rfl) : IxR X (rIxT K) := hK ▸ ix_tup
theorem op_inK {X : Cx} (K : PySem.W.Frag) (hK : X.K = K := by rfl) : OpR X (compareOp .In) (rIn K false) := hK ▸ op_in_seq
theorem op_ninK {X : Cx} (K : PySem.W.Frag) (hK : X.K = K := by rfl) : OpR X (compareOp .NotIn) (rIn K true) := hK ▸ op_notIn_seq
theorem call_lenK {X : Cx} (K : PySem.W.Frag) (hK : X.K = K := by rfl) : CallR X (.builtin "len") (rLenS K) := hK ▸ call_lenS
theorem call_listK {X : Cx} (K : PySem.W.Frag) (hK : X.K = K := by rfl) : CallR X (.type "list") (rListS K) := hK ▸ call_listS
theorem call_isiK {X : Cx} (K : PySem.W.Frag) (hK : X.K = K := by rfl) : CallR X (.builtin "isinstance") (rIsi K) := hK ▸ call_isi
theorem cr_sortedK {X : Cx} (K : PySem.W.Frag) (hK : X.K = K := by rfl) : CallR X (.builtin "sorted") (rSortedI K) := hK ▸ cr_sortedI
theorem cr_sortedPK {X : Cx} (K : PySem.W.Frag) (hK : X.K = K := by rfl) : CallR X (.builtin "sorted") (rSortedPO K) := hK ▸ cr_sortedPO
theorem sl_listK {X : Cx} (K : PySem.W.Frag) (hK : X.K = K := by rfl) : SlR X (rSlL K) := hK ▸ sl_list
theorem pg_tupK {X : Cx} {pos : Pos} (K : PySem.W.Frag) {es : List Expr} {k : Nat} {t : TGs} {n : Nat} (hc : X.calm = true) (h : PGs X es t) (hK : X.K = K := by rfl)
    (hn : (assignEach es X.env).length = n := by rfl) (hst : (assignEach es X.env).findIdx? (·.1) = none := by rfl) : PG X (.Tuple es k pos) (gTup K n t) := hK ▸ pg_tup hc h hn hst
theorem pe_bmK {X : Cx} (K : PySem.W.Frag) {T : String} {name : Str} {id : String} {r : V → List V → Hp → VK → Prop} {o e : Expr} {es : List Expr} {to : TE} {t : TA} {apos cpos : Pos} (pa : PlainAttrs T) (slot : Slot T name id) (hty : typeOf (.builtin id) = pure (.type "method_descriptor")) (hm : MtR X id r) (ho : PE X o to) (ha : PA X (e :: es) t)
    (hK : X.K = K := by rfl) (hbase : attributeBase o name X.env (eval o X.env) = eval o X.env := by rfl)
    (hfew : ((backTo cpos (starEach (e :: es) X.env)).all (fun x => !x.1) && (backToKw cpos (keywordEach [] X.env)).all (fun x => x.1.isSome)
      && decide ((e :: es).length + ([] : List Keyword).length + (if ([] : List Keyword).isEmpty then 0 else 1) < 30)) = true := by rfl)
    (hline : (apos.endLine == cpos.line) = true := by rfl) (hs : starEach (e :: es) X.env = (false, eval e X.env) :: starEach es X.env := by rfl) (hplain : (backTo cpos (starEach es X.env)).any (·.1) = false := by rfl) :
    PE X (.Call (.Attribute o name apos) (e :: es) [] cpos) (tBM K T r to t) := hK ▸ pe_bm pa slot hty hm ho ha hbase hfew hline hs hplain
theorem g_isNi (h : Q (.bl false) H) : rIsN (.int i) .non H Q := ⟨rfl, h⟩
theorem g_isNr {a : Addr} (h : Q (.bl false) H) : rIsN (.ref a) .non H Q := ⟨rfl, h⟩
theorem g_isNn (h : Q (.bl true) H) : rIsN .non .non H Q := ⟨rfl, h⟩
theorem g_notNi (h : Q (.bl true) H) : rNotN (.int i) .non H Q := ⟨rfl, h⟩
theorem g_notNr {a : Addr} (h : Q (.bl true) H) : rNotN (.ref a) .non H Q := ⟨rfl, h⟩
theorem g_notNn (h : Q (.bl false) H) : rNotN .non .non H Q := ⟨rfl, h⟩
theorem g_isBl {a b : Bool} (h : Q (.bl (decide (a = b))) H) : rIsBl (.bl a) (.bl b) H Q := ⟨a, b, rfl, rfl, h⟩
theorem g_notBl {a b : Bool} (h : Q (.bl (!decide (a = b))) H) : rNotBl (.bl a) (.bl b) H Q := ⟨a, b, rfl, rfl, h⟩
theorem g_lenM {α : Type} {f : α → V} {ns : List α} {a : Addr} (h : H a = some (.lst (ns.map f))) (k : Q (.int (ns.length : Nat)) H) : rLenS K [.ref a] H Q := ⟨a, _, rfl, .inl (sq_of h), by rw [List.length_map]; exact k⟩
theorem g_len {ys : List V} {a : Addr} (h : H a = some (.lst ys)) (k : Q (.int (ys.length : Nat)) H) : rLenS K [.ref a] H Q := ⟨a, _, rfl, .inl (sq_of h), k⟩
theorem g_lenT {ys : List V} {a : Addr} (h : H a = some (.tup ys)) (k : Q (.int (ys.length : Nat)) H) : rLenS K [.ref a] H Q := ⟨a, _, rfl, .inr (st_of h), k⟩
theorem g_strI (h : i.natAbs.log2 < 1920) (k : Q (.str (toString i)) H) : rStrI [.int i] H Q := ⟨i, rfl, h, k⟩
theorem in_ints {n : Int} {ns : List Int} : inV (V.int n) (ns.map V.int) = decide (n ∈ ns) := by
  unfold inV
  induction ns with
  | nil => simp
  | cons m r ih =>
    have e : eqV (V.int m) (V.int n) = decide (m = n) := by
      unfold eqV
      first
        | rfl
        | simp
    rw [List.map_cons, List.any_cons, ih, e]
    by_cases h : m = n
    · subst h; simp
    · have h' : ¬ n = m := fun z => h z.symm
      simp [h, h']
theorem flat_ints {ns : List Int} : (ns.map V.int).all flatV = true := by
  rw [List.all_map]
  exact List.all_eq_true.mpr fun _ _ => rfl
theorem g_in {n : Int} {ns : List Int} {a : Addr} (h : H a = some (.lst (ns.map V.int))) (k : Q (.bl (decide (n ∈ ns))) H) : rIn K false (.int n) (.ref a) H Q :=
  ⟨a, _, rfl, .inl (sq_of h), rfl, flat_ints, by show Q (.bl (inV _ _)) H; rw [in_ints]; exact k⟩
theorem g_nin {n : Int} {ns : List Int} {a : Addr} (h : H a = some (.lst (ns.map V.int))) (k : Q (.bl (decide (¬ n ∈ ns))) H) : rIn K true (.int n) (.ref a) H Q :=
  ⟨a, _, rfl, .inl (sq_of h), rfl, flat_ints, by show Q (.bl (!inV _ _)) H; rw [in_ints, ← decide_not]; exact k⟩
theorem atI_at {α : Type} {xs : List α} {i : Int} {v : α} (h0 : 0 ≤ i) (h : xs[i.toNat]? = some v) : atI xs i = some v := by
  have e : i = (i.toNat : Int) := by omega
  rw [e]
  exact atI_nat h
theorem g_ix {xs : List V} {a : Addr} (h : H a = some (.lst xs)) (e : atI xs i = some v) (k : Q v H) : rIxL K (.ref a) (.int i) H Q := ⟨a, xs, i, v, rfl, rfl, sq_of h, e, k⟩
theorem g_ixT {xs : List V} {a : Addr} (h : H a = some (.tup xs)) (e : atI xs i = some v) (k : Q v H) : rIxT K (.ref a) (.int i) H Q := ⟨a, xs, i, v, rfl, rfl, st_of h, e, k⟩
theorem atI_map {α β : Type} {f : α → β} {xs : List α} {i : Int} {v : α} (h : atI xs i = some v) : atI (xs.map f) i = some (f v) := by
  unfold atI at h ⊢
  rw [List.length_map]
  cases e : ixN xs.length i with
  | none => rw [e] at h; cases h
  | some j =>
    rw [e] at h
    have h' : xs[j]? = some v := h
    show (xs.map f)[j]? = some (f v)
    rw [List.getElem?_map, h']
    rfl
theorem g_ixI {xs : List Int} {a : Addr} {n : Int} (h : H a = some (.lst (xs.map V.int))) (e : atI xs i = some n) (k : Q (.int n) H) : rIxL K (.ref a) (.int i) H Q := g_ix h (atI_map e) k
theorem g_lst {tr : TA} (h : tr σ H fun xs H1 => xs.length ≤ sizeLine ∧ ∀ p, H1 p = none → Q (.ref p) (upd H1 p (.lst xs))) : tLst tr σ H Q := h
theorem g_tup {tr : TA} (h : tr σ H fun xs H1 => xs.length ≤ sizeLine ∧ ∀ p, H1 p = none → Q (.ref p) (upd H1 p (.tup xs))) : tTup tr σ H Q := h
theorem g_bm {r : V → List V → Hp → VK → Prop} {T : String} {tr : TA} (h : ta σ H fun x H1 => tyV K T x H1 ∧ tr σ H1 fun xs H2 => r x xs H2 Q) : tBM K T r ta tr σ H Q := h
theorem ty_l {xs : List V} {a : Addr} (h : H a = some (.lst xs)) : tyV K "list" (.ref a) H := .inl ⟨rfl, _, sq_of h⟩
theorem g_app {xs : List V} {l : Addr} (h : H l = some (.lst xs)) (n : xs.length < sizeLine) (k : Q .non (upd H l (.lst (xs ++ [y])))) : rAppend (.ref l) [y] H Q := ⟨l, xs, y, rfl, rfl, h, n, k⟩
theorem g_appI {xs : List Int} {l : Addr} (h : H l = some (.lst (xs.map V.int))) (n : xs.length < sizeLine) (k : Q .non (upd H l (.lst ((xs ++ [i]).map V.int)))) : rAppend (.ref l) [.int i] H Q :=
  ⟨l, _, _, rfl, rfl, h, by rw [List.length_map]; exact n, by rw [List.map_append] at k; exact k⟩
theorem g_par {i j : Nat} {ta : TA} (h : ta σ H fun vs H1 => ∃ v w, vs = [v, w] ∧ D.nx ((σ.set i (some v)).set j (some w)) H1) : tPar i j ta D σ H := h
theorem g_two {x y : V} {Q : V → V → Prop} (h : Q x y) : ∃ v w, [x, y] = [v, w] ∧ Q v w := ⟨x, y, rfl, h⟩
theorem g_aug {i : Nat} {ti : TIp} {x : V} (e : σ[i]? = some (some x)) (h : te σ H fun y H1 => ti x y H1 fun z H2 => D.nx (σ.set i (some z)) H2) : tAug i te ti D σ H := ⟨x, e, h⟩
theorem at0 {α : Type} {x : α} {r : List α} : atI (x :: r) 0 = some x := atI_at (Int.le_refl _) rfl
theorem g_t0 {t : Addr} {r : List V} (h : H t = some (.tup (x :: r))) (k : Q x H) : rIxT K (.ref t) (.int 0) H Q := g_ixT h at0 k
theorem g_t1 {t : Addr} {r : List V} (h : H t = some (.tup (x :: y :: r))) (k : Q y H) : rIxT K (.ref t) (.int 1) H Q := g_ixT h (atI_at (by decide) rfl) k
theorem g_l0 {a : Addr} {r : List V} (h : H a = some (.lst (x :: r))) (k : Q x H) : rIxL K (.ref a) (.int 0) H Q := g_ix h at0 k
theorem g_al0 {A : Prop} (h : A) : ([] : List V).length ≤ sizeLine ∧ A := ⟨Nat.zero_le _, h⟩
theorem g_al1 {A : Prop} (h : A) : ([x] : List V).length ≤ sizeLine ∧ A := ⟨by rw [sizeLine_eq]; simp, h⟩
theorem g_al2 {A : Prop} (h : A) : ([x, y] : List V).length ≤ sizeLine ∧ A := ⟨by rw [sizeLine_eq]; simp, h⟩
theorem g_al3 {A : Prop} {z : V} (h : A) : ([x, y, z] : List V).length ≤ sizeLine ∧ A := ⟨by rw [sizeLine_eq]; simp, h⟩
theorem g_al4 {A : Prop} {z w : V} (h : A) : ([x, y, z, w] : List V).length ≤ sizeLine ∧ A := ⟨by rw [sizeLine_eq]; simp, h⟩
theorem g_tyl {A : Prop} {a : Addr} {xs : List V} (e : H a = some (.lst xs)) (h : A) : tyV K "list" (.ref a) H ∧ A := ⟨ty_l e, h⟩
theorem small_of {n : Nat} (h : n ≤ 16000000) : n < sizeLine := by rw [sizeLine_eq]; omega
theorem g_slice {lo hi : Option Int} {xs : List V} {a : Addr} (h : H a = some (.lst xs)) (k : ∀ p, H p = none → Q (.ref p) (upd H p (.lst (cutV xs lo hi)))) : rSlL K (.ref a) lo hi H Q := ⟨a, xs, rfl, sq_of h, k⟩
theorem g_sl {r : V → Option Int → Option Int → Hp → VK → Prop} {tl th : TO} (h : ta σ H fun x H1 => tl σ H1 fun l H2 => th σ H2 fun u H3 => r x l u H3 Q) : tSl r ta tl th σ H Q := h
theorem g_part {Q : Option Int → Hp → Prop} (h : ta σ H fun x H1 => ∃ i, x = .int i ∧ Q (some i) H1) : tPart ta σ H Q := h
theorem g_nopart {Q : Option Int → Hp → Prop} (h : Q none H) : tNoPart σ H Q := h
theorem g_int1 {Q : Int → Prop} (h : Q i) : ∃ j, V.int i = V.int j ∧ Q j := ⟨i, rfl, h⟩
theorem g_ipI {f : Int → Int → Int} (h : Q (.int (f i j)) H) : ipI f (.int i) (.int j) H Q := ⟨i, j, rfl, rfl, h⟩
theorem g_rev (h : ta σ H fun x H1 => ∃ a xs, x = .ref a ∧ SqL K H1 a xs ∧ ∀ p, H1 p = none → Q (.ref p) (upd H1 p (.lst xs.reverse))) : tRevL K ta σ H Q := h
theorem g_cat {a b : Addr} {xs ys : List V} (h : H a = some (.lst xs)) (h' : H b = some (.lst ys)) (n : xs.length + ys.length ≤ sizeLine) (k : ∀ p, H p = none → Q (.ref p) (upd H p (.lst (xs ++ ys)))) : rCat (.ref a) (.ref b) H Q := ⟨a, b, xs, ys, rfl, rfl, h, h', n, k⟩
theorem g_listof {a : Addr} {xs : List V} (h : H a = some (.lst xs)) (k : ∀ p, H p = none → Q (.ref p) (upd H p (.lst xs))) : rListS K [.ref a] H Q := ⟨a, xs, rfl, .inl (sq_of h), k⟩
theorem g_sorted {a : Addr} {ns : List Int} (h : H a = some (.lst (ns.map V.int))) (k : ∀ p, H p = none → Q (.ref p) (upd H p (.lst ((isort ns).map V.int)))) : rSortedI K [.ref a] H Q :=
  ⟨a, ns, rfl, sq_of h, fun ns' p pm sr n => by rw [srt_eq (pm.trans (isort_perm ns).symm) sr (isort_srt ns)]; exact k p n⟩
theorem g_min2 (k : Q (.int (min i j)) H) : rMin2 [.int i, .int j] H Q := ⟨i, j, rfl, by
  have e : (if j < i then j else i) = min i j := by split <;> omega
  rw [e]
  exact k⟩
theorem g_max2 (k : Q (.int (max i j)) H) : rMax2 [.int i, .int j] H Q := ⟨i, j, rfl, by
  have e : (if j > i then j else i) = max i j := by split <;> omega
  rw [e]
  exact k⟩
theorem g_meth {C : Addr} {m : Str} {sp : Sp} {E : XK} {tr : TA} (h : ta σ H fun x H1 => ∃ a dx fs, x = .ref a ∧ H1 a = some (.ins C dx fs) ∧ fs.lookup m = none ∧ tr σ H1 fun vs H2 => sp (x :: vs) H2 Q E) : tMeth C m sp [] E ta tr σ H Q := by
  show ta σ H fun x H1 => ∃ a dx fs, x = .ref a ∧ H1 a = some (.ins C dx fs) ∧ fs.lookup m = none ∧ tr σ H1 fun vs H2 => sp (x :: (vs ++ [])) H2 Q E
  have e : ∀ x, (fun vs H1 => sp (x :: (vs ++ [])) H1 Q E) = fun vs H1 => sp (x :: vs) H1 Q E := fun x => by
    funext vs H1
    rw [List.append_nil]
  simp only [e]
  exact h
theorem lex2 {a b c d : Int} : Ob.lexAt (fun j => decide ([a, b].getD j 0 = [c, d].getD j 0)) (fun j => decide ([a, b].getD j 0 ≤ [c, d].getD j 0)) (decide ([a, b].length ≤ [c, d].length)) 0 (min [a, b].length [c, d].length) = decide (¬ plt (c, d) (a, b)) := by
  show (if decide (a = c) = true then (if decide (b = d) = true then decide (2 ≤ 2) else decide (b ≤ d)) else decide (a ≤ c)) = _
  unfold plt
  by_cases h : a = c
  · by_cases h' : b = d
    · subst h h'; simp
    · subst h
      simp only [decide_true, if_true, h', decide_false, Bool.false_eq_true, if_false]
      apply decide_eq_decide.mpr
      simp
  · simp only [h, decide_false, Bool.false_eq_true, if_false]
    apply decide_eq_decide.mpr
    simp
    omega
theorem g_leP {s t : Addr} {p q : Int × Int} (h : H s = some (.tup [.int p.1, .int p.2])) (h' : H t = some (.tup [.int q.1, .int q.2])) (k : Q (.bl (decide (¬ plt q p))) H) : rLeT K (.ref s) (.ref t) H Q :=
  ⟨s, t, [p.1, p.2], [q.1, q.2], rfl, rfl, st_of h, st_of h', by rw [lex2]; exact k⟩
end
end G3

set_option maxHeartbeats 2000000
namespace G3
open PySem PySem.Spec PyProof.Rows L2
/-! ### loops, over what is represented -/
/-- what is asked of a for over J -/
def ForW (J : It) (g : TG) (tb : TS) (D : Ends) (σ : L2.St) (H : Hp) : Prop := ∃ W : Nat → Nat → L2.St → Hp → Prop, (∃ m, W 0 m σ H) ∧ ∀ i m σ H, W i m σ H →
  (J.stop i H ∧ D.nx σ H) ∨ (J.go i H ∧ ∃ N : L2.St → Hp → Prop, (∀ σ' H', N σ' H' → ∃ m', m' < m ∧ W (i + 1) m' σ' H') ∧ ∀ x H', J.yld i H x H' → g x σ H' fun σ2 H2 => tb { D with nx := N, ct := N, bk := D.nx } σ2 H2)
section
variable {K : PySem.W.Frag} {σ : L2.St} {H : Hp} {D : Ends} {g : TG} {tb : TS}
theorem g_for {wi : TI} (h : wi σ H fun J H1 => ForW J g tb D σ H1) : tFor wi g tb D σ H := h
theorem g_iList {tl : TE} {R : It → Hp → Prop} (h : tl σ H fun x H1 => ∃ a, x = .ref a ∧ (∃ xs, SqL K H1 a xs) ∧ R (Itl K a) H1) : iList K tl σ H R := h
theorem g_iRng1 {ta : TA} {R : It → Hp → Prop} (h : ta σ H fun vs H1 => ∃ j : Int, vs = [.int j] ∧ -(2 ^ 62) ≤ j ∧ j < 2 ^ 62 ∧ R (Itr 0 j.toNat) H1) : iRng1 ta σ H R := h
theorem g_iRng2 {ta : TA} {R : It → Hp → Prop} (h : ta σ H fun vs H1 => ∃ i j : Int, vs = [.int i, .int j] ∧ (-(2 ^ 62) ≤ i ∧ i < 2 ^ 62 ∧ -(2 ^ 62) ≤ j ∧ j < 2 ^ 62) ∧ R (Itr i (j - i).toNat) H1) : iRng2 ta σ H R := h
theorem g_iEnum {ta : TA} {R : It → Hp → Prop} (h : ta σ H fun vs H1 => ∃ a xs, vs = [.ref a] ∧ SqL K H1 a xs ∧ R (Ite K a) H1) : iEnum K ta σ H R := h
theorem g_iZip {ta : TA} {R : It → Hp → Prop} (h : ta σ H fun vs H1 => ∃ a b xs ys, vs = [.ref a, .ref b] ∧ SqL K H1 a xs ∧ SqL K H1 b ys ∧ R (Itz K a b) H1) : iZip K ta σ H R := h
/-- over a list whose items stand for data: pre the data taken so far -/
theorem forW_rep {α : Type} {R : V → α → Prop} {a : Addr} {vs : List V} {ds : List α} (pr : Paired R vs ds) (Pv : List α → L2.St → Hp → Prop) (h0 : Pv [] σ H)
    (hl : ∀ pre σ' H', (∃ post, ds = pre ++ post) → Pv pre σ' H' → SqL K H' a vs)
    (hs : ∀ pre x d post σ' H', ds = pre ++ d :: post → R x d → Pv pre σ' H' → g x σ' H' fun σ2 H2 => tb { D with nx := Pv (pre ++ [d]), ct := Pv (pre ++ [d]), bk := D.nx } σ2 H2)
    (hd : ∀ σ' H', Pv ds σ' H' → D.nx σ' H') : ForW (Itl K a) g tb D σ H := by
  have hlen := Paired.len pr
  refine for_list (K := K) (a := a) (xs := vs) (fun i σ' H' => Pv (ds.take i) σ' H') h0 (fun i σ' H' _ p => hl _ σ' H' ⟨ds.drop i, (List.take_append_drop i ds).symm⟩ p) (fun i x σ' H' hx p => ?_) (fun σ' H' p => ?_)
  · obtain ⟨d, hd', r⟩ := Paired.get pr hx
    have hi : i < ds.length := (List.getElem?_eq_some_iff.mp hd').1
    have e : ds.take (i + 1) = ds.take i ++ [d] := by rw [List.take_add_one, hd']; rfl
    have e2 : ds = ds.take i ++ d :: ds.drop (i + 1) := by
      have q := List.take_append_drop i ds
      rw [← List.getElem_cons_drop hi] at q
      have e3 : ds[i] = d := (List.getElem?_eq_some_iff.mp hd').2
      rw [e3] at q
      exact q.symm
    rw [e]
    exact hs (ds.take i) x d (ds.drop (i + 1)) σ' H' e2 r p
  · rw [hlen, List.take_length] at p
    exact hd σ' H' p
theorem paired_map {α : Type} {f : α → V} : ∀ ds : List α, Paired (fun x d => x = f d) (ds.map f) ds
  | [] => .nil
  | d :: ds => .cons rfl (paired_map ds)
/-- for x in l: l a list at a -/
theorem for_rep {α : Type} {R : V → α → Prop} {a : Addr} {vs : List V} {ds : List α} (h : H a = some (.lst vs)) (pr : Paired R vs ds) (Pv : List α → L2.St → Hp → Prop) (h0 : Pv [] σ H)
    (hl : ∀ pre σ' H', (∃ post, ds = pre ++ post) → Pv pre σ' H' → H' a = some (.lst vs))
    (hs : ∀ pre x d post σ' H', ds = pre ++ d :: post → R x d → Pv pre σ' H' → g x σ' H' fun σ2 H2 => tb { D with nx := Pv (pre ++ [d]), ct := Pv (pre ++ [d]), bk := D.nx } σ2 H2)
    (hd : ∀ σ' H', Pv ds σ' H' → D.nx σ' H') : ∃ a', V.ref a = .ref a' ∧ (∃ xs, SqL K H a' xs) ∧ ForW (Itl K a') g tb D σ H :=
  ⟨a, rfl, ⟨vs, sq_of h⟩, forW_rep pr Pv h0 (fun pre σ' H' e p => sq_of (hl pre σ' H' e p)) hs hd⟩
theorem for_ints {a : Addr} {ns : List Int} (h : H a = some (.lst (ns.map V.int))) (Pv : List Int → L2.St → Hp → Prop) (h0 : Pv [] σ H)
    (hl : ∀ pre σ' H', (∃ post, ns = pre ++ post) → Pv pre σ' H' → H' a = some (.lst (ns.map V.int)))
    (hs : ∀ pre n post σ' H', ns = pre ++ n :: post → Pv pre σ' H' → g (.int n) σ' H' fun σ2 H2 => tb { D with nx := Pv (pre ++ [n]), ct := Pv (pre ++ [n]), bk := D.nx } σ2 H2)
    (hd : ∀ σ' H', Pv ns σ' H' → D.nx σ' H') : ∃ a', V.ref a = .ref a' ∧ (∃ xs, SqL K H a' xs) ∧ ForW (Itl K a') g tb D σ H :=
  for_rep h (paired_map ns) Pv h0 hl (fun pre x d post σ' H' e r p => by rw [r]; exact hs pre d post σ' H' e p) hd
/-- for i in range(n) -/
theorem for_rng1 {n : Int} (hn : 0 ≤ n) (hb : n < 2 ^ 62) (Pv : Nat → L2.St → Hp → Prop) (h0 : Pv 0 σ H)
    (hs : ∀ (i : Nat) σ' H', (i : Int) < n → Pv i σ' H' → g (.int (i : Nat)) σ' H' fun σ2 H2 => tb { D with nx := Pv (i + 1), ct := Pv (i + 1), bk := D.nx } σ2 H2)
    (hd : ∀ σ' H', Pv n.toNat σ' H' → D.nx σ' H') : ∃ j : Int, [V.int n] = [.int j] ∧ -(2 ^ 62) ≤ j ∧ j < 2 ^ 62 ∧ ForW (Itr 0 j.toNat) g tb D σ H := by
  refine ⟨n, rfl, by omega, hb, for_range (lo := 0) (n := n.toNat) Pv h0 (fun i σ' H' hi p => ?_) hd⟩
  have e : (0 : Int) + (i : Nat) = (i : Nat) := by omega
  rw [e]
  exact hs i σ' H' (by omega) p
/-- for i in range(lo, n) -/
theorem for_rng2 {lo n : Int} (h0' : 0 ≤ lo) (hln : lo ≤ n) (hb : n < 2 ^ 62) (Pv : Int → L2.St → Hp → Prop) (h0 : Pv lo σ H)
    (hs : ∀ (i : Int) σ' H', lo ≤ i → i < n → Pv i σ' H' → g (.int i) σ' H' fun σ2 H2 => tb { D with nx := Pv (i + 1), ct := Pv (i + 1), bk := D.nx } σ2 H2)
    (hd : ∀ σ' H', Pv n σ' H' → D.nx σ' H') : ∃ i j : Int, [V.int lo, V.int n] = [.int i, .int j] ∧ (-(2 ^ 62) ≤ i ∧ i < 2 ^ 62 ∧ -(2 ^ 62) ≤ j ∧ j < 2 ^ 62) ∧ ForW (Itr i (j - i).toNat) g tb D σ H := by
  refine ⟨lo, n, rfl, ⟨by omega, by omega, by omega, hb⟩, for_range (lo := lo) (n := (n - lo).toNat) (fun k σ' H' => Pv (lo + k) σ' H') (by simpa using h0) (fun i σ' H' hi p => ?_) (fun σ' H' p => ?_)⟩
  · have e : lo + ((i + 1 : Nat) : Int) = lo + (i : Nat) + 1 := by omega
    rw [e]
    exact hs _ σ' H' (by omega) (by omega) p
  · have e : lo + ((n - lo).toNat : Int) = n := by omega
    rw [e] at p
    exact hd σ' H' p
/-- for i, x in enumerate(l) -/
theorem for_enum {α : Type} {R : V → α → Prop} {a : Addr} {vs : List V} {ds : List α} {i j : Nat} (h : H a = some (.lst vs)) (pr : Paired R vs ds) (Pv : List α → L2.St → Hp → Prop) (h0 : Pv [] σ H)
    (hl : ∀ pre σ' H', (∃ post, ds = pre ++ post) → Pv pre σ' H' → H' a = some (.lst vs))
    (hs : ∀ pre x d post σ' H' T, ds = pre ++ d :: post → R x d → Pv pre σ' H' → H' T = none → tb { D with nx := Pv (pre ++ [d]), ct := Pv (pre ++ [d]), bk := D.nx } ((σ'.set i (some (.int (pre.length : Nat)))).set j (some x)) (upd H' T (.tup [.int (pre.length : Nat), x])))
    (hd : ∀ σ' H', Pv ds σ' H' → D.nx σ' H') : ∃ a' xs, [V.ref a] = [.ref a'] ∧ SqL K H a' xs ∧ ForW (Ite K a') (gTup K 2 (gCons (gName i) (gCons (gName j) gNil))) tb D σ H := by
  have hlen := Paired.len pr
  refine ⟨a, vs, rfl, sq_of h, fun k m σ' H' => m = vs.length - k ∧ k ≤ vs.length ∧ Pv (ds.take k) σ' H', ⟨vs.length, by simp, Nat.zero_le _, h0⟩, ?_⟩
  rintro k m σ' H' ⟨rfl, hk, p⟩
  have q := hl _ σ' H' ⟨ds.drop k, (List.take_append_drop k ds).symm⟩ p
  by_cases hlt : k < vs.length
  · have hx : vs[k]? = some vs[k] := by simp [hlt]
    obtain ⟨d, hd', r⟩ := Paired.get pr hx
    have hi : k < ds.length := by omega
    have e : ds.take (k + 1) = ds.take k ++ [d] := by rw [List.take_add_one, hd']; rfl
    have e2 : ds = ds.take k ++ d :: ds.drop (k + 1) := by
      have q := List.take_append_drop k ds
      rw [← List.getElem_cons_drop hi] at q
      have e3 : ds[k] = d := (List.getElem?_eq_some_iff.mp hd').2
      rw [e3] at q
      exact q.symm
    refine .inr ⟨⟨vs, vs[k], sq_of q, hx⟩, fun σ2 H2 => Pv (ds.take k ++ [d]) σ2 H2, fun σ2 H2 p' => ⟨vs.length - (k + 1), by omega, rfl, hlt, by rw [e]; exact p'⟩, fun v H2 y => ?_⟩
    obtain ⟨T, x, rfl, nT, rfl, y⟩ := y
    have ex : x = vs[k] := Option.some.inj ((y _ (sq_of q)).symm.trans hx)
    subst ex
    have z := hs (ds.take k) vs[k] d (ds.drop (k + 1)) σ' H' T e2 r p nT
    have l : (ds.take k).length = k := by rw [List.length_take]; omega
    rw [l] at z
    exact ⟨T, _, rfl, st_of upd_same, rfl, _, _, rfl, _, _, rfl, rfl, z⟩
  · have e : k = vs.length := by omega
    subst e
    rw [hlen, List.take_length] at p
    exact .inl ⟨⟨vs, sq_of q, Nat.le_refl _⟩, hd σ' H' p⟩
/-- for x, y in zip(l, m), of equal lengths -/
theorem for_zip {α β : Type} {R : V → α → Prop} {S : V → β → Prop} {a b : Addr} {vs ws : List V} {ds : List α} {es : List β} {i j : Nat} (h : H a = some (.lst vs)) (h' : H b = some (.lst ws)) (pr : Paired R vs ds) (ps : Paired S ws es) (le : ds.length = es.length)
    (Pv : List α → List β → L2.St → Hp → Prop) (h0 : Pv [] [] σ H)
    (hl : ∀ pre pre' σ' H', Pv pre pre' σ' H' → H' a = some (.lst vs) ∧ H' b = some (.lst ws))
    (hs : ∀ pre pre' x y d e post post' σ' H' T, ds = pre ++ d :: post → es = pre' ++ e :: post' → pre.length = pre'.length → R x d → S y e → Pv pre pre' σ' H' → H' T = none →
      tb { D with nx := Pv (pre ++ [d]) (pre' ++ [e]), ct := Pv (pre ++ [d]) (pre' ++ [e]), bk := D.nx } ((σ'.set i (some x)).set j (some y)) (upd H' T (.tup [x, y])))
    (hd : ∀ σ' H', Pv ds es σ' H' → D.nx σ' H') : ∃ a' b' xs ys, [V.ref a, V.ref b] = [.ref a', .ref b'] ∧ SqL K H a' xs ∧ SqL K H b' ys ∧ ForW (Itz K a' b') (gTup K 2 (gCons (gName i) (gCons (gName j) gNil))) tb D σ H := by
  have hlen := Paired.len pr
  have hlen' := Paired.len ps
  refine ⟨a, b, vs, ws, rfl, sq_of h, sq_of h', fun k m σ' H' => m = vs.length - k ∧ k ≤ vs.length ∧ Pv (ds.take k) (es.take k) σ' H', ⟨vs.length, by simp, Nat.zero_le _, h0⟩, ?_⟩
  rintro k m σ' H' ⟨rfl, hk, p⟩
  obtain ⟨q, q'⟩ := hl _ _ σ' H' p
  by_cases hlt : k < vs.length
  · have hx : vs[k]? = some vs[k] := by simp [hlt]
    have hlt' : k < ws.length := by omega
    have hy : ws[k]? = some ws[k] := by simp [hlt']
    obtain ⟨d, hd', r⟩ := Paired.get pr hx
    obtain ⟨e, he', r'⟩ := Paired.get ps hy
    have hi : k < ds.length := by omega
    have hi' : k < es.length := by omega
    have e1 : ds.take (k + 1) = ds.take k ++ [d] := by rw [List.take_add_one, hd']; rfl
    have e1' : es.take (k + 1) = es.take k ++ [e] := by rw [List.take_add_one, he']; rfl
    have e2 : ds = ds.take k ++ d :: ds.drop (k + 1) := by
      have q := List.take_append_drop k ds
      rw [← List.getElem_cons_drop hi] at q
      have e3 : ds[k] = d := (List.getElem?_eq_some_iff.mp hd').2
      rw [e3] at q
      exact q.symm
    have e2' : es = es.take k ++ e :: es.drop (k + 1) := by
      have q := List.take_append_drop k es
      rw [← List.getElem_cons_drop hi'] at q
      have e3 : es[k] = e := (List.getElem?_eq_some_iff.mp he').2
      rw [e3] at q
      exact q.symm
    refine .inr ⟨⟨vs, ws, vs[k], ws[k], sq_of q, sq_of q', hx, hy⟩, fun σ2 H2 => Pv (ds.take k ++ [d]) (es.take k ++ [e]) σ2 H2, fun σ2 H2 p' => ⟨vs.length - (k + 1), by omega, rfl, hlt, by rw [e1, e1']; exact p'⟩, fun v H2 y => ?_⟩
    obtain ⟨T, x, y1, rfl, nT, rfl, f1, f2⟩ := y
    have ex : x = vs[k] := Option.some.inj ((f1 _ (sq_of q)).symm.trans hx)
    have ey : y1 = ws[k] := Option.some.inj ((f2 _ (sq_of q')).symm.trans hy)
    subst ex ey
    have z := hs (ds.take k) (es.take k) vs[k] ws[k] d e (ds.drop (k + 1)) (es.drop (k + 1)) σ' H' T e2 e2' (by rw [List.length_take, List.length_take]; omega) r r' p nT
    exact ⟨T, _, rfl, st_of upd_same, rfl, _, _, rfl, _, _, rfl, rfl, z⟩
  · have e : k = vs.length := by omega
    subst e
    rw [hlen, List.take_length, le, List.take_length] at p
    exact .inl ⟨⟨vs, ws, sq_of q, sq_of q', .inl (Nat.le_refl _)⟩, hd σ' H' p⟩
/-- a pair taken apart -/
theorem g_gtup2 {i j : Nat} {t : Addr} {x y : V} {Q : L2.St → Hp → Prop} (h : H t = some (.tup [x, y])) (k : Q ((σ.set i (some x)).set j (some y)) H) : gTup K 2 (gCons (gName i) (gCons (gName j) gNil)) (.ref t) σ H Q :=
  ⟨t, _, rfl, st_of h, rfl, _, _, rfl, _, _, rfl, rfl, k⟩
/-! while -/
theorem g_wh {c : TT} (W : Nat → L2.St → Hp → Prop) (h0 : ∃ m, W m σ H)
    (hs : ∀ m σ' H', W m σ' H' → c σ' H' fun b H1 => if b = true then ∃ N : L2.St → Hp → Prop, (∀ σ2 H2, N σ2 H2 → ∃ m', m' < m ∧ W m' σ2 H2) ∧ tb { D with nx := N, ct := N, bk := D.nx } σ' H1 else D.nx σ' H1) : tWhile c tb D σ H := ⟨W, h0, hs⟩
theorem g_whN {W : Nat → L2.St → Hp → Prop} {m : Nat} (h : tb { D with nx := fun σ2 H2 => ∃ m', m' < m ∧ W m' σ2 H2, ct := fun σ2 H2 => ∃ m', m' < m ∧ W m' σ2 H2, bk := D.nx } σ H) :
    ∃ N : L2.St → Hp → Prop, (∀ σ2 H2, N σ2 H2 → ∃ m', m' < m ∧ W m' σ2 H2) ∧ tb { D with nx := N, ct := N, bk := D.nx } σ H := ⟨_, fun _ _ z => z, h⟩
/-! comprehensions -/
/-- what is asked of a comprehension over J, D the new list -/
def LcW (J : It) (g : TG) (tt : TT) (te : TE) (vs : List Nat) (σ : L2.St) (H : Hp) (Q : VK) : Prop := ∀ D, H D = none → ∃ W : Nat → Nat → Hp → Prop, (∃ m, W 0 m (upd H D (.lst []))) ∧ ∀ i m H, W i m H →
  (J.stop i H ∧ Q (.ref D) H) ∨ (J.go i H ∧ ∃ Nx : Hp → Prop, (∀ H', Nx H' → ∃ m', m' < m ∧ W (i + 1) m' H') ∧ ∀ x H', J.yld i H x H' → g x (wipe σ vs) H' fun σ2 H2 => wipe σ2 vs = wipe σ vs ∧ tt σ2 H2 fun b H3 =>
    if b = true then te σ2 H3 fun y H4 => ∃ acc, H4 D = some (.lst acc) ∧ acc.length < sizeLine ∧ Nx (upd H4 D (.lst (acc ++ [y]))) else Nx H3)
variable {Q : VK} {tt : TT} {te : TE} {wvs : List Nat}
theorem g_lc {wi : TI} (h : wi σ H fun J H1 => LcW J g tt te wvs σ H1 Q) : tLc wi g tt te wvs σ H Q := h
theorem g_wipe {A : Prop} {σ2 σ3 : L2.St} {vs : List Nat} (e : wipe σ2 vs = σ3) (h : A) : wipe σ2 vs = σ3 ∧ A := ⟨e, h⟩
theorem g_yes {Q : Bool → Hp → Prop} (h : Q true H) : tYes σ H Q := h
/-- Pv D pre H: pre the data taken; D the new list -/
theorem lc_rep {α : Type} {R : V → α → Prop} {a : Addr} {vs : List V} {ds : List α} (h : H a = some (.lst vs)) (pr : Paired R vs ds) (Pv : Addr → List α → Hp → Prop)
    (h0 : ∀ D, H D = none → Pv D [] (upd H D (.lst [])))
    (hl : ∀ D pre H', H D = none → (∃ post, ds = pre ++ post) → Pv D pre H' → H' a = some (.lst vs))
    (hs : ∀ D pre x d post H', H D = none → ds = pre ++ d :: post → R x d → Pv D pre H' → g x (wipe σ wvs) H' fun σ2 H2 => wipe σ2 wvs = wipe σ wvs ∧ tt σ2 H2 fun b H3 =>
      if b = true then te σ2 H3 fun y H4 => ∃ acc, H4 D = some (.lst acc) ∧ acc.length < sizeLine ∧ Pv D (pre ++ [d]) (upd H4 D (.lst (acc ++ [y]))) else Pv D (pre ++ [d]) H3)
    (hd : ∀ D H', H D = none → Pv D ds H' → Q (.ref D) H') : ∃ a', V.ref a = .ref a' ∧ (∃ xs, SqL K H a' xs) ∧ LcW (Itl K a') g tt te wvs σ H Q := by
  have hlen := Paired.len pr
  refine ⟨a, rfl, ⟨vs, sq_of h⟩, fun D nD => ?_⟩
  refine lc_list (K := K) (a := a) (xs := vs) (fun i H' => Pv D (ds.take i) H') (h0 D nD) (fun i H' _ p => sq_of (hl D _ H' nD ⟨ds.drop i, (List.take_append_drop i ds).symm⟩ p)) (fun i x H' hx p => ?_) (fun H' p => ?_)
  · obtain ⟨d, hd', r⟩ := Paired.get pr hx
    have hi : i < ds.length := (List.getElem?_eq_some_iff.mp hd').1
    have e : ds.take (i + 1) = ds.take i ++ [d] := by rw [List.take_add_one, hd']; rfl
    have e2 : ds = ds.take i ++ d :: ds.drop (i + 1) := by
      have q := List.take_append_drop i ds
      rw [← List.getElem_cons_drop hi] at q
      have e3 : ds[i] = d := (List.getElem?_eq_some_iff.mp hd').2
      rw [e3] at q
      exact q.symm
    rw [e]
    exact hs D (ds.take i) x d (ds.drop (i + 1)) H' nD e2 r p
  · rw [hlen, List.take_length] at p
    exact hd D H' nD p
theorem lc_rng1 {n : Int} (hn : 0 ≤ n) (hb : n < 2 ^ 62) (Pv : Addr → Nat → Hp → Prop)
    (h0 : ∀ D, H D = none → Pv D 0 (upd H D (.lst [])))
    (hs : ∀ D (i : Nat) H', H D = none → (i : Int) < n → Pv D i H' → g (.int (i : Nat)) (wipe σ wvs) H' fun σ2 H2 => wipe σ2 wvs = wipe σ wvs ∧ tt σ2 H2 fun b H3 =>
      if b = true then te σ2 H3 fun y H4 => ∃ acc, H4 D = some (.lst acc) ∧ acc.length < sizeLine ∧ Pv D (i + 1) (upd H4 D (.lst (acc ++ [y]))) else Pv D (i + 1) H3)
    (hd : ∀ D H', H D = none → Pv D n.toNat H' → Q (.ref D) H') : ∃ j : Int, [V.int n] = [.int j] ∧ -(2 ^ 62) ≤ j ∧ j < 2 ^ 62 ∧ LcW (Itr 0 j.toNat) g tt te wvs σ H Q := by
  refine ⟨n, rfl, by omega, hb, fun D nD => ?_⟩
  refine lc_range (lo := 0) (n := n.toNat) (fun i H' => Pv D i H') (h0 D nD) (fun i H' hi p => ?_) (fun H' p => hd D H' nD p)
  have e : (0 : Int) + (i : Nat) = (i : Nat) := by omega
  rw [e]
  exact hs D i H' nD (by omega) p
end
/-! ### a list that collects what is represented: at D (not there in Hs), off M -/
def Col {α : Type} (r : Rp α) (M : Av) (Hs : Hp) (D : Addr) (H : Hp) (ds : List α) : Prop := Same Hs H ∧ ∃ vs, H D = some (.lst vs) ∧ Paired (r (fun b => b = D ∨ M b) H) vs ds
section
variable {α : Type} {r : Rp α} {M : Av} {Hs H H' : Hp} {D : Addr} {ds : List α} {d : α} {v : V} {vs : List V}
theorem Col.nil (n : Hs D = none) : Col r M Hs D (upd Hs D (.lst [])) [] := ⟨Same.new (Same.refl Hs) n, [], upd_same, .nil⟩
theorem Col.same (c : Col r M Hs D H ds) : Same Hs H := c.1
theorem Col.step (f : Frm r) (c : Col r M Hs D H ds) (s : Same H H') : Col r M Hs D H' ds := by
  obtain ⟨s0, vs, h, p⟩ := c
  exact ⟨Same.trans s0 s, vs, s _ _ h, L2.Paired.mapP p fun _ _ z => f.mv (.same s) z⟩
/-- v is appended -/
theorem Col.app (f : Frm r) (n : Hs D = none) (c : Col r M Hs D H ds) (h : H D = some (.lst vs)) (i : r (fun b => b = D ∨ M b) H v d) : Col r M Hs D (upd H D (.lst (vs ++ [v]))) (ds ++ [d]) := by
  obtain ⟨s0, ws, h', p⟩ := c
  have e : ws = vs := by
    rw [h] at h'
    cases h'
    rfl
  subst e
  refine ⟨Same.mut s0 n, _, upd_same, Paired.snoc (L2.Paired.mapP p fun _ _ z => f.mv (.mut (.inl rfl)) z) (f.mv (.mut (.inl rfl)) i)⟩
theorem Col.len (c : Col r M Hs D H ds) (h : H D = some (.lst vs)) : vs.length = ds.length := by
  obtain ⟨s0, ws, h', p⟩ := c
  have e : ws = vs := by
    rw [h] at h'
    cases h'
    rfl
  subst e
  exact Paired.len p
theorem Col.done (f : Frm r) (c : Col r M Hs D H ds) (m : ¬ M D) : rLst r M H (.ref D) ds := by
  obtain ⟨s0, vs, h, p⟩ := c
  exact ⟨vs, ⟨D, rfl, m, h⟩, L2.Paired.mapP p fun _ _ z => f.mv (.weak fun _ q => .inr q) z⟩
end
/-- rows: n lists of whole numbers at ls, that of i holds f i -/
def Rows (H : Hp) (ls : List Addr) (n : Nat) (f : Nat → List Int) : Prop := ls.length = n ∧ ls.Nodup ∧ ∀ (i : Nat) (l : Addr), ls[i]? = some l → H l = some (.lst ((f i).map V.int))
theorem Rows.ext {H : Hp} {ls : List Addr} {n : Nat} {f g : Nat → List Int} (h : Rows H ls n f) (e : ∀ i, i < n → f i = g i) : Rows H ls n g :=
  ⟨h.1, h.2.1, fun i l hl => by rw [← e i (by rw [← h.1]; exact (List.getElem?_eq_some_iff.mp hl).1)]; exact h.2.2 i l hl⟩
theorem Rows.at {H : Hp} {ls : List Addr} {n : Nat} {f : Nat → List Int} (h : Rows H ls n f) {i : Nat} (hi : i < n) : ∃ l, ls[i]? = some l ∧ H l = some (.lst ((f i).map V.int)) := by
  have e : i < ls.length := by rw [h.1]; exact hi
  exact ⟨ls[i], List.getElem?_eq_getElem e, h.2.2 i _ (List.getElem?_eq_getElem e)⟩
theorem Rows.put {H : Hp} {ls : List Addr} {n : Nat} {f : Nat → List Int} (h : Rows H ls n f) {i : Nat} {l : Addr} (hl : ls[i]? = some l) (x : Int) :
    Rows (upd H l (.lst ((f i ++ [x]).map V.int))) ls n (fun j => if j = i then f i ++ [x] else f j) := by
  refine ⟨h.1, h.2.1, fun j m hm => ?_⟩
  by_cases e : j = i
  · subst e
    rw [hl] at hm
    cases hm
    rw [upd_same]
    simp
  · have ne : m ≠ l := fun z => by
      subst z
      obtain ⟨h1, e1⟩ := List.getElem?_eq_some_iff.mp hm
      obtain ⟨h2, e2⟩ := List.getElem?_eq_some_iff.mp hl
      exact e ((List.getElem_inj h.2.1).mp (e1.trans e2.symm))
    rw [upd_ne ne]
    simp only [e, if_false]
    exact h.2.2 j m hm
theorem Rows.keep {H H' : Hp} {ls : List Addr} {n : Nat} {f : Nat → List Int} (h : Rows H ls n f) (k : ∀ l, l ∈ ls → ∀ o, H l = some o → H' l = some o) : Rows H' ls n f :=
  ⟨h.1, h.2.1, fun i l hl => k l (List.mem_of_getElem? hl) _ (h.2.2 i l hl)⟩
theorem Rows.pair {H : Hp} {ls : List Addr} {n : Nat} {f : Nat → List Int} {M : Av} (h : Rows H ls n f) (m : ∀ l ∈ ls, ¬ M l) : Paired (rInts M H) (ls.map V.ref) ((List.range n).map f) := by
  obtain ⟨h1, _, h2⟩ := h
  have key : ∀ (ks : List Addr) (o : Nat), (∀ i l, ks[i]? = some l → H l = some (.lst ((f (o + i)).map V.int))) → (∀ l ∈ ks, ¬ M l) → Paired (rInts M H) (ks.map V.ref) ((List.range' o ks.length).map f) := by
    intro ks
    induction ks with
    | nil => intro o _ _; exact .nil
    | cons k r ih =>
      intro o q mm
      rw [List.length_cons, List.range'_succ]
      refine .cons ⟨k, rfl, mm k List.mem_cons_self, q 0 k rfl⟩ (ih (o + 1) (fun i l hl => ?_) fun l hl => mm l (List.mem_cons_of_mem _ hl))
      have := q (i + 1) l (by simpa using hl)
      have e : o + (i + 1) = o + 1 + i := by omega
      rw [e] at this
      exact this
  have z := key ls 0 (fun i l hl => by rw [Nat.zero_add]; exact h2 i l hl) m
  rw [h1, ← List.range_eq_range'] at z
  exact z
theorem g_row {K : PySem.W.Frag} {H : Hp} {Q : VK} {ls : List Addr} {n : Nat} {f : Nat → List Int} {a : Addr} {i : Int} (h : H a = some (.lst (ls.map V.ref))) (r : Rows H ls n f) (h0 : 0 ≤ i) (h1 : i < n)
    (k : ∀ l, ls[i.toNat]? = some l → H l = some (.lst ((f i.toNat).map V.int)) → Q (.ref l) H) : rIxL K (.ref a) (.int i) H Q := by
  obtain ⟨l, hl, e⟩ := r.at (i := i.toNat) (by omega)
  refine g_ix h (atI_at h0 ?_) (k l hl e)
  rw [List.getElem?_map, hl]
  rfl
theorem Col.mut {α : Type} {r : Rp α} {M : Av} {Hs H : Hp} {D p : Addr} {ds : List α} {o : HO} (f : Frm r) (c : Col r M Hs D H ds) (m : M p) (n : Hs p = none) (ne : p ≠ D) : Col r M Hs D (upd H p o) ds := by
  obtain ⟨s0, vs, h, q⟩ := c
  exact ⟨Same.mut s0 n, vs, by rw [upd_ne ne.symm]; exact h, L2.Paired.mapP q fun _ _ z => f.mv (.mut (.inr m)) z⟩
theorem g_ext {H : Hp} {Q : VK} {l b : Addr} {xs ys : List V} (h : H l = some (.lst xs)) (h' : H b = some (.lst ys)) (n : xs.length + ys.length ≤ sizeLine) (k : Q .non (upd H l (.lst (xs ++ ys)))) : rExtend (.ref l) [.ref b] H Q := ⟨l, b, xs, ys, rfl, rfl, h, h', n, k⟩
theorem size_le {n : Nat} (h : n ≤ 16000000) : n ≤ sizeLine := Nat.le_of_lt (small_of h)
/-! ### lists of whole numbers or None -/
def optV : Option Int → V
  | none => .non
  | some i => .int i
def oV (f : Int → Option Int) (n : Nat) : List V := (List.range n).map fun (i : Nat) => optV (f i)
theorem oV_len (f : Int → Option Int) (n : Nat) : (oV f n).length = n := by simp [oV]
theorem oV_get {f : Int → Option Int} {n : Nat} {i : Int} (h0 : 0 ≤ i) (h1 : i < n) : (oV f n)[i.toNat]? = some (optV (f i)) := by
  unfold oV
  rw [List.getElem?_map, List.getElem?_range (by omega)]
  have c : ((i.toNat : Nat) : Int) = i := by omega
  simp [c]
theorem oV_set {f : Int → Option Int} {n : Nat} {i : Int} {x : Option Int} (h0 : 0 ≤ i) : (oV f n).set i.toNat (optV x) = oV (fun j => if j = i then x else f j) n := by
  apply List.ext_getElem?
  intro j
  unfold oV
  rw [List.getElem?_set, List.getElem?_map, List.getElem?_map]
  by_cases hj : j < n
  · rw [List.getElem?_range hj]
    by_cases e : i.toNat = j
    · have e2 : (j : Int) = i := by omega
      simp [e, hj, e2]
    · have e2 : ¬ (j : Int) = i := by omega
      simp [e, e2]
  · have q : (List.range n)[j]? = none := List.getElem?_eq_none (by simp; omega)
    rw [q]
    by_cases e : i.toNat = j
    · simp [e, hj]
    · simp [e]
def rOpt : Rp (Nat × (Int → Option Int)) := fun M H v p => AtL M H v (oV p.2 p.1)
theorem rOpt.frm : Frm rOpt := ⟨fun m h => AtL.mov m h⟩
theorem g_ixO {K : PySem.W.Frag} {H : Hp} {Q : VK} {a : Addr} {f : Int → Option Int} {n : Nat} {i : Int} (h : H a = some (.lst (oV f n))) (h0 : 0 ≤ i) (h1 : i < n) (k : Q (optV (f i)) H) : rIxL K (.ref a) (.int i) H Q := g_ix h (atI_at h0 (oV_get h0 h1)) k
theorem g_setO {H : Hp} {Q : Hp → Prop} {a : Addr} {f : Int → Option Int} {n : Nat} {i : Int} (x : Option Int) (h : H a = some (.lst (oV f n))) (h0 : 0 ≤ i) (h1 : i < n) (k : Q (upd H a (.lst (oV (fun j => if j = i then x else f j) n)))) : rSetL (.ref a) (.int i) (optV x) H Q := by
  refine ⟨a, _, i, i.toNat, rfl, rfl, h, ?_, by rw [oV_set h0]; exact k⟩
  unfold ixN
  rw [if_pos h0, if_pos (by rw [oV_len]; exact h1)]
theorem g_isNo {H : Hp} {Q : VK} {o : Option Int} (k : Q (.bl (decide (o = none))) H) : rIsN (optV o) .non H Q := by
  cases o with
  | none => exact ⟨rfl, k⟩
  | some i => exact ⟨rfl, k⟩
theorem g_notNo {H : Hp} {Q : VK} {o : Option Int} (k : Q (.bl (decide (o ≠ none))) H) : rNotN (optV o) .non H Q := by
  cases o with
  | none => exact ⟨rfl, k⟩
  | some i => exact ⟨rfl, k⟩
theorem g_sub {to ti : TE} {t : TSet} {v : V} {σ : L2.St} {H : Hp} {Q : L2.St → Hp → Prop} (h : to σ H fun o H1 => ti σ H1 fun i H2 => t o i v H2 fun H3 => Q σ H3) : gSub to ti t v σ H Q := h
theorem flat_len {m : Nat} : ∀ {ps : List (List Int)}, (∀ p ∈ ps, p.length ≤ m) → ps.flatten.length ≤ ps.length * m
  | [], _ => by simp
  | p :: ps, h => by
    have a := h p List.mem_cons_self
    have b := flat_len (ps := ps) fun q hq => h q (List.mem_cons_of_mem _ hq)
    rw [List.flatten_cons, List.length_append, List.length_cons, Nat.add_mul]
    omega
end G3

set_option maxHeartbeats 2000000
namespace G3
open PySem PySem.Spec PyProof.Rows L2
/-! ### a graph in the heap -/
def gfs (n : Nat) (e l : V) : List (Str × V) := [("nodes", .int n), ("edges", e), ("links", l)]
def rGraph (K : PySem.W.Frag) : Rp (Nat × List (Int × Int)) := fun M H v G => ∃ g dx e l, v = .ref g ∧ ¬ M g ∧ H g = some (.ins (He.ga K "Graph") dx (gfs G.1 e l)) ∧ rLst rPair M H e G.2 ∧ rLst rInts M H l (links G.1 G.2)
theorem rGraph.frm {K : PySem.W.Frag} : Frm (rGraph K) := ⟨fun m ⟨g, dx, e, l, h1, h2, h3, h4, h5⟩ => ⟨g, dx, e, l, h1, (m g _ h2 h3).2, (m g _ h2 h3).1, (rLst.frm rPair.frm).mv m h4, (rLst.frm rInts.frm).mv m h5⟩⟩
theorem gfs_nodes {n : Nat} {e l : V} : (gfs n e l).lookup ("nodes" : Str) = some (.int n) := rfl
theorem gfs_edges {n : Nat} {e l : V} : (gfs n e l).lookup ("edges" : Str) = some e := by
  have a : (("edges" : Str) == "nodes") = false := by decide +kernel
  simp [gfs, List.lookup, a]
theorem gfs_links {n : Nat} {e l : V} : (gfs n e l).lookup ("links" : Str) = some l := by
  have a : (("links" : Str) == "nodes") = false := by decide +kernel
  have b : (("links" : Str) == "edges") = false := by decide +kernel
  simp [gfs, List.lookup, a, b]
theorem gfs_no {n : Nat} {e l : V} {m : Str} (a : (m == "nodes") = false) (b : (m == "edges") = false) (c : (m == "links") = false) : (gfs n e l).lookup m = none := by
  simp [gfs, List.lookup, a, b, c]
theorem gfs_put1 {x e : V} : putF "edges" e (putF "nodes" x []) = [(("nodes" : Str), x), ("edges", e)] := by
  have a : ¬ (("nodes" : Str) = "edges") := by decide +kernel
  simp [putF, a]
theorem gfs_put0 {n : Nat} {e l : V} : putF "links" l [(("nodes" : Str), .int n), ("edges", e)] = gfs n e l := by
  have b : ¬ (("nodes" : Str) = "links") := by decide +kernel
  have c : ¬ (("edges" : Str) = "links") := by decide +kernel
  simp [gfs, putF, b, c]
theorem gfs_put {n : Nat} {e l : V} : putF "links" l (putF "edges" e (putF "nodes" (.int n) [])) = gfs n e l := by
  have a : ¬ (("nodes" : Str) = "edges") := by decide +kernel
  have b : ¬ (("nodes" : Str) = "links") := by decide +kernel
  have c : ¬ (("edges" : Str) = "links") := by decide +kernel
  simp [gfs, putF, a, b, c]
theorem gfs_put2 {n : Nat} {e l l' : V} : putF "links" l' (gfs n e l) = gfs n e l' := by
  have b : ¬ (("nodes" : Str) = "links") := by decide +kernel
  have c : ¬ (("edges" : Str) = "links") := by decide +kernel
  simp [gfs, putF, b, c]
section
variable {K : PySem.W.Frag} {mg : Str → Option Value} {H : Hp} {Q : VK} {ta : TE} {σ : L2.St}
theorem g_fld {f : Str} (h : ta σ H fun x H1 => ∃ a C dx fs v, x = .ref a ∧ H1 a = some (.ins C dx fs) ∧ Cls K C ∧ NoAttr K C f ∧ fs.lookup f = some v ∧ Q v H1) : tFld K ta f σ H Q := h
theorem g_fnodes {Q : V → Prop} (W : Hd K mg) {g dx : Addr} {n : Nat} {e l : V} (h : H g = some (.ins (He.ga K "Graph") dx (gfs n e l))) (k : Q (.int n)) : ∃ a C dx fs v, V.ref g = .ref a ∧ H a = some (.ins C dx fs) ∧ Cls K C ∧ NoAttr K C "nodes" ∧ fs.lookup ("nodes" : Str) = some v ∧ Q v :=
  ⟨g, _, dx, _, _, rfl, h, W.cl_Graph, W.no_nodes, gfs_nodes, k⟩
theorem g_fedges {Q : V → Prop} (W : Hd K mg) {g dx : Addr} {n : Nat} {e l : V} (h : H g = some (.ins (He.ga K "Graph") dx (gfs n e l))) (k : Q e) : ∃ a C dx fs v, V.ref g = .ref a ∧ H a = some (.ins C dx fs) ∧ Cls K C ∧ NoAttr K C "edges" ∧ fs.lookup ("edges" : Str) = some v ∧ Q v :=
  ⟨g, _, dx, _, _, rfl, h, W.cl_Graph, W.no_edges, gfs_edges, k⟩
theorem g_flinks {Q : V → Prop} (W : Hd K mg) {g dx : Addr} {n : Nat} {e l : V} (h : H g = some (.ins (He.ga K "Graph") dx (gfs n e l))) (k : Q l) : ∃ a C dx fs v, V.ref g = .ref a ∧ H a = some (.ins C dx fs) ∧ Cls K C ∧ NoAttr K C "links" ∧ fs.lookup ("links" : Str) = some v ∧ Q v :=
  ⟨g, _, dx, _, _, rfl, h, W.cl_Graph, W.no_links, gfs_links, k⟩
end
section
variable {K : PySem.W.Frag} {mg : Str → Option Value} {H : Hp} {D : Ends} {ta tv : TE} {σ : L2.St}
theorem g_sfld {f : Str} (h : tv σ H fun y H1 => ta σ H1 fun x H2 => ∃ a C dx fs, x = .ref a ∧ H2 a = some (.ins C dx fs) ∧ Cls K C ∧ NoAttr K C f ∧ fs.length < 1000 ∧ D.nx σ (upd H2 a (.ins C dx (putF f y fs)))) : sFld K ta tv f D σ H := h
theorem g_stn {Q : Addr → Addr → Addr → List (Str × V) → Prop} (W : Hd K mg) {g dx : Addr} {fs : List (Str × V)} (h : H g = some (.ins (He.ga K "Graph") dx fs)) (l : fs.length < 1000) (k : Q g (He.ga K "Graph") dx fs) : ∃ a C dx fs, V.ref g = .ref a ∧ H a = some (.ins C dx fs) ∧ Cls K C ∧ NoAttr K C "nodes" ∧ fs.length < 1000 ∧ Q a C dx fs := ⟨g, _, dx, fs, rfl, h, W.cl_Graph, W.no_nodes, l, k⟩
theorem g_ste {Q : Addr → Addr → Addr → List (Str × V) → Prop} (W : Hd K mg) {g dx : Addr} {fs : List (Str × V)} (h : H g = some (.ins (He.ga K "Graph") dx fs)) (l : fs.length < 1000) (k : Q g (He.ga K "Graph") dx fs) : ∃ a C dx fs, V.ref g = .ref a ∧ H a = some (.ins C dx fs) ∧ Cls K C ∧ NoAttr K C "edges" ∧ fs.length < 1000 ∧ Q a C dx fs := ⟨g, _, dx, fs, rfl, h, W.cl_Graph, W.no_edges, l, k⟩
theorem g_stl {Q : Addr → Addr → Addr → List (Str × V) → Prop} (W : Hd K mg) {g dx : Addr} {fs : List (Str × V)} (h : H g = some (.ins (He.ga K "Graph") dx fs)) (l : fs.length < 1000) (k : Q g (He.ga K "Graph") dx fs) : ∃ a C dx fs, V.ref g = .ref a ∧ H a = some (.ins C dx fs) ∧ Cls K C ∧ NoAttr K C "links" ∧ fs.length < 1000 ∧ Q a C dx fs := ⟨g, _, dx, fs, rfl, h, W.cl_Graph, W.no_links, l, k⟩
end
end G3

set_option maxHeartbeats 2000000
namespace G3
open PySem PySem.Spec PyProof.Rows L2
/-! ### dicts from whole numbers to whole numbers -/
def dI (m : List (Int × Int)) : List (Key × V) := m.map fun p => (Sum.inl p.1, V.int p.2)
def lkp (m : List (Int × Int)) (k : Int) : Option Int := (m.find? fun p => decide (p.1 = k)).map (·.2)
def putI (m : List (Int × Int)) (k v : Int) : List (Int × Int) := if (m.any fun p => decide (p.1 = k)) = true then m.map fun p => if p.1 = k then (p.1, v) else p else m ++ [(k, v)]
theorem key_inl {a b : Int} : ((Sum.inl a : Key) = Sum.inl b) ↔ a = b := ⟨fun h => Sum.inl.inj h, fun h => by rw [h]⟩
theorem valV_dI (m : List (Int × Int)) (k : Int) : valV (dI m) (Sum.inl k) = (lkp m k).map V.int := by
  unfold valV lkp dI
  induction m with
  | nil => rfl
  | cons p r ih =>
    rw [List.map_cons, List.find?_cons, List.find?_cons]
    by_cases h : p.1 = k
    · have h' : decide ((Sum.inl p.1 : Key) = Sum.inl k) = true := decide_eq_true (key_inl.mpr h)
      simp only [h', decide_eq_true h]
      rfl
    · have h' : decide ((Sum.inl p.1 : Key) = Sum.inl k) = false := decide_eq_false fun z => h (key_inl.mp z)
      simp only [h', decide_eq_false h]
      exact ih
theorem putK_dI (m : List (Int × Int)) (k v : Int) : putK (dI m) (Sum.inl k) (V.int v) = dI (putI m k v) := by
  unfold putK putI dI
  have e : ((m.map fun p => ((Sum.inl p.1 : Key), V.int p.2)).any fun kv => decide (kv.1 = Sum.inl k)) = m.any fun p => decide (p.1 = k) := by
    rw [List.any_map]
    congr 1
    funext p
    exact decide_eq_decide.mpr key_inl
  rw [e]
  split
  · rw [List.map_map, List.map_map]
    apply List.map_congr_left
    intro p _
    show (if (Sum.inl p.1 : Key) = Sum.inl k then ((Sum.inl p.1 : Key), V.int v) else (Sum.inl p.1, V.int p.2)) = _
    by_cases h : p.1 = k
    · simp [h]
    · have h' : ¬ (Sum.inl p.1 : Key) = Sum.inl k := fun z => h (key_inl.mp z)
      simp [h, h']
  · simp
theorem lkp_putI (m : List (Int × Int)) (k v j : Int) : lkp (putI m k v) j = if j = k then some v else lkp m j := by
  have h := valV_put (dI m) (Sum.inl k) (Sum.inl j) (V.int v)
  rw [putK_dI, valV_dI, valV_dI] at h
  by_cases e : j = k
  · have e' : (Sum.inl j : Key) = Sum.inl k := by rw [e]
    rw [if_pos e'] at h
    rw [if_pos e]
    cases q : lkp (putI m k v) j with
    | none => rw [q] at h; cases h
    | some x => rw [q] at h; cases h; rfl
  · have e' : ¬ (Sum.inl j : Key) = Sum.inl k := fun z => e (key_inl.mp z)
    rw [if_neg e'] at h
    rw [if_neg e]
    cases q : lkp (putI m k v) j with
    | none =>
      rw [q] at h
      cases q2 : lkp m j with
      | none => rfl
      | some y => rw [q2] at h; cases h
    | some x =>
      rw [q] at h
      cases q2 : lkp m j with
      | none => rw [q2] at h; cases h
      | some y => rw [q2] at h; cases h; rfl
theorem putI_len (m : List (Int × Int)) (k v : Int) : (putI m k v).length ≤ m.length + 1 := by
  unfold putI
  split <;> simp
theorem putI_new {m : List (Int × Int)} {k : Int} (v : Int) (h : lkp m k = none) : putI m k v = m ++ [(k, v)] := by
  unfold putI
  have e : ¬ (m.any fun p => decide (p.1 = k)) = true := by
    intro z
    obtain ⟨p, hp, e⟩ := List.any_eq_true.mp z
    unfold lkp at h
    cases q : m.find? (fun p => decide (p.1 = k)) with
    | none =>
      have := List.find?_eq_none.mp q p hp
      exact this e
    | some y => rw [q] at h; cases h
  rw [if_neg e]
theorem lkp_nil (k : Int) : lkp [] k = none := rfl
theorem lkp_snoc (m : List (Int × Int)) (k v j : Int) (h : lkp m k = none) : lkp (m ++ [(k, v)]) j = if j = k then some v else lkp m j := by
  rw [← putI_new v h, lkp_putI]
theorem lkp_mem {m : List (Int × Int)} {k v : Int} (h : lkp m k = some v) : (k, v) ∈ m := by
  unfold lkp at h
  cases q : m.find? (fun p => decide (p.1 = k)) with
  | none => rw [q] at h; cases h
  | some p =>
    rw [q] at h
    have a := List.mem_of_find?_eq_some q
    have b := List.find?_some q
    simp at b h
    obtain ⟨p1, p2⟩ := p
    simp at b h
    subst b h
    exact a
theorem lkp_none {m : List (Int × Int)} {k : Int} : lkp m k = none ↔ k ∉ m.map (·.1) := by
  unfold lkp
  rw [Option.map_eq_none_iff, List.find?_eq_none]
  simp only [decide_eq_true_eq, List.mem_map, not_exists, not_and]
theorem lkp_of_mem {m : List (Int × Int)} {k v : Int} (n : (m.map (·.1)).Nodup) (h : (k, v) ∈ m) : lkp m k = some v := by
  induction m with
  | nil => simp at h
  | cons p r ih =>
    obtain ⟨n1, n2⟩ := List.nodup_cons.mp (show (p.1 :: r.map (·.1)).Nodup from n)
    unfold lkp
    rw [List.find?_cons]
    by_cases e : p.1 = k
    · rw [decide_eq_true e]
      rcases List.mem_cons.mp h with h | h
      · rw [← h]
        rfl
      · exact absurd (List.mem_map.mpr ⟨_, h, e.symm⟩) n1
    · rw [decide_eq_false e]
      rcases List.mem_cons.mp h with h | h
      · rw [← h] at e
        exact absurd rfl e
      · exact ih n2 h
section
variable {K : PySem.W.Frag} {σ : L2.St} {H : Hp} {Q : VK} {D : Ends} {ta tb td ty tv tx : TE} {i j : Int} {a : Addr} {m : List (Int × Int)} {x y z : V}
def rDInq (x y : V) (H : Hp) (Q : VK) : Prop := ∃ a o, x = .ref a ∧ DGet H a y o ∧ Q (.bl o.isSome) H
def rDNinq (x y : V) (H : Hp) (Q : VK) : Prop := ∃ a o, x = .ref a ∧ DGet H a y o ∧ Q (.bl (!o.isSome)) H
def rDGetq (x y : V) (H : Hp) (Q : VK) : Prop := ∃ a v, x = .ref a ∧ DGet H a y (some v) ∧ Q v H
def rDPutq (v x y : V) (H : Hp) (Q : Hp → Prop) : Prop := ∃ a H4, x = .ref a ∧ DPut H a y v H4 ∧ Q H4
def rDG2 (ty tx : TE) (x : V) (σ : L2.St) (H : Hp) (Q : VK) : Prop := ∃ a, x = .ref a ∧ IsD H a ∧ ty σ H fun y H2 => tx σ H2 fun z H3 => ∃ o, DGet H3 a y o ∧ Q (o.getD z) H3
def rDG3 (a : Addr) (y z : V) (H : Hp) (Q : VK) : Prop := ∃ o, DGet H a y o ∧ Q (o.getD z) H
theorem g_din (h : ty σ H fun y H1 => td σ H1 fun x H2 => rDInq x y H2 Q) : tDIn ty td σ H Q := h
theorem g_dnin (h : ty σ H fun y H1 => td σ H1 fun x H2 => rDNinq x y H2 Q) : tDNotIn ty td σ H Q := h
theorem g_dget (h : td σ H fun x H1 => ty σ H1 fun y H2 => rDGetq x y H2 Q) : tDGet td ty σ H Q := h
theorem g_dput (h : tv σ H fun v H1 => td σ H1 fun x H2 => ty σ H2 fun y H3 => rDPutq v x y H3 fun H4 => D.nx σ H4) : sDPut td ty tv D σ H := h
theorem g_dget2 (h : td σ H fun x H1 => rDG2 ty tx x σ H1 Q) : tDGet2 td ty tx σ H Q := h
theorem g_dnew (h : ∀ p, H p = none → Q (.ref p) (upd H p (.dK (dI [])))) : tDNewK σ H Q := h
theorem isSome_map {α β : Type} {f : α → β} {o : Option α} : (o.map f).isSome = o.isSome := by cases o <;> rfl
theorem dg (h : H a = some (.dK (dI m))) : DGet H a (.int i) ((lkp m i).map V.int) := by
  have q := DGet.k (k := Sum.inl i) h
  rw [valV_dI] at q
  exact q
theorem g_rdin (h : H a = some (.dK (dI m))) (k : Q (.bl (lkp m i).isSome) H) : rDInq (.ref a) (.int i) H Q := ⟨a, _, rfl, dg h, by rw [isSome_map]; exact k⟩
theorem g_rdnin (h : H a = some (.dK (dI m))) (k : Q (.bl (!(lkp m i).isSome)) H) : rDNinq (.ref a) (.int i) H Q := ⟨a, _, rfl, dg h, by rw [isSome_map]; exact k⟩
theorem g_rdget {v : Int} (h : H a = some (.dK (dI m))) (e : lkp m i = some v) (k : Q (.int v) H) : rDGetq (.ref a) (.int i) H Q := ⟨a, .int v, rfl, by have := dg (i := i) h; rw [e] at this; exact this, k⟩
theorem g_rdput {Q : Hp → Prop} (h : H a = some (.dK (dI m))) (n : m.length < 1000000) (k : Q (upd H a (.dK (dI (putI m i j))))) : rDPutq (.int j) (.ref a) (.int i) H Q :=
  ⟨a, _, rfl, DPut.k (k := Sum.inl i) h (by rw [sizeLine_eq]; unfold dI; rw [List.length_map]; omega), by rw [putK_dI]; exact k⟩
theorem g_rdg2 (h : H a = some (.dK (dI m))) (k : ty σ H fun y H2 => tx σ H2 fun z H3 => rDG3 a y z H3 Q) : rDG2 ty tx (.ref a) σ H Q := ⟨a, rfl, .inl ⟨_, .inl h⟩, k⟩
theorem g_rdg3 (h : H a = some (.dK (dI m))) (k : Q (.int ((lkp m i).getD j)) H) : rDG3 a (.int i) (.int j) H Q := ⟨_, dg h, by
  cases e : lkp m i with
  | none => rw [e] at k; exact k
  | some v => rw [e] at k; exact k⟩
theorem g_iteS {A B : Prop} {o : Option Int} (h1 : ∀ v, o = some v → A) (h2 : o = none → B) : if o.isSome = true then A else B := by
  cases o with
  | none => exact iteF (h2 rfl)
  | some v => exact iteT (h1 v rfl)
theorem g_iteNS {A B : Prop} {o : Option Int} (h1 : ∀ v, o = some v → B) (h2 : o = none → A) : if (!o.isSome) = true then A else B := by
  cases o with
  | none => exact iteT (h2 rfl)
  | some v => exact iteF (h1 v rfl)
end
end G3

set_option maxHeartbeats 2000000
namespace G3
open PySem PySem.Spec PyProof.Rows L2
/-! ### rules that the modules lack: list.count of a text; min, max of a pair; sorted of a dict whose keys are pairs in order; set of a list of whole numbers -/
def eqz (z : Str) (v : Value) : Bool := match v with
  | .str y _ => decide (y = z)
  | _ => false
def rCntS (K : PySem.W.Frag) : V → List V → Hp → VK → Prop := fun x xs H Q => ∃ (p : Addr) (zs : List Str) (z : Str), x = .ref p ∧ xs = [.str z] ∧ SqL K H p (zs.map V.str) ∧ Q (.int (zs.count z : Nat)) H
theorem eqz_gives {z : Str} {t : Tok} : ∀ {us : List Value} {zs : List Str}, StrsAre us zs → ∀ y ∈ us, MeetsSeq.EqGives y (.str z t) (eqz z y)
  | _, _, .nil => fun y hy => by cases hy
  | _, _, .cons n t' h => fun y hy => by
    rcases List.mem_cons.mp hy with e | e
    · rw [e]
      exact fun prog w A E s Q q => wpAny_eqBool_str q
    · exact eqz_gives h y e
theorem eqz_count {z : Str} : ∀ {us : List Value} {zs : List Str}, StrsAre us zs → us.countP (eqz z) = zs.count z
  | _, _, .nil => rfl
  | _, _, .cons n t h => by
    rw [List.countP_cons, List.count_cons, eqz_count (z := z) h]
    by_cases e : n = z
    · subst e
      simp [eqz]
    · simp [eqz, e]
theorem mt_lcountS {X : Cx} (K : PySem.W.Frag) (hK : X.K = K := by rfl) : MtR X "list.count" (rCntS K) := by
  subst hK
  intro pins s σ H x xs v us Q I rx rxs h
  obtain ⟨p, zs, z, rfl, rfl, hs, q⟩ := h
  cases rx
  obtain ⟨u, rfl, t, rfl⟩ := rxs.one
  obtain ⟨its, rv, ⟨⟨c, dd, data, sl⟩, n, ho, hc, hdn, hd⟩, _⟩ := I.list hs
  simp only at hc hd
  subst hc hd
  have hi := strs_of_vals rv
  have ec : its.toArray.toList.countP (eqz z) = zs.count z := eqz_count hi
  refine call_meets PySem.F.slot_list_count ⟨_, ho, rfl⟩ PySem.F.entry_list_count (PySem.F.args_list_count_2 _ _) (SeqAt.list_countAt p its.toArray n dd sl (.str z t) (eqz z))
    ⟨ho, fun y hy => (eqz_gives hi y (by simpa using hy)).at _ _, .int (zs.count z : Nat), H, I.tok _, ⟨s.toks, ?_⟩, q⟩
  rw [← ec]
theorem g_count {K : PySem.W.Frag} {H : Hp} {Q : VK} {p : Addr} {zs : List Str} {z : Str} (h : H p = some (.lst (zs.map V.str))) (k : Q (.int (zs.count z : Nat)) H) : rCntS K (.ref p) [.str z] H Q := ⟨p, zs, z, rfl, rfl, sq_of h, k⟩
/-! min, max of a pair -/
def rMinT : List V → Hp → VK → Prop := fun vs H Q => ∃ t i j, vs = [.ref t] ∧ H t = some (.tup [.int i, .int j]) ∧ Q (.int (min i j)) H
def rMaxT : List V → Hp → VK → Prop := fun vs H Q => ∃ t i j, vs = [.ref t] ∧ H t = some (.tup [.int i, .int j]) ∧ Q (.int (max i j)) H
theorem cr_minT {X : Cx} (hc : X.calm = true) (hu : X.A.units + 64 < cLine) : CallR X (.builtin "min") rMinT := by
  intro pins s σ H vs us Q I r h
  obtain ⟨t, i, j, rfl, ht, q⟩ := h
  rw [Vals.ref1 r]
  obtain ⟨its, rv, pt, _⟩ := I.tuple (st_of ht)
  obtain ⟨u1, u2, rfl, ⟨t1, rfl⟩, ⟨t2, rfl⟩⟩ := vals2 rv
  refine PySem.W.min_tuple_datum (x := i) (xs := [j]) (I.ok.hd hc) (show s.heap.IsTuple t _ from pt) (PySem.W.HoldAll.cons (PySem.W.holds_int i t1) (PySem.W.HoldAll.cons (PySem.W.holds_int j t2) PySem.W.HoldAll.nil)) (by
    have : PySem.W.Datum.depth Int ≤ 1 := by decide
    omega) fun n v h' tk _ hv hk => ?_
  obtain ⟨t3, rfl⟩ := PySem.W.int_of_holds hv
  refine ⟨.int _, H, I.kept hk, ⟨t3, rfl⟩, ?_⟩
  have e : PySem.W.minOf i [j] = min i j := by
    show (if decide (j < i) = true then j else i) = min i j
    by_cases c : j < i
    · rw [decide_eq_true c, if_pos rfl]
      omega
    · rw [decide_eq_false c, if_neg Bool.false_ne_true]
      omega
  rw [e]
  exact q
theorem cr_maxT {X : Cx} (hc : X.calm = true) (hu : X.A.units + 64 < cLine) : CallR X (.builtin "max") rMaxT := by
  intro pins s σ H vs us Q I r h
  obtain ⟨t, i, j, rfl, ht, q⟩ := h
  rw [Vals.ref1 r]
  obtain ⟨its, rv, pt, _⟩ := I.tuple (st_of ht)
  obtain ⟨u1, u2, rfl, ⟨t1, rfl⟩, ⟨t2, rfl⟩⟩ := vals2 rv
  refine PySem.W.max_tuple_datum (x := i) (xs := [j]) (I.ok.hd hc) (show s.heap.IsTuple t _ from pt) (PySem.W.HoldAll.cons (PySem.W.holds_int i t1) (PySem.W.HoldAll.cons (PySem.W.holds_int j t2) PySem.W.HoldAll.nil)) (by
    have : PySem.W.Datum.depth Int ≤ 1 := by decide
    omega) fun n v h' tk _ hv hk => ?_
  obtain ⟨t3, rfl⟩ := PySem.W.int_of_holds hv
  refine ⟨.int _, H, I.kept hk, ⟨t3, rfl⟩, ?_⟩
  have e : PySem.W.maxOf i [j] = max i j := by
    show (if decide (i < j) = true then j else i) = max i j
    by_cases c : i < j
    · rw [decide_eq_true c, if_pos rfl]
      omega
    · rw [decide_eq_false c, if_neg Bool.false_ne_true]
      omega
  rw [e]
  exact q
theorem g_minT {H : Hp} {Q : VK} {t : Addr} {i j : Int} (h : H t = some (.tup [.int i, .int j])) (k : Q (.int (min i j)) H) : rMinT [.ref t] H Q := ⟨t, i, j, rfl, h, k⟩
theorem g_maxT {H : Hp} {Q : VK} {t : Addr} {i j : Int} (h : H t = some (.tup [.int i, .int j])) (k : Q (.int (max i j)) H) : rMaxT [.ref t] H Q := ⟨t, i, j, rfl, h, k⟩
/-! sorted(d), the keys pairs that stand in order already -/
def pK (p : Int × Int) : List Key := [.inl p.1, .inl p.2]
def rSortTD : List V → Hp → VK → Prop := fun vs H Q => ∃ (a : Addr) (kvs : List (List Key × V)) (ks : List (Int × Int)), vs = [.ref a] ∧ H a = some (.dT kvs) ∧ kvs.map (·.1) = ks.map pK ∧ ks.Pairwise plt ∧ ks.length < 1000000 ∧
  ∀ p (bs : List Addr), H p = none → Paired (fun b k => H b = some (.tup [.int k.1, .int k.2])) bs ks → Q (.ref p) (upd H p (.lst (bs.map V.ref)))
/-- the pair that a value stands for -/
def pairAt (H : Hp) (v : Value) : Int × Int := match v with
  | .ref b => (match H b with
    | some (.tup [.int i, .int j]) => (i, j)
    | _ => (0, 0))
  | _ => (0, 0)
theorem srtd_pairs {H : Hp} : ∀ {bs : List Addr} {ks : List (Int × Int)}, Paired (fun b k => H b = some (.tup [.int k.1, .int k.2])) bs ks → ks.Pairwise plt → SrtO.Srtd (fun v u => SrtO.lexB (pairAt H v) (pairAt H u)) (bs.map Value.ref)
  | _, _, .nil, _ => List.Pairwise.nil
  | b :: bs, k :: ks, .cons r t, h => by
    obtain ⟨h1, h2⟩ := List.pairwise_cons.mp h
    refine List.pairwise_cons.mpr ⟨fun v hv => ?_, srtd_pairs t h2⟩
    obtain ⟨c, hc, rfl⟩ := List.mem_map.mp hv
    obtain ⟨n, hn, e⟩ := List.mem_iff_getElem.mp hc
    obtain ⟨k', hk', r'⟩ := Paired.get t (i := n) (x := c) (by rw [List.getElem?_eq_getElem hn, e])
    have l := h1 k' (List.mem_of_getElem? hk')
    refine SrtO.lexB_no.mpr ?_
    have e1 : pairAt H (.ref b) = k := by simp [pairAt, r]
    have e2 : pairAt H (.ref c) = k' := by simp [pairAt, r']
    rw [e1, e2]
    unfold plt at l
    omega
theorem cr_sortedTD {X : Cx} (hc : X.calm = true) : CallR X (.builtin "sorted") rSortTD := by
  intro pins s σ H vs us Q I r h
  obtain ⟨a, kvs, ks, rfl, ha, hk, hp, hb, q⟩ := h
  rw [Vals.ref1 r]
  obtain ⟨z, hs, xs, pr, o, es, ep, ho, hx, hdt, he, hn⟩ := (show ObjOk X.prog X.w H s.heap a (.dT kvs) from I.hok a _ ha)
  have l1 : es.size = xs.length := size_of_entries he
  have l2 : kvs.length = xs.length := Paired.len pr
  have l3 : kvs.length = ks.length := by
    have := congrArg List.length hk
    simpa using this
  -- the keys' tuples
  have key : ∀ {xs : List (List Key × Addr × Value)} {kvs : List (List Key × V)} {ks : List (Int × Int)}, Paired (fun (p : List Key × V) (q : List Key × Addr × Value) => p.1 = q.1 ∧ H q.2.1 = some (.tup (p.1.map kV)) ∧ RelV p.2 q.2.2) kvs xs → kvs.map (·.1) = ks.map pK →
      Paired (fun b (k : Int × Int) => H b = some (.tup [.int k.1, .int k.2])) (xs.map fun x => x.2.1) ks := by
    intro xs kvs ks pr
    induction pr generalizing ks with
    | nil =>
      intro e
      cases ks with
      | nil => exact .nil
      | cons k r => simp at e
    | @cons p q _ _ h t ih =>
      intro e
      cases ks with
      | nil => simp at e
      | cons k r =>
        rw [List.map_cons, List.map_cons] at e
        injection e with e1 e2
        refine .cons ?_ (ih e2)
        rw [h.2.1, e1]
        rfl
  have hbs := key pr hk
  refine Calls.call_function_entry PyProof.Rows.kind_sorted PyProof.Rows.plain_sorted PyProof.Rows.entry_sorted (PyProof.Rows.args_sorted1 _) ?_
  unfold Builtin.«sorted»
  refine wpAny_bind (m := checkCount "sorted" 1 1 _) (wpAny_pure ?_)
  refine wpAny_bind (PySem.W.kdu_collect (A := X.A.in1) (kdl_raw hs hx hdt) (I.ok.hd hc) ho (by rw [sizeLine_eq]; omega) fun h' tk acc kp it => ?_)
  have eb : acc.toList = (xs.map fun x => x.2.1).map Value.ref := by
    have hl : acc.toList.length = xs.length := by rw [Array.length_toList, it.1, l1]
    apply List.ext_getElem?
    intro j
    rw [List.getElem?_map, List.getElem?_map]
    cases hj : acc.toList[j]? with
    | none =>
      rw [List.getElem?_eq_none (by have := List.getElem?_eq_none_iff.mp hj; omega)]
      rfl
    | some v =>
      obtain ⟨en, hen, hv⟩ := it.2 j v (by rw [← Array.getElem?_toList, hj])
      have qe := entry_at he j
      rw [hen] at qe
      cases hb : xs[j]? with
      | none => rw [hb] at qe; cases qe
      | some b =>
        rw [hb] at qe
        rw [hv, Option.some.inj qe]
        rfl
  have I1 : Inv X pins σ H { s with heap := h', toks := tk } := I.kept kp
  have hal : acc.toList.length = ks.length := by rw [Array.length_toList, it.1]; omega
  refine wpAny_bind (wpAny_newList ?_ (by rw [hal, sizeLine_eq]; omega))
  have hoL : (h'.push (seqObj "list" acc.toList.toArray 0)).get? h'.objs.size = some (seqObj "list" acc.toList.toArray 0) := Heap.get?_push_size _ rfl
  have I2 : Inv X pins σ H { s with heap := h'.push (seqObj "list" acc.toList.toArray 0), toks := tk } := I1.kept fun b u e => Heap.get?_push_of_some _ e
  have hpair : ∀ v ∈ acc.toList, Srt.IsPair (h'.push (seqObj "list" acc.toList.toArray 0)) v (pairAt H v).1 (pairAt H v).2 := fun v hv => by
    rw [eb] at hv
    obtain ⟨b, hb, rfl⟩ := List.mem_map.mp hv
    obtain ⟨n, hn, e⟩ := List.mem_iff_getElem.mp hb
    obtain ⟨k', hk', r'⟩ := Paired.get hbs (i := n) (x := b) (by rw [List.getElem?_eq_getElem hn, e])
    have e2 : pairAt H (.ref b) = k' := by simp [pairAt, r']
    obtain ⟨_, its2, r2, o2, ho2, hc2, n2, hd2⟩ := I2.hok _ _ r'
    obtain ⟨u1, u2, rfl, ⟨t1, rfl⟩, ⟨t2, rfl⟩⟩ := vals2 r2
    rw [e2]
    exact ⟨b, o2, t1, t2, n2, rfl, ho2, hc2, hd2⟩
  show wpAny _ _ _ _ _ { s with heap := h'.push (seqObj "list" acc.toList.toArray 0), toks := tk }
  refine wpAny_bind (wpAny_holding (wpAny_call_entry PyProof.Rows.slot_list_sort ⟨_, hoL, rfl⟩ PyProof.Rows.entry_list_sort
    (SrtO.list_sort_ord (s := { s with heap := h'.push (seqObj "list" acc.toList.toArray 0), toks := tk }) (SrtO.swo_lex (pairAt H)) hoL (by rw [hal, sizeLine_eq]; omega) (fun h2 => SrtO.pairs_sortableO (by omega) hpair fun o e c => ?_) fun out g1 g2 => ⟨_, rfl, ?_⟩) (PyProof.Rows.args_list_sort _)))
  · rw [hoL] at e
    cases e
    exact absurd (Value.type.inj c) (by decide)
  have eo : out = acc.toList := SrtO.stb_uniq (SrtO.swo_lex (pairAt H)) g1 (by rw [eb]; exact srtd_pairs hbs hp) g2
  obtain ⟨e', he'⟩ := PyProof.Rows.sortedHeap_at (vs := acc.toList) (out := out.toArray) hoL
  have hlen : ((xs.map fun x => x.2.1).map V.ref).length ≤ sizeLine := by
    rw [List.length_map, List.length_map, sizeLine_eq]
    omega
  refine wpAny_pure ⟨_, rfl, .ref h'.objs.size, upd H h'.objs.size (.lst ((xs.map fun x => x.2.1).map V.ref)), I1.laid (t' := tk) (fun b u e => ?_) (Nat.le_refl _)
    (show ObjOk X.prog X.w _ _ _ (.lst ((xs.map fun x => x.2.1).map V.ref)) from ⟨hlen, out, e', by rw [eo, eb]; exact vals_refs _, he'⟩), rfl, q _ _ (I1.hok.fresh (Nat.le_refl _)) hbs⟩
  have hb : b < h'.objs.size := Heap.lt_size e
  rw [PyProof.Rows.sortedHeap_old (Nat.ne_of_lt hb) (by rw [size_push']; exact Nat.lt_succ_of_lt hb)]
  exact Heap.get?_push_of_some _ e
/-! set(l), l a list of whole numbers -/
/-- the new set's object -/
abbrev set0 (w : World) : Obj := { cls := .type "set", dict := none, data := .set #[] 0 (.fresh 0 0 (!w.params.followText "set-order")) }
set_option maxHeartbeats 4000000 in
theorem set_of_list {P : Program} {w : World} {A : Around} {E : Value → Shared → Prop} {s : Shared} {l : Addr} {vs : Array Value} (ns : List Int) {Q : Value → Shared → Prop} (hh : A.handled = none) (hl : s.heap.IsList l vs) (hi : IntsAre vs.toList ns) (hb : ns.length + 1 < scanBound)
    (h : ∀ (h' : Heap) (tk c : Nat), SetR w h' s.heap.objs.size (fun j => decide (j ∈ ns)) c → c ≤ ns.length → (∀ b o, s.heap.get? b = some o → h'.get? b = some o) → Q (.ref s.heap.objs.size) { s with heap := h', toks := tk }) :
    wpAny (model P w) A (call (.type "set") [.ref l]) Q E s := by
  have hn : vs.size = ns.length := by rw [← Array.length_toList]; exact IntsAre.length hi
  obtain ⟨c, tl, hmro⟩ := F.called_set.mro
  obtain ⟨hmade, hsub, h1, h2, hct⟩ := And.intro F.called_set.made (And.intro F.called_set.sub (And.intro F.called_set.notType (And.intro F.called_set.canCreate (F.typeCall_set_1 (.ref l)))))
  refine wpAny_call (codeAny_of_tree ?_)
  show wpAny _ _ (callAny (.type "set") _) _ _ _
  refine wpAny_pure ⟨Code.quiet_builtin _ (by decide +kernel), codeAny_builtin F.entry_type_call ?_⟩
  rw [Around.under_plain (weight_type_call_type "set" [.ref l] []) rfl]
  repeat any_goals first | assumption | wp_step
  refine codeAny_mono (code_set_led1 (.ref l) (E := E) (Q₁ := fun ob s1 => ob = .ref s.heap.objs.size ∧ s1 = { s with heap := s.heap.push (set0 w) }) ⟨rfl, rfl⟩) fun r s1 hr => ?_
  cases r with
  | error e => exact hr
  | ok fl =>
    cases fl with
    | ret ob =>
      obtain ⟨rfl, rfl⟩ := hr
      have hS : (s.heap.push (set0 w)).get? s.heap.objs.size = some (set0 w) := Heap.get?_push_size _ rfl
      have hT : Shared.TypeIs { s with heap := s.heap.push (set0 w) } (.ref s.heap.objs.size) "set" := ⟨_, hS, rfl⟩
      have hli := F.called_set.init.lookup
      have hbi := F.called_set.init.bind (.ref s.heap.objs.size)
      repeat any_goals first | assumption | wp_step
      refine codeAny_mono (codeAny_call_builtin (R := wants (fun r s2 => r = .none ∧ ∃ h' tk c, s2 = { s with heap := h', toks := tk } ∧ SetR w h' s.heap.objs.size (fun j => decide (j ∈ ns)) c ∧ c ≤ ns.length ∧
        (∀ b o, s.heap.get? b = some o → h'.get? b = some o)) E) F.called_set.init.plain F.entry_set_init (check_set_init_1 hT ?_)) fun r2 s2 hr2 => ?_
      · obtain ⟨⟨oc, od, dat, osl⟩, hol, hcl, m, hdl⟩ := hl
        simp only at hcl hdl
        subst hcl hdl
        have hlS : l < s.heap.objs.size := Heap.lt_size hol
        have hol' : (s.heap.push (set0 w)).get? l = some { cls := .type "list", dict := od, data := .seq vs m, slots := osl } := Heap.get?_push_of_some _ hol
        have hl1 : (s.heap.push (set0 w)).IsList l vs := ⟨_, hol', rfl, m, rfl⟩
        have hsls := F.sub_list_set
        have hslf := F.sub_list_frozenset
        have hne : (Value.type "list" == Value.type "dict") = false := by decide
        unfold Builtin.«set.__init__» noKeywords Builtin.Frozenset.updateFrom
        generalize hPI : pyIter = PI
        wp_walk
        subst hPI
        refine wpAny_pyIter_list hl1 (wpAny_bind (wpAny_runValue ?_))
        have hz : (s.heap.push (set0 w)).objs.size = s.heap.objs.size + 1 := Heap.size_push ..
        have hneI : l ≠ (s.heap.push (set0 w)).objs.size := by rw [hz]; exact Nat.ne_of_lt (Nat.lt_succ_of_lt hlS)
        have hval : ∀ (i : Nat) (v : Value), vs[i]? = some v → ∃ k t, ns[i]? = some k ∧ v = .int k t := fun i v hv => by
          have hlt : i < ns.length := by rw [← hn]; exact (Array.getElem?_eq_some_iff.mp hv).1
          obtain ⟨t, e⟩ := IntsAre.int_at hi i v (by rw [Array.getElem?_toList]; exact hv)
          refine ⟨ns[i], t, List.getElem?_eq_getElem hlt, ?_⟩
          rw [e, List.getD_eq_getElem?_getD, List.getElem?_eq_getElem hlt]
          rfl
        refine set_update_ints ((Walks.list (by simp [hh]) _ l hneI vs).toS) s.heap.objs.size (fun z => (List.mem_cons.mp z).elim (fun z => Nat.ne_of_lt (Nat.lt_succ_self _) (z.trans hz)) fun z => Nat.ne_of_gt hlS (List.mem_singleton.mp z)) ns hn hb hval (vs.size - 0) 0 _ (by omega) (Nat.zero_le _) ⟨⟨_, Heap.get?_push_size _ rfl, rfl, rfl⟩, hl1.push _⟩ ⟨0, Nat.le_refl 0, setR_new_at (Heap.get?_push_of_some _ hS)⟩ ?_
        intro s' c' hm hc' hS'
        obtain ⟨h', g2, d', tk', os'⟩ := s'
        obtain rfl : g2 = s.gens := hm.gens
        obtain rfl : d' = s.drawn := hm.drawn
        obtain rfl : os' = s.os := hm.os
        refine wpAny_pure ?_
        show wpAny _ _ (ret Value.none) _ _ _
        refine wpAny_pure ⟨rfl, h', tk', c', rfl, hS', hn ▸ hc', fun b o e => ?_⟩
        have hb0 : b < s.heap.objs.size := Heap.lt_size e
        exact hm.heap b o (fun z => (List.mem_cons.mp z).elim (Nat.ne_of_lt hb0) fun z => Nat.ne_of_lt (Nat.lt_succ_of_lt hb0) ((List.mem_singleton.mp z).trans hz)) (Heap.get?_push_of_some _ (Heap.get?_push_of_some _ e))
      · cases r2 with
        | error e => exact hr2
        | ok f2 =>
          cases f2 with
          | ret r =>
            obtain ⟨rfl, h', tk, c', rfl, hS', hc', hk'⟩ := hr2
            repeat any_goals first | assumption | wp_step
            exact h _ _ _ hS' hc' hk'
          | _ => exact hr2.elim
    | _ => exact hr.elim
def rSetL (w : World) : List V → Hp → VK → Prop := fun vs H Q => ∃ (l : Addr) (ns : List Int), vs = [.ref l] ∧ H l = some (.lst (ns.map V.int)) ∧ ns.length < 1000 ∧
  ∀ p c, H p = none → (∀ b : Nat, (∀ x ∈ ns, 0 ≤ x ∧ x < b) → c ≤ b) → Q (.ref p) (upd H p (SetO w p (fun j => decide (j ∈ ns)) c))
/-- a set holds no more than its range -/
theorem setR_le {w : World} {h : Heap} {a : Addr} {ns : List Int} {c : Nat} (R : SetR w h a (fun j => decide (j ∈ ns)) c) (b : Nat) (hb : ∀ x ∈ ns, 0 ≤ x ∧ x < b) : c ≤ b := by
  obtain ⟨o, es, ep, t, _, _, _, _, nd, mem, _, _, sz, _⟩ := R
  have := nd_len (n := b) nd fun x hx => hb x (of_decide_eq_true ((mem x).mpr hx))
  rw [List.length_map, Array.length_toList] at this
  omega
theorem cr_setL {X : Cx} (hc : X.calm = true) : CallR X (.type "set") (rSetL X.w) := by
  intro pins s σ H vs us Q I r h
  obtain ⟨l, ns, rfl, hl, hn, q⟩ := h
  rw [Vals.ref1 r]
  obtain ⟨its, rv, pl, hz⟩ := I.list (sq_of hl)
  refine set_of_list ns (I.ok.hd hc) pl.isList (by simpa using ints_of_vals rv) (by unfold scanBound; omega) fun h' tk c R hcn k => ?_
  exact ⟨.ref s.heap.objs.size, _, I.laid (t' := tk) k (Nat.le_refl _) (setO_new R), rfl, q _ c (I.hok.fresh (Nat.le_refl _)) (setR_le R)⟩
theorem g_set {w : World} {H : Hp} {Q : VK} {l : Addr} {ns : List Int} (h : H l = some (.lst (ns.map V.int))) (n : ns.length < 1000) (k : ∀ p c, H p = none → (∀ b : Nat, (∀ x ∈ ns, 0 ≤ x ∧ x < b) → c ≤ b) → Q (.ref p) (upd H p (SetO w p (fun j => decide (j ∈ ns)) c))) : rSetL w [.ref l] H Q := ⟨l, ns, rfl, h, n, k⟩
/-- sorted(set(ns)) -/
theorem g_sortset {w : World} {H : Hp} {Q : VK} {p : Addr} {ns ms : List Int} {c : Nat} (h : H p = some (SetO w p (fun j => decide (j ∈ ns)) c)) (n : c < 64) (r : ms.Pairwise (· < ·)) (e : ∀ x, x ∈ ms ↔ x ∈ ns) (k : ∀ q, H q = none → Q (.ref q) (upd H q (.lst (ms.map V.int)))) : rSortedSet w [.ref p] H Q :=
  ⟨p, _, c, rfl, h, n, fun ns' q pw hm _ nq => by
    have e2 : ns' = ms := rise_eq pw r fun x => by rw [hm x, e x]; simp
    rw [e2]
    exact k q nq⟩
theorem g_dnewT {σ : L2.St} {H : Hp} {Q : VK} (h : ∀ p, H p = none → Q (.ref p) (upd H p (.dT []))) : tDNewT σ H Q := h
theorem g_sortTD {H : Hp} {Q : VK} {a : Addr} {kvs : List (List Key × V)} {ks : List (Int × Int)} (h : H a = some (.dT kvs)) (e : kvs.map (·.1) = ks.map pK) (r : ks.Pairwise plt) (n : ks.length < 1000000)
    (k : ∀ p (bs : List Addr), H p = none → Paired (fun b k => H b = some (.tup [.int k.1, .int k.2])) bs ks → Q (.ref p) (upd H p (.lst (bs.map V.ref)))) : rSortTD [.ref a] H Q := ⟨a, kvs, ks, rfl, h, e, r, n, k⟩
/-- sorted of pairs, in order: the items are those of xs -/
theorem g_sortP {K : PySem.W.Frag} {H : Hp} {Q : VK} {a : Addr} {xs : List V} {ps : List (Int × Int)} (h : H a = some (.lst xs)) (pr : Paired (rPair No H) xs ps)
    (k : ∀ (ys : List V) (qs : List (Int × Int)) p, qs.Perm ps → qs.Pairwise (fun x y => ¬ plt y x) → Paired (rPair No H) ys qs → (∀ y ∈ ys, y ∈ xs) → H p = none → Q (.ref p) (upd H p (.lst ys))) : rSortedPO K [.ref a] H Q := by
  let kf : V → Int × Int := fun v => match v with
    | .ref b => (match H b with
      | some (.tup [.int i, .int j]) => (i, j)
      | _ => (0, 0))
    | _ => (0, 0)
  have kfe : ∀ {b : Addr} {i j : Int}, H b = some (.tup [.int i, .int j]) → kf (.ref b) = (i, j) := fun {b i j} e => by simp [kf, e]
  have key : ∀ {xs : List V} {ps : List (Int × Int)}, Paired (rPair No H) xs ps → xs.map kf = ps ∧ ∀ x ∈ xs, rPair No H x (kf x) := by
    intro xs ps pr
    induction pr with
    | nil => exact ⟨rfl, by simp⟩
    | @cons x p _ _ r t ih =>
      obtain ⟨b, rfl, nb, hb⟩ := r
      have e := kfe hb
      refine ⟨by rw [List.map_cons, ih.1, e], fun y hy => ?_⟩
      rcases List.mem_cons.mp hy with rfl | hy
      · rw [e]
        exact ⟨b, rfl, nb, hb⟩
      · exact ih.2 y hy
  obtain ⟨k1, k2⟩ := key pr
  refine ⟨a, xs, kf, rfl, sq_of h, fun x hx => ?_, fun ys p sr st np => ?_⟩
  · obtain ⟨b, e, _, hb⟩ := k2 x hx
    exact ⟨b, e, hb⟩
  · have pm := st.perm
    have all : ∀ y ∈ ys, rPair No H y (kf y) := fun y hy => k2 y (pm.mem_iff.mp hy)
    refine k ys (ys.map kf) p (by rw [← k1]; exact pm.map kf) ?_ ?_ (fun y hy => pm.mem_iff.mp hy) np
    · refine List.pairwise_map.mpr (sr.imp fun {x y} l => ?_)
      have l := SrtO.lexB_no.mp l
      unfold plt
      omega
    · clear sr st pm
      induction ys with
      | nil => exact .nil
      | cons y r ih => exact .cons (all y List.mem_cons_self) (ih fun z hz => all z (List.mem_cons_of_mem _ hz))
theorem g_rdputT {H : Hp} {Q : Hp → Prop} {a b : Addr} {kvs : List (List Key × V)} {i j : Int} {x : V} (h : H a = some (.dT kvs)) (hb : H b = some (.tup [.int i, .int j])) (n : kvs.length < 1000000) (k : Q (upd H a (.dT (putK kvs (pK (i, j)) x)))) : rDPutq x (.ref a) (.ref b) H Q :=
  ⟨a, _, rfl, DPut.t (k := pK (i, j)) h hb (by rw [sizeLine_eq]; omega), k⟩
end G3

set_option maxHeartbeats 2000000
namespace G3
open PySem PySem.Spec PyProof.Rows L2
/-! ### more of dicts -/
section
variable {K : PySem.W.Frag} {σ : L2.St} {H : Hp} {Q : VK} {D : Ends} {ta tb td ty tv tx : TE} {i j : Int} {a : Addr} {m : List (Int × Int)} {x y z : V}
theorem keys_dI {m : List (Int × Int)} : (dI m).map (·.1) = (m.map (·.1)).map Sum.inl := by
  unfold dI
  rw [List.map_map, List.map_map]
  rfl
theorem dI_len {m : List (Int × Int)} : (dI m).length = m.length := by simp [dI]
theorem g_sortD (h : H a = some (.dK (dI m))) (n : m.length < 64) (k : ∀ p, H p = none → Q (.ref p) (upd H p (.lst ((isort (m.map (·.1))).map V.int)))) : rSortD [.ref a] H Q :=
  ⟨a, dI m, m.map (·.1), rfl, .inl h, keys_dI, by rw [List.length_map]; exact n, fun ys p pm sr np => by rw [srt_eq (pm.trans (isort_perm _).symm) sr (isort_srt _)]; exact k p np⟩
theorem g_listD (h : H a = some (.dK (dI m))) (k : ∀ p, H p = none → Q (.ref p) (upd H p (.lst ((m.map (·.1)).map V.int)))) : rListD [.ref a] H Q :=
  ⟨a, dI m, rfl, h, fun q nq => by
    have e : (dI m).map (fun kv => kV kv.1) = (m.map (·.1)).map V.int := by
      unfold dI
      rw [List.map_map, List.map_map]
      rfl
    rw [e]
    exact k q nq⟩
theorem g_mulc (h : -(2 ^ 64) < i ∧ i < 2 ^ 64) (k : Q (.int (i * j)) H) : rI CMul (fun i j => .int (i * j)) (.int i) (.int j) H Q := g_rI (.inl h) k
theorem g_modc (h : 0 < j) (k : Q (.int (i % j)) H) : rI (fun _ j => 0 < j) (fun i j => .int (i % j)) (.int i) (.int j) H Q := g_rI h k
theorem g_divc (h : 0 < j ∧ j < 1073741824) (k : Q (.int (i / j)) H) : rI CDiv (fun i j => .int (i / j)) (.int i) (.int j) H Q := g_rI h k
def rDS1 (ty tx : TE) (x : V) (σ : L2.St) (H : Hp) (Q : VK) : Prop := ∃ a, x = .ref a ∧ IsD H a ∧ ty σ H fun y H2 => tx σ H2 fun z H3 => ∃ (kvs : List (Key × V)) (k : Key), H3 a = some (.dK kvs) ∧ y = kV k ∧ kvs.length < sizeLine ∧
  (∀ v, valV kvs k = some v → Q v H3) ∧ (valV kvs k = none → Q z (upd H3 a (.dK (putK kvs k z))))
def rDS2 (a : Addr) (y z : V) (H : Hp) (Q : VK) : Prop := ∃ (kvs : List (Key × V)) (k : Key), H a = some (.dK kvs) ∧ y = kV k ∧ kvs.length < sizeLine ∧
  (∀ v, valV kvs k = some v → Q v H) ∧ (valV kvs k = none → Q z (upd H a (.dK (putK kvs k z))))
theorem g_dsetd (h : td σ H fun x H1 => rDS1 ty tx x σ H1 Q) : tDSetd td ty tx σ H Q := h
theorem g_rds1 (h : H a = some (.dK (dI m))) (k : ty σ H fun y H2 => tx σ H2 fun z H3 => rDS2 a y z H3 Q) : rDS1 ty tx (.ref a) σ H Q := ⟨a, rfl, .inl ⟨_, .inl h⟩, k⟩
theorem g_rds2 (h : H a = some (.dK (dI m))) (n : m.length < 1000000) (k1 : ∀ v, lkp m i = some v → Q (.int v) H) (k2 : lkp m i = none → Q (.int j) (upd H a (.dK (dI (putI m i j))))) : rDS2 a (.int i) (.int j) H Q := by
  refine ⟨dI m, Sum.inl i, h, rfl, by rw [sizeLine_eq, dI_len]; omega, fun v e => ?_, fun e => ?_⟩
  · rw [valV_dI] at e
    cases q : lkp m i with
    | none => rw [q] at e; cases e
    | some x =>
      rw [q] at e
      cases e
      exact k1 x q
  · rw [valV_dI] at e
    rw [putK_dI]
    refine k2 ?_
    cases q : lkp m i with
    | none => rfl
    | some x => rw [q] at e; cases e
def rDA (tv : TE) (rd : V → V → Hp → VK → Prop) (D : Ends) (x y : V) (σ : L2.St) (H : Hp) : Prop := ∃ a v, x = .ref a ∧ DGet H a y (some v) ∧ tv σ H fun y2 H3 => rd v y2 H3 fun z H4 => ∃ H5, DPut H4 a y z H5 ∧ D.nx σ H5
def rDB (a : Addr) (y z : V) (H : Hp) (Q : Hp → Prop) : Prop := ∃ H5, DPut H a y z H5 ∧ Q H5
theorem g_daug {rd : V → V → Hp → VK → Prop} (h : td σ H fun x H1 => ty σ H1 fun y H2 => rDA tv rd D x y σ H2) : sDAug td ty tv rd D σ H := h
theorem g_rda {rd : V → V → Hp → VK → Prop} {v : Int} (h : H a = some (.dK (dI m))) (e : lkp m i = some v) (k : tv σ H fun y2 H3 => rd (.int v) y2 H3 fun z H4 => rDB a (.int i) z H4 (D.nx σ)) : rDA tv rd D (.ref a) (.int i) σ H :=
  ⟨a, .int v, rfl, by have := dg (i := i) h; rw [e] at this; exact this, k⟩
theorem g_rdb {Q : Hp → Prop} (h : H a = some (.dK (dI m))) (n : m.length < 1000000) (k : Q (upd H a (.dK (dI (putI m i j))))) : rDB a (.int i) (.int j) H Q :=
  ⟨_, DPut.k (k := Sum.inl i) h (by rw [sizeLine_eq]; unfold dI; rw [List.length_map]; omega), by rw [putK_dI]; exact k⟩
theorem g_rAdd (k : Q (.int (i + j)) H) : rAdd (.int i) (.int j) H Q := ⟨i, j, rfl, rfl, k⟩
theorem g_rSub (k : Q (.int (i - j)) H) : rSub (.int i) (.int j) H Q := ⟨i, j, rfl, rfl, k⟩
theorem g_disp {u v : Nat} (e1 : σ[u]? = some (some (.int i))) (e2 : σ[v]? = some (some (.int j))) (h : ∀ p, H p = none → Q (.ref p) (upd H p (.dK (dI [(i, j)])))) : tDisp [(tVar u, tVar v)] σ H Q := fun p np =>
  ⟨_, e1, _, e2, upd_same, [(Sum.inl i, .int j)], rfl, by simp, by rw [upd_upd]; exact h p np⟩
end
/-! ### slices -/
theorem cut_mid {pre mid post : List V} : cutV (pre ++ mid ++ post) (some (pre.length : Nat)) (some ((pre.length + mid.length : Nat) : Int)) = mid := by
  unfold cutV
  rw [HT.sIx_nat, HT.sIx_nat]
  have e1 : min pre.length (pre ++ mid ++ post).length = pre.length := by simp
  have e2 : min (pre.length + mid.length) (pre ++ mid ++ post).length = pre.length + mid.length := by simp
  rw [e1, e2, List.append_assoc, List.drop_left, show pre.length + mid.length - pre.length = mid.length by omega, List.take_left]
theorem cut_to {xs : List V} {k : Nat} (h : k ≤ xs.length) : cutV xs none (some (k : Int)) = xs.take k := by
  unfold cutV
  rw [HT.sIx_none, HT.sIx_nat]
  simp
theorem cut_from {xs : List V} {k : Nat} (h : k ≤ xs.length) : cutV xs (some (k : Int)) none = xs.drop k := by
  unfold cutV
  rw [HT.sIx_none, HT.sIx_nat, Nat.min_eq_left h]
  exact List.take_of_length_le (by simp)
theorem cut_last {xs : List V} {x : V} : cutV (xs ++ [x]) none (some (-1)) = xs := by
  unfold cutV
  have e : HT.sIx (xs ++ [x]).length (xs ++ [x]).length (some (-1)) = xs.length := by
    show (if (-1 : Int) < 0 then ((-1 : Int) + ((xs ++ [x]).length : Nat)).toNat else min (-1 : Int).toNat (xs ++ [x]).length) = _
    rw [if_pos (by decide), List.length_append, List.length_singleton]
    omega
  rw [HT.sIx_none, e]
  simp
/-! ### rows: a list of dicts -/
def DRows (H : Hp) (ls : List Addr) (n : Nat) (R : Nat → List (Int × Int)) : Prop := ls.length = n ∧ ls.Nodup ∧ ∀ (i : Nat) (l : Addr), ls[i]? = some l → H l = some (.dK (dI (R i)))
theorem DRows.at {H : Hp} {ls : List Addr} {n : Nat} {f : Nat → List (Int × Int)} (h : DRows H ls n f) {i : Nat} (hi : i < n) : ∃ l, ls[i]? = some l ∧ H l = some (.dK (dI (f i))) := by
  have e : i < ls.length := by rw [h.1]; exact hi
  exact ⟨ls[i], List.getElem?_eq_getElem e, h.2.2 i _ (List.getElem?_eq_getElem e)⟩
theorem DRows.put {H : Hp} {ls : List Addr} {n : Nat} {f : Nat → List (Int × Int)} (h : DRows H ls n f) {i : Nat} {l : Addr} (hl : ls[i]? = some l) (m : List (Int × Int)) :
    DRows (upd H l (.dK (dI m))) ls n (fun j => if j = i then m else f j) := by
  refine ⟨h.1, h.2.1, fun j k hm => ?_⟩
  by_cases e : j = i
  · subst e
    rw [hl] at hm
    cases hm
    rw [upd_same]
    simp
  · have ne : k ≠ l := fun z => by
      subst z
      obtain ⟨h1, e1⟩ := List.getElem?_eq_some_iff.mp hm
      obtain ⟨h2, e2⟩ := List.getElem?_eq_some_iff.mp hl
      exact e ((List.getElem_inj h.2.1).mp (e1.trans e2.symm))
    rw [upd_ne ne]
    simp only [e, if_false]
    exact h.2.2 j k hm
theorem DRows.keep {H H' : Hp} {ls : List Addr} {n : Nat} {f : Nat → List (Int × Int)} (h : DRows H ls n f) (k : ∀ l, l ∈ ls → ∀ o, H l = some o → H' l = some o) : DRows H' ls n f :=
  ⟨h.1, h.2.1, fun i l hl => k l (List.mem_of_getElem? hl) _ (h.2.2 i l hl)⟩
theorem DRows.same {H H' : Hp} {ls : List Addr} {n : Nat} {f : Nat → List (Int × Int)} (h : DRows H ls n f) (s : Same H H') : DRows H' ls n f := h.keep fun l _ o e => s l o e
theorem DRows.isD {H : Hp} {ls : List Addr} {n : Nat} {f : Nat → List (Int × Int)} (h : DRows H ls n f) {l : Addr} (m : l ∈ ls) : ∃ r, H l = some (.dK (dI r)) := by
  obtain ⟨i, hi, e⟩ := List.mem_iff_getElem.mp m
  exact ⟨_, h.2.2 i l (by rw [List.getElem?_eq_getElem hi, e])⟩
theorem g_drow {K : PySem.W.Frag} {H : Hp} {Q : VK} {ls : List Addr} {n : Nat} {f : Nat → List (Int × Int)} {a : Addr} {i : Int} (h : H a = some (.lst (ls.map V.ref))) (r : DRows H ls n f) (h0 : 0 ≤ i) (h1 : i < n)
    (k : ∀ l, ls[i.toNat]? = some l → H l = some (.dK (dI (f i.toNat))) → Q (.ref l) H) : rIxL K (.ref a) (.int i) H Q := by
  obtain ⟨l, hl, e⟩ := r.at (i := i.toNat) (by omega)
  refine g_ix h (atI_at h0 ?_) (k l hl e)
  rw [List.getElem?_map, hl]
  rfl
/-- what is in ls may have changed, the rest not -/
def KeepX (ls : List Addr) (H H' : Hp) : Prop := ∀ b o, b ∉ ls → H b = some o → H' b = some o
theorem KeepX.same {ls : List Addr} {H0 H H' : Hp} (s : Same H0 H) (k : KeepX ls H H') (n : ∀ l ∈ ls, H0 l = none) : Same H0 H' := fun b o e => k b o (fun m => by rw [n b m] at e; cases e) (s b o e)
/-! ### the arcs: node v is 2 v and 2 v + 1, the source is 2 n and the sink 2 n + 1 -/
/-- p and q may be an arc, or an arc turned -/
def AK (n : Nat) (p q : Int) : Prop := (0 ≤ p ∧ p ≤ 2 * n + 1 ∧ 0 ≤ q ∧ q ≤ 2 * n + 1) ∧ ((p < 2 * n ∧ q < 2 * n ∧ p % 2 ≠ q % 2) ∨ (p < 2 * n ∧ p % 2 = 0 ∧ q = 2 * n) ∨ (q < 2 * n ∧ q % 2 = 0 ∧ p = 2 * n) ∨ (p < 2 * n ∧ p % 2 = 1 ∧ q = 2 * n + 1) ∨ (q < 2 * n ∧ q % 2 = 1 ∧ p = 2 * n + 1))
theorem AK.symm {n : Nat} {p q : Int} (h : AK n p q) : AK n q p := by unfold AK at h ⊢; omega
open Classical in
/-- what an arc holds -/
noncomputable def cap (n : Nat) (Es : List (Int × Int)) (A B : List Int) (p q : Int) : Int :=
  if (0 ≤ p ∧ p < 2 * n) ∧ p % 2 = 0 ∧ q = p + 1 then 1
  else if ((0 ≤ p ∧ p < 2 * n) ∧ (0 ≤ q ∧ q < 2 * n) ∧ p % 2 = 1 ∧ q % 2 = 0 ∧ Adj Es (p / 2) (q / 2)) ∨ (p = 2 * n ∧ (0 ≤ q ∧ q < 2 * n) ∧ q % 2 = 0 ∧ q / 2 ∈ A) ∨ (q = 2 * n + 1 ∧ (0 ≤ p ∧ p < 2 * n) ∧ p % 2 = 1 ∧ p / 2 ∈ B) then n + 1 else 0
/-- rows as they are made: what is there is an arc with what it holds -/
structure Arc0 (n : Nat) (Es : List (Int × Int)) (A B : List Int) (R : Nat → List (Int × Int)) : Prop where
  cp : ∀ (p : Nat) q x, lkp (R p) q = some x → x = cap n Es A B p q ∧ AK n p q
  nd : ∀ p, ((R p).map (·.1)).Nodup
/-- q is a key of p -/
def Has (R : Nat → List (Int × Int)) (p : Nat) (q : Int) : Prop := lkp (R p) q ≠ none
theorem keys_put {m : List (Int × Int)} {k v : Int} (n : (m.map (·.1)).Nodup) : ((putI m k v).map (·.1)).Nodup := by
  cases e : lkp m k with
  | none =>
    rw [putI_new v e, List.map_append]
    exact nd_snoc n (lkp_none.mp e)
  | some x =>
    unfold putI
    have h : (m.any fun p => decide (p.1 = k)) = true := List.any_eq_true.mpr ⟨_, lkp_mem e, by simp⟩
    rw [if_pos h, List.map_map]
    have e2 : (m.map ((fun x => x.1) ∘ fun p => if p.1 = k then (p.1, v) else p)) = m.map (·.1) := List.map_congr_left fun p _ => by
      show (if p.1 = k then (p.1, v) else p).1 = p.1
      split <;> rfl
    rw [e2]
    exact n
theorem has_put {R : Nat → List (Int × Int)} {p : Nat} {q x : Int} {a : Nat} {b : Int} : Has (fun j => if j = p then putI (R p) q x else R j) a b ↔ Has R a b ∨ (a = p ∧ b = q) := by
  unfold Has
  by_cases e : a = p
  · subst e
    simp only [if_true]
    rw [lkp_putI]
    by_cases f : b = q <;> simp [f]
  · simp [e]
theorem Arc0.put {n : Nat} {Es : List (Int × Int)} {A B : List Int} {R : Nat → List (Int × Int)} (h : Arc0 n Es A B R) {p : Nat} {q x : Int} (k : AK n p q) (e : x = cap n Es A B p q) :
    Arc0 n Es A B (fun j => if j = p then putI (R p) q x else R j) := by
  refine ⟨fun a b y hy => ?_, fun a => ?_⟩
  · by_cases e' : a = p
    · subst e'
      simp only [if_true] at hy
      rw [lkp_putI] at hy
      by_cases f : b = q
      · subst f
        simp at hy
        exact ⟨hy ▸ e, k⟩
      · rw [if_neg f] at hy
        exact h.cp a b y hy
    · simp only [e', if_false] at hy
      exact h.cp a b y hy
  · by_cases e' : a = p
    · subst e'
      simp only [if_true]
      exact keys_put (h.nd a)
    · simp only [e', if_false]
      exact h.nd a
theorem keys_len {n p : Nat} {ks : List Int} (nd : ks.Nodup) (ak : ∀ k ∈ ks, AK n p k) : ks.length ≤ n + 1 := by
  have e : (ks.map fun k => k / 2).Nodup := by
    refine List.pairwise_map.mpr (List.Pairwise.imp_of_mem (fun {a b} ha hb ne => ?_) nd)
    have h1 := ak a ha
    have h2 := ak b hb
    unfold AK at h1 h2
    omega
  have := nd_len (n := n + 1) e fun x hx => by
    obtain ⟨k, hk, rfl⟩ := List.mem_map.mp hx
    have h1 := ak k hk
    unfold AK at h1
    omega
  rw [List.length_map] at this
  exact this
theorem has_key {R : Nat → List (Int × Int)} {p : Nat} {q : Int} : q ∈ (R p).map (·.1) ↔ Has R p q := by
  unfold Has
  rw [Ne, lkp_none]
  exact ⟨fun h z => z h, fun h => Classical.byContradiction h⟩
theorem Arc0.len {n : Nat} {Es : List (Int × Int)} {A B : List Int} {R : Nat → List (Int × Int)} (h : Arc0 n Es A B R) (p : Nat) : (R p).length ≤ n + 1 := by
  have := keys_len (h.nd p) (n := n) (p := p) fun k hk => by
    obtain ⟨x, hx⟩ := Option.ne_none_iff_exists'.mp (has_key.mp hk)
    exact (h.cp p k x hx).2
  rw [List.length_map] at this
  exact this
/-- rows as arcs_of hands them back -/
structure Arcs (n : Nat) (Es : List (Int × Int)) (A B : List Int) (R : Nat → List (Int × Int)) : Prop where
  a : Arc0 n Es A B R
  all : ∀ (p : Nat) (q : Int), AK n p q → cap n Es A B p q ≠ 0 → Has R p q
  sym : ∀ (p q : Nat), Has R p q → Has R q p
end G3

set_option maxHeartbeats 2000000
namespace G3
/-! ### what is joined; two colours -/
inductive Conn (A : Int → Int → Prop) (s : Int) : Int → Prop where
  | refl : Conn A s s
  | step {u v : Int} (h : Conn A s u) (a : A u v) : Conn A s v
theorem Conn.trans {A : Int → Int → Prop} {s u v : Int} (h : Conn A s u) (k : Conn A u v) : Conn A s v := by
  induction k with
  | refl => exact h
  | step _ a ih => exact .step ih a
theorem Conn.symm {A : Int → Int → Prop} (sy : ∀ u v, A u v → A v u) {s v : Int} (h : Conn A s v) : Conn A v s := by
  induction h with
  | refl => exact .refl
  | step _ a ih => exact Conn.trans (.step .refl (sy _ _ a)) ih
theorem Conn.mono {A B : Int → Int → Prop} (f : ∀ u v, A u v → B u v) {s v : Int} (h : Conn A s v) : Conn B s v := by
  induction h with
  | refl => exact .refl
  | step _ a ih => exact .step ih (f _ _ a)
/-- two colours will do -/
def Bip (A : Int → Int → Prop) : Prop := ∃ c : Int → Bool, ∀ u v, A u v → c u ≠ c v
/-- col colours the nodes with 0 and 1, the least node of what is joined with 0 -/
structure Canon (A : Int → Int → Prop) (nd : Int → Prop) (col : Int → Int) : Prop where
  ok : ∀ u v, A u v → col u ≠ col v
  two : ∀ v, nd v → col v = 0 ∨ col v = 1
  root : ∀ v, nd v → ∃ r, nd r ∧ Conn A r v ∧ col r = 0 ∧ ∀ u, Conn A r u → r ≤ u
theorem Canon.bip {A : Int → Int → Prop} {nd : Int → Prop} {col : Int → Int} (c : Canon A nd col) (h : ∀ u v, A u v → nd u) (sy : ∀ u v, A u v → A v u) : Bip A := by
  refine ⟨fun v => decide (col v = 0), fun u v a => ?_⟩
  have n := c.ok u v a
  have t1 := c.two u (h u v a)
  have t2 := c.two v (h v u (sy u v a))
  intro e
  have e := decide_eq_decide.mp e
  omega
theorem Canon.uniq {A : Int → Int → Prop} {nd : Int → Prop} {col col' : Int → Int} (sy : ∀ u v, A u v → A v u) (h : ∀ u v, A u v → nd u) (c : Canon A nd col) (c' : Canon A nd col') {v : Int} (hv : nd v) : col v = col' v := by
  obtain ⟨r, _, hr, h0, hm⟩ := c.root v hv
  obtain ⟨r', _, hr', h0', hm'⟩ := c'.root v hv
  have e1 := hm r' (hr.trans (hr'.symm sy))
  have e2 := hm' r (hr'.trans (hr.symm sy))
  have e : r = r' := by omega
  subst e
  clear hm hm' hr'
  induction hr with
  | refl => rw [h0, h0']
  | @step u v hu a ih =>
    have q := ih (h u v a)
    have n1 := c.ok u v a
    have n2 := c'.ok u v a
    have t1 := c.two u (h u v a)
    have t2 := c.two v hv
    have t3 := c'.two v hv
    omega
/-- what a search from s has found: away, and the node before -/
structure Srch (A : Int → Int → Prop) (s : Int) (D B : Int → Option Int) : Prop where
  start : D s = some 0
  tree : ∀ v d, D v = some d → 0 ≤ d ∧ Conn A s v ∧ (v = s ∨ ∃ u, B v = some u)
  bef : ∀ v u, B v = some u → A u v ∧ ∃ d, D u = some d ∧ D v = some (d + 1)
theorem Srch.par {A : Int → Int → Prop} {s : Int} {D B : Int → Option Int} (S : Srch A s D B) {c : Int → Bool} (hc : ∀ u v, A u v → c u ≠ c v) : ∀ (k : Nat) (v d : Int), d.toNat = k → D v = some d → (c v = c s ↔ d % 2 = 0)
  | k, v, d, hk, hd => by
    obtain ⟨h0, _, h⟩ := S.tree v d hd
    rcases h with rfl | ⟨u, hu⟩
    · rw [S.start] at hd
      cases hd
      simp
    · obtain ⟨a, d', e1, e2⟩ := S.bef v u hu
      rw [hd] at e2
      cases e2
      obtain ⟨h0', _⟩ := S.tree u d' e1
      have ih := Srch.par S hc d'.toNat u d' rfl e1
      have n := hc u v a
      constructor
      · intro e
        have : ¬ c u = c s := fun z => n (z.trans e.symm)
        have h9 : ¬ d' % 2 = 0 := fun z => this (ih.mpr z)
        omega
      · intro e
        have : ¬ c u = c s := fun z => by
          have := ih.mp z
          omega
        cases h1 : c u <;> cases h2 : c v <;> cases h3 : c s <;> simp_all
termination_by k => k
decreasing_by omega
/-- a part: an ascending list of all that is joined with its first one -/
def Part (A : Int → Int → Prop) (p : List Int) : Prop := ∃ r rest, p = r :: rest ∧ p.Pairwise (· < ·) ∧ ∀ v, v ∈ p ↔ Conn A r v
end G3

set_option maxHeartbeats 2000000
namespace G3
/-! ### sums -/
def sm (f : Nat → Int) : Nat → Int
  | 0 => 0
  | n + 1 => sm f n + f n
theorem sm_congr {f g : Nat → Int} : ∀ {n : Nat}, (∀ i, i < n → f i = g i) → sm f n = sm g n
  | 0, _ => rfl
  | n + 1, h => by rw [sm, sm, sm_congr fun i hi => h i (by omega), h n (by omega)]
theorem sm_add (f g : Nat → Int) : ∀ n, sm (fun i => f i + g i) n = sm f n + sm g n
  | 0 => rfl
  | n + 1 => by rw [sm, sm, sm, sm_add f g n]; omega
theorem sm_neg (f : Nat → Int) : ∀ n, sm (fun i => - f i) n = - sm f n
  | 0 => rfl
  | n + 1 => by rw [sm, sm, sm_neg f n]; omega
theorem sm_zero : ∀ n, sm (fun _ => 0) n = 0
  | 0 => rfl
  | n + 1 => by rw [sm, sm_zero n]; rfl
theorem sm_single {f : Nat → Int} {a : Nat} : ∀ {n : Nat}, a < n → (∀ i, i < n → i ≠ a → f i = 0) → sm f n = f a
  | 0, h, _ => by omega
  | n + 1, h, z => by
    rw [sm]
    by_cases e : a = n
    · subst e
      have : sm f a = 0 := by rw [sm_congr (g := fun _ => 0) fun i hi => z i (by omega) (by omega), sm_zero]
      omega
    · rw [sm_single (a := a) (by omega) fun i hi ne => z i (by omega) ne, z n (by omega) (by omega)]
      omega
theorem sm_nn {f : Nat → Int} : ∀ {n : Nat}, (∀ i, i < n → 0 ≤ f i) → 0 ≤ sm f n
  | 0, _ => Int.le_refl _
  | n + 1, h => by
    have := sm_nn fun i hi => h i (Nat.lt_succ_of_lt hi)
    have := h n (Nat.lt_succ_self n)
    rw [sm]
    omega
theorem sm_swap (f : Nat → Nat → Int) (m : Nat) : ∀ n, sm (fun i => sm (f i) m) n = sm (fun j => sm (fun i => f i j) n) m
  | 0 => by
    show 0 = sm (fun _ => 0) m
    rw [sm_zero]
  | n + 1 => by
    rw [sm, sm_swap f m n, ← sm_add]
    rfl
/-- a taken out -/
theorem sm_out (f : Nat → Int) {a n : Nat} (h : a < n) : sm f n = f a + sm (fun i => if i = a then 0 else f i) n := by
  have e : sm (fun i => if i = a then f a else 0) n = f a := by
    rw [sm_single (a := a) h fun i _ ne => by simp [ne]]
    simp
  rw [← e, ← sm_add]
  refine sm_congr fun i _ => ?_
  by_cases q : i = a <;> simp [q]
theorem sm_le1 {f : Nat → Int} {a n : Nat} (h : a < n) (z : ∀ i, i < n → 0 ≤ f i) : f a ≤ sm f n := by
  rw [sm_out f h]
  have := sm_nn (f := fun i => if i = a then 0 else f i) (n := n) fun i hi => by
    show 0 ≤ if i = a then 0 else f i
    split
    · exact Int.le_refl _
    · exact z i hi
  omega
theorem sm_le2 {f : Nat → Int} {a b n : Nat} (h : a < n) (hb : b < n) (ne : b ≠ a) (z : ∀ i, i < n → 0 ≤ f i) : f a + f b ≤ sm f n := by
  rw [sm_out f h]
  have := sm_le1 (f := fun i => if i = a then 0 else f i) hb fun i hi => by
    show 0 ≤ if i = a then 0 else f i
    split
    · exact Int.le_refl _
    · exact z i hi
  simp only [ne, if_false] at this
  omega
theorem sm_pos {f : Nat → Int} : ∀ {n : Nat}, 0 < sm f n → ∃ i, i < n ∧ 0 < f i
  | 0, h => by simp [sm] at h
  | n + 1, h => by
    by_cases q : 0 < f n
    · exact ⟨n, by omega, q⟩
    · rw [sm] at h
      obtain ⟨i, hi, hf⟩ := sm_pos (f := f) (n := n) (by omega)
      exact ⟨i, by omega, hf⟩
theorem sm_pairs (f : Nat → Int) : ∀ n, sm f (2 * n) = sm (fun v => f (2 * v) + f (2 * v + 1)) n
  | 0 => rfl
  | n + 1 => by
    have e : 2 * (n + 1) = 2 * n + 1 + 1 := by omega
    rw [e, sm, sm, sm, sm_pairs f n]
    omega
/-- g sums to nothing, and only at a is it above nothing -/
theorem sm_one {g : Nat → Int} {a n : Nat} (h : a < n) (z : ∀ i, i < n → i ≠ a → g i ≤ 0) (s : sm g n = 0) : (∀ i, i < n → i ≠ a → - g i ≤ g a) ∧ ∀ i j, i < n → j < n → i ≠ a → j ≠ a → i ≠ j → - g i - g j ≤ g a := by
  have s2 := sm_out g h
  rw [s] at s2
  have s3 := sm_neg (fun i => if i = a then 0 else g i) n
  have nn : ∀ i, i < n → 0 ≤ (fun i => - (if i = a then 0 else g i)) i := fun i hi => by
    show 0 ≤ - (if i = a then 0 else g i)
    split
    · omega
    · have := z i hi (by assumption)
      omega
  refine ⟨fun i hi ne => ?_, fun i j hi hj ni nj nij => ?_⟩
  · have := sm_le1 (f := fun i => - (if i = a then 0 else g i)) hi nn
    simp only [ne, if_false] at this
    omega
  · have := sm_le2 (f := fun i => - (if i = a then 0 else g i)) hi hj (Ne.symm nij) nn
    simp only [ni, nj, if_false] at this
    omega
/-! ### flows -/
/-- r is what is left of the arcs -/
structure Fl (n : Nat) (Es : List (Int × Int)) (A B : List Int) (r : Nat → Nat → Int) : Prop where
  nn : ∀ p q, 0 ≤ r p q
  con : ∀ p q, r p q + r q p = cap n Es A B p q + cap n Es A B q p
  bal : ∀ p, p < 2 * n → sm (r p) (2 * n + 2) = sm (fun q => cap n Es A B p q) (2 * n + 2)
section
variable {n : Nat} {Es : List (Int × Int)} {A B : List Int} {r : Nat → Nat → Int}
theorem cap_unit {v : Nat} (h : v < n) : cap n Es A B (2 * v : Nat) (2 * v + 1 : Nat) = 1 := by
  unfold cap
  rw [if_pos ⟨by omega, by omega, by omega⟩]
theorem cap_in {v q : Nat} (h : v < n) (ne : q ≠ 2 * v + 1) : cap n Es A B (2 * v : Nat) q = 0 := by
  unfold cap
  rw [if_neg (by omega), if_neg]
  rintro (⟨h1, h2, h3, h4, h5⟩ | ⟨h1, h2, h3, h4⟩ | ⟨h1, h2, h3, h4⟩) <;> omega
theorem cap_out {v q : Nat} (h : v < n) (ne : q ≠ 2 * v) : cap n Es A B q (2 * v + 1 : Nat) = 0 := by
  unfold cap
  rw [if_neg (by omega), if_neg]
  rintro (⟨h1, h2, h3, h4, h5⟩ | ⟨h1, h2, h3, h4⟩ | ⟨h1, h2, h3, h4⟩) <;> omega
theorem cap_wide {u v : Nat} (hu : u < n) (hv : v < n) (a : Adj Es u v) : cap n Es A B (2 * u + 1 : Nat) (2 * v : Nat) = n + 1 := by
  have d1 : ((2 * u + 1 : Nat) : Int) / 2 = u := by omega
  have d2 : ((2 * v : Nat) : Int) / 2 = v := by omega
  unfold cap
  rw [if_neg (by omega), if_pos]
  exact .inl ⟨by omega, by omega, by omega, by omega, by rw [d1, d2]; exact a⟩
theorem cap_src {v : Nat} (hv : v < n) (m : (v : Int) ∈ A) : cap n Es A B (2 * n : Nat) (2 * v : Nat) = n + 1 := by
  have d2 : ((2 * v : Nat) : Int) / 2 = v := by omega
  unfold cap
  rw [if_neg (by omega), if_pos]
  exact .inr (.inl ⟨by omega, by omega, by omega, by rw [d2]; exact m⟩)
theorem cap_snk {v : Nat} (hv : v < n) (m : (v : Int) ∈ B) : cap n Es A B (2 * v + 1 : Nat) (2 * n + 1 : Nat) = n + 1 := by
  have d2 : ((2 * v + 1 : Nat) : Int) / 2 = v := by omega
  unfold cap
  rw [if_neg (by omega), if_pos]
  exact .inr (.inr ⟨by omega, by omega, by omega, by rw [d2]; exact m⟩)
theorem cap_tosrc {p : Nat} : cap n Es A B p (2 * n : Nat) = 0 := by
  unfold cap
  rw [if_neg (by omega), if_neg]
  rintro (⟨h1, h2, h3, h4, h5⟩ | ⟨h1, h2, h3, h4⟩ | ⟨h1, h2, h3, h4⟩) <;> omega
theorem cap_fromsnk {p : Nat} : cap n Es A B (2 * n + 1 : Nat) p = 0 := by
  unfold cap
  rw [if_neg (by omega), if_neg]
  rintro (⟨h1, h2, h3, h4, h5⟩ | ⟨h1, h2, h3, h4⟩ | ⟨h1, h2, h3, h4⟩) <;> omega
theorem cap_srcnot {q : Nat} (h : ¬ (∃ v : Nat, v < n ∧ q = 2 * v ∧ (v : Int) ∈ A)) : cap n Es A B (2 * n : Nat) q = 0 := by
  unfold cap
  rw [if_neg (by omega), if_neg]
  rintro (⟨h1, h2, h3, h4, h5⟩ | ⟨h1, h2, h3, h4⟩ | ⟨h1, h2, h3, h4⟩)
  · omega
  · refine h ⟨q / 2, by omega, by omega, ?_⟩
    have e : ((q / 2 : Nat) : Int) = (q : Int) / 2 := by omega
    rw [e]
    exact h4
  · omega
/-- an arc is a node's, or wide -/
theorem cap_kind (p q : Nat) : cap n Es A B p q = 0 ∨ (∃ v : Nat, v < n ∧ p = 2 * v ∧ q = 2 * v + 1) ∨ (cap n Es A B p q = n + 1 ∧ ((∃ u v : Nat, u < n ∧ v < n ∧ p = 2 * u + 1 ∧ q = 2 * v ∧ Adj Es u v) ∨ (∃ v : Nat, v < n ∧ p = 2 * n ∧ q = 2 * v ∧ (v : Int) ∈ A) ∨ ∃ v : Nat, v < n ∧ p = 2 * v + 1 ∧ q = 2 * n + 1 ∧ (v : Int) ∈ B)) := by
  have ep : ((p / 2 : Nat) : Int) = (p : Int) / 2 := by omega
  have eq : ((q / 2 : Nat) : Int) = (q : Int) / 2 := by omega
  by_cases h1 : (0 ≤ (p : Int) ∧ (p : Int) < 2 * n) ∧ (p : Int) % 2 = 0 ∧ (q : Int) = p + 1
  · exact .inr (.inl ⟨p / 2, by omega, by omega, by omega⟩)
  · unfold cap
    rw [if_neg h1]
    split
    · rename_i h
      refine .inr (.inr ⟨rfl, ?_⟩)
      rcases h with ⟨a1, a2, a3, a4, a5⟩ | ⟨a1, a2, a3, a4⟩ | ⟨a1, a2, a3, a4⟩
      · exact .inl ⟨p / 2, q / 2, by omega, by omega, by omega, by omega, by rw [ep, eq]; exact a5⟩
      · exact .inr (.inl ⟨q / 2, by omega, by omega, by omega, by rw [eq]; exact a4⟩)
      · exact .inr (.inr ⟨p / 2, by omega, by omega, by omega, by rw [ep]; exact a4⟩)
    · exact .inl rfl
theorem cap_nn (p q : Nat) : 0 ≤ cap n Es A B p q := by
  rcases cap_kind (n := n) (Es := Es) (A := A) (B := B) p q with h | ⟨v, hv, rfl, rfl⟩ | ⟨h, _⟩
  · omega
  · rw [cap_unit hv]; omega
  · omega
/-- what flows -/
noncomputable def flw (n : Nat) (Es : List (Int × Int)) (A B : List Int) (r : Nat → Nat → Int) (p q : Nat) : Int := cap n Es A B p q - r p q
theorem Fl.anti (F : Fl n Es A B r) (p q : Nat) : flw n Es A B r p q = - flw n Es A B r q p := by
  have := F.con p q
  unfold flw
  omega
theorem Fl.le (F : Fl n Es A B r) (p q : Nat) : flw n Es A B r p q ≤ cap n Es A B p q := by
  have := F.nn p q
  unfold flw
  omega
theorem Fl.zero (F : Fl n Es A B r) {p : Nat} (h : p < 2 * n) : sm (flw n Es A B r p) (2 * n + 2) = 0 := by
  have e : sm (flw n Es A B r p) (2 * n + 2) = sm (fun q => cap n Es A B p q + - r p q) (2 * n + 2) := sm_congr fun i _ => by unfold flw; omega
  rw [e, sm_add, sm_neg, F.bal p h]
  omega
/-- into node v: at most one unit, and as much as runs through it -/
theorem Fl.inn (F : Fl n Es A B r) {v : Nat} (hv : v < n) : (∀ q, q < 2 * n + 2 → q ≠ 2 * v + 1 → flw n Es A B r q (2 * v) ≤ flw n Es A B r (2 * v) (2 * v + 1)) ∧
    ∀ q q', q < 2 * n + 2 → q' < 2 * n + 2 → q ≠ 2 * v + 1 → q' ≠ 2 * v + 1 → q ≠ q' → flw n Es A B r q (2 * v) + flw n Es A B r q' (2 * v) ≤ flw n Es A B r (2 * v) (2 * v + 1) := by
  have := sm_one (g := flw n Es A B r (2 * v)) (a := 2 * v + 1) (n := 2 * n + 2) (by omega) (fun i hi ne => by
    have := F.le (2 * v) i
    rw [cap_in hv ne] at this
    exact this) (F.zero (by omega))
  refine ⟨fun q hq ne => ?_, fun q q' hq hq' ne ne' nq => ?_⟩
  · have h := this.1 q hq ne
    rw [F.anti q]
    exact h
  · have h := this.2 q q' hq hq' ne ne' nq
    rw [F.anti q, F.anti q']
    omega
theorem Fl.thr (F : Fl n Es A B r) {v : Nat} (hv : v < n) : flw n Es A B r (2 * v) (2 * v + 1) ≤ 1 := by
  have := F.le (2 * v) (2 * v + 1)
  rw [cap_unit hv] at this
  exact this
/-- out of node v -/
theorem Fl.out (F : Fl n Es A B r) {v : Nat} (hv : v < n) {q : Nat} (hq : q < 2 * n + 2) (ne : q ≠ 2 * v) : flw n Es A B r (2 * v + 1) q ≤ 1 := by
  have := (sm_one (g := fun q => flw n Es A B r q (2 * v + 1)) (a := 2 * v) (n := 2 * n + 2) (by omega) (fun i hi ne => by
    have := F.le i (2 * v + 1)
    rw [cap_out hv ne] at this
    exact this) (by
      have e : sm (fun q => flw n Es A B r q (2 * v + 1)) (2 * n + 2) = sm (fun q => - flw n Es A B r (2 * v + 1) q) (2 * n + 2) := sm_congr fun i _ => F.anti _ _
      rw [e, sm_neg, F.zero (by omega)]
      rfl)).1 q hq ne
  have h2 := F.thr hv
  rw [F.anti (2 * v + 1) q]
  omega
/-- what comes in goes out -/
theorem Fl.on (F : Fl n Es A B r) {v : Nat} (hv : v < n) (h : 0 < flw n Es A B r (2 * v) (2 * v + 1)) : ∃ q, q < 2 * n + 2 ∧ q ≠ 2 * v ∧ 0 < flw n Es A B r (2 * v + 1) q := by
  have z := F.zero (p := 2 * v + 1) (by omega)
  rw [sm_out _ (a := 2 * v) (by omega)] at z
  have a := F.anti (2 * v + 1) (2 * v)
  obtain ⟨q, hq, hp⟩ := sm_pos (f := fun i => if i = 2 * v then 0 else flw n Es A B r (2 * v + 1) i) (n := 2 * n + 2) (by omega)
  by_cases e : q = 2 * v
  · simp [e] at hp
  · simp only [e, if_false] at hp
    exact ⟨q, hq, e, hp⟩
/-- a wide arc is never full -/
theorem Fl.free (F : Fl n Es A B r) {p q : Nat} (h : cap n Es A B p q = n + 1) (n0 : 0 < n) (k : (∃ u v : Nat, u < n ∧ v < n ∧ p = 2 * u + 1 ∧ q = 2 * v ∧ Adj Es u v) ∨ (∃ v : Nat, v < n ∧ p = 2 * n ∧ q = 2 * v ∧ (v : Int) ∈ A) ∨ ∃ v : Nat, v < n ∧ p = 2 * v + 1 ∧ q = 2 * n + 1 ∧ (v : Int) ∈ B) (sl : ∀ u, ¬ Adj Es u u) : 0 < r p q := by
  have key : flw n Es A B r p q ≤ 1 := by
    rcases k with ⟨u, v, hu, hv, rfl, rfl, a⟩ | ⟨v, hv, rfl, rfl, m⟩ | ⟨v, hv, rfl, rfl, m⟩
    · refine F.out hu (by omega) fun e => sl u ?_
      have : v = u := by omega
      subst this
      exact a
    · have := (F.inn hv).1 (2 * n) (by omega) (by omega)
      have := F.thr hv
      omega
    · exact F.out hv (by omega) (by omega)
  unfold flw at key
  omega
/-- what leaves the source is what the near cut holds -/
theorem Fl.cut (F : Fl n Es A B r) (sl : ∀ u, ¬ Adj Es u u) (Z : Nat → Prop) [DecidablePred Z] (zs : Z (2 * n)) (zt : ¬ Z (2 * n + 1)) (zc : ∀ p q, p < 2 * n + 2 → q < 2 * n + 2 → Z p → 0 < r p q → Z q) :
    sm (flw n Es A B r (2 * n)) (2 * n + 2) = sm (fun v => if Z (2 * v) ∧ ¬ Z (2 * v + 1) then 1 else 0) n := by
  have e1 : sm (flw n Es A B r (2 * n)) (2 * n + 2) = sm (fun p => sm (fun q => if Z p then flw n Es A B r p q else 0) (2 * n + 2)) (2 * n + 2) := by
    refine Eq.symm (Eq.trans (sm_single (a := 2 * n) (by omega) fun p hp ne => ?_) ?_)
    · by_cases z : Z p
      · rw [sm_congr fun q _ => if_pos z]
        have : p ≠ 2 * n + 1 := fun e => zt (e ▸ z)
        exact F.zero (by omega)
      · rw [sm_congr (g := fun _ => 0) fun q _ => if_neg z]
        exact sm_zero _
    · exact sm_congr fun q _ => if_pos zs
  have e2 : sm (fun p => sm (fun q => if Z p then flw n Es A B r p q else 0) (2 * n + 2)) (2 * n + 2) =
      sm (fun p => sm (fun q => if Z p ∧ Z q then flw n Es A B r p q else 0) (2 * n + 2)) (2 * n + 2) + sm (fun p => sm (fun q => if Z p ∧ ¬ Z q then flw n Es A B r p q else 0) (2 * n + 2)) (2 * n + 2) := by
    rw [← sm_add]
    refine sm_congr fun p _ => ?_
    rw [← sm_add]
    refine sm_congr fun q _ => ?_
    by_cases a : Z p <;> by_cases b : Z q <;> simp [a, b]
  have e3 : sm (fun p => sm (fun q => if Z p ∧ Z q then flw n Es A B r p q else 0) (2 * n + 2)) (2 * n + 2) = 0 := by
    have h := sm_swap (fun p q => if Z p ∧ Z q then flw n Es A B r p q else 0) (2 * n + 2) (2 * n + 2)
    have h2 : sm (fun j => sm (fun i => if Z i ∧ Z j then flw n Es A B r i j else 0) (2 * n + 2)) (2 * n + 2) = - sm (fun p => sm (fun q => if Z p ∧ Z q then flw n Es A B r p q else 0) (2 * n + 2)) (2 * n + 2) := by
      rw [← sm_neg]
      refine sm_congr fun j _ => ?_
      rw [← sm_neg]
      refine sm_congr fun i _ => ?_
      have := F.anti i j
      by_cases a : Z i <;> by_cases b : Z j <;> simp [a, b]
      exact this
    rw [h2] at h
    omega
  have e4 : sm (fun p => sm (fun q => if Z p ∧ ¬ Z q then flw n Es A B r p q else 0) (2 * n + 2)) (2 * n + 2) = sm (fun p => if (p < 2 * n ∧ p % 2 = 0) ∧ Z p ∧ ¬ Z (p + 1) then 1 else 0) (2 * n + 2) := by
    refine sm_congr fun p hp => ?_
    have val : ∀ q, q < 2 * n + 2 → (if Z p ∧ ¬ Z q then flw n Es A B r p q else 0) = if q = p + 1 ∧ (p < 2 * n ∧ p % 2 = 0) ∧ Z p ∧ ¬ Z (p + 1) then 1 else 0 := by
      intro q hq
      by_cases h : Z p ∧ ¬ Z q
      · rw [if_pos h]
        have r0 : r p q = 0 := by
          have := F.nn p q
          have : ¬ 0 < r p q := fun z => h.2 (zc p q hp hq h.1 z)
          omega
        unfold flw
        rw [r0]
        rcases cap_kind (n := n) (Es := Es) (A := A) (B := B) p q with c | ⟨v, hv, rfl, rfl⟩ | ⟨c, k⟩
        · rw [c, if_neg]
          · rfl
          · rintro ⟨rfl, ⟨h1, h2⟩, h3⟩
            have := cap_unit (Es := Es) (A := A) (B := B) (v := p / 2) (n := n) (by omega)
            have f1 : 2 * (p / 2) = p := by omega
            rw [f1, c] at this
            omega
        · rw [cap_unit hv, if_pos ⟨rfl, ⟨by omega, by omega⟩, h.1, h.2⟩]
          rfl
        · have n0 : 0 < n := by rcases k with ⟨u, v, hu, _⟩ | ⟨v, hv, _⟩ | ⟨v, hv, _⟩ <;> omega
          have := F.free c n0 k sl
          omega
      · rw [if_neg h, if_neg]
        rintro ⟨rfl, _, h3⟩
        exact h h3
    rw [sm_congr val]
    by_cases h : (p < 2 * n ∧ p % 2 = 0) ∧ Z p ∧ ¬ Z (p + 1)
    · rw [if_pos h, sm_single (a := p + 1) (by omega) fun i _ ne => by simp [ne]]
      simp only [h, and_self, if_true]
      simp
    · rw [if_neg h]
      rw [sm_congr (g := fun _ => 0) fun i _ => if_neg fun z => h z.2, sm_zero]
  rw [e1, e2, e3, e4]
  have e5 : 2 * n + 2 = 2 * (n + 1) := by omega
  rw [e5, sm_pairs, sm]
  have t1 : (if (2 * n < 2 * n ∧ 2 * n % 2 = 0) ∧ Z (2 * n) ∧ ¬ Z (2 * n + 1) then (1 : Int) else 0) = 0 := if_neg (by omega)
  have t2 : (if (2 * n + 1 < 2 * n ∧ (2 * n + 1) % 2 = 0) ∧ Z (2 * n + 1) ∧ ¬ Z (2 * n + 1 + 1) then (1 : Int) else 0) = 0 := if_neg (by omega)
  rw [t1, t2]
  have t3 : sm (fun v => (if (2 * v < 2 * n ∧ 2 * v % 2 = 0) ∧ Z (2 * v) ∧ ¬ Z (2 * v + 1) then (1 : Int) else 0) + if (2 * v + 1 < 2 * n ∧ (2 * v + 1) % 2 = 0) ∧ Z (2 * v + 1) ∧ ¬ Z (2 * v + 1 + 1) then (1 : Int) else 0) n = sm (fun v => if Z (2 * v) ∧ ¬ Z (2 * v + 1) then 1 else 0) n := by
    refine sm_congr fun v hv => ?_
    rw [if_neg (c := (2 * v + 1 < 2 * n ∧ (2 * v + 1) % 2 = 0) ∧ Z (2 * v + 1) ∧ ¬ Z (2 * v + 1 + 1)) (by omega)]
    by_cases h : Z (2 * v) ∧ ¬ Z (2 * v + 1)
    · rw [if_pos h, if_pos ⟨⟨by omega, by omega⟩, h⟩]
      rfl
    · rw [if_neg h, if_neg fun z => h z.2]
      rfl
  rw [t3]
  omega
/-- the source's own: what is given back to it -/
theorem Fl.srcv (F : Fl n Es A B r) : sm (flw n Es A B r (2 * n)) (2 * n + 2) = sm (fun v => r (2 * v) (2 * n)) n ∧ ∀ v, v < n → (r (2 * v) (2 * n) ≤ 1 ∧ (0 < r (2 * v) (2 * n) → (v : Int) ∈ A)) := by
  have bk : ∀ q, flw n Es A B r (2 * n) q = r q (2 * n) := fun q => by
    have := F.con (2 * n) q
    rw [cap_tosrc] at this
    unfold flw
    omega
  have zo : ∀ q, ¬ (∃ v : Nat, v < n ∧ q = 2 * v ∧ (v : Int) ∈ A) → r q (2 * n) = 0 := fun q h => by
    have := F.con (2 * n) q
    rw [cap_tosrc, cap_srcnot h] at this
    have := F.nn (2 * n) q
    have := F.nn q (2 * n)
    omega
  refine ⟨?_, fun v hv => ⟨?_, fun h => ?_⟩⟩
  · rw [sm_congr fun q _ => bk q]
    have e5 : 2 * n + 2 = 2 * (n + 1) := by omega
    rw [e5, sm_pairs, sm, zo (2 * n) (by rintro ⟨v, h1, h2, _⟩; omega), zo (2 * n + 1) (by rintro ⟨v, h1, h2, _⟩; omega)]
    have : sm (fun v => r (2 * v) (2 * n) + r (2 * v + 1) (2 * n)) n = sm (fun v => r (2 * v) (2 * n)) n := sm_congr fun v _ => by
      rw [zo (2 * v + 1) (by rintro ⟨v, h1, h2, _⟩; omega)]
      omega
    rw [this]
    omega
  · rw [← bk]
    have := (F.inn hv).1 (2 * n) (by omega) (by omega)
    have := F.thr hv
    omega
  · refine Classical.byContradiction fun z => ?_
    have := zo (2 * v) (by
      rintro ⟨u, h1, h2, h3⟩
      have e : u = v := by omega
      subst e
      exact z h3)
    omega
end
end G3

set_option maxHeartbeats 2000000
namespace G3
/-! ### rings, by the places of their nodes -/
/-- the pair of place k of a ring of L from a -/
def rgA (a L : Int) (k : Nat) : Int × Int := if k = 0 then (a, a + L - 1) else (a + k - 1, a + k)
def rgP (a L : Int) : List (Int × Int) := (List.range L.toNat).map (rgA a L)
def rgs : Int → List Int → List (Int × Int)
  | _, [] => []
  | a, L :: ls => rgP a L ++ rgs (a + L) ls
/-- each ring's length -/
def RgL (ls : List Int) : Prop := ∀ L ∈ ls, L = 3 ∨ L = 5
/-- a place of each ring -/
def Picks : Int → List Int → List Int → Prop
  | _, [], [] => True
  | a, L :: ls, i :: is => (a ≤ i ∧ i < a + L) ∧ Picks (a + L) ls is
  | _, _, _ => False
theorem rgs_app : ∀ (xs : List Int) (a : Int) (ys : List Int), rgs a (xs ++ ys) = rgs a xs ++ rgs (a + xs.sum) ys
  | [], a, ys => by simp [rgs]
  | L :: xs, a, ys => by
    rw [List.cons_append, rgs, rgs, rgs_app xs, List.append_assoc, List.sum_cons, Int.add_assoc]
theorem rgs_snoc (xs : List Int) (a L : Int) : rgs a (xs ++ [L]) = rgs a xs ++ rgP (a + xs.sum) L := by
  rw [rgs_app, rgs, rgs, List.append_nil]
theorem Picks.snoc : ∀ {ls is : List Int} {a L i : Int}, Picks a ls is → a + ls.sum ≤ i → i < a + ls.sum + L → Picks a (ls ++ [L]) (is ++ [i])
  | [], [], a, L, i, _, h1, h2 => by
    simp at h1 h2
    exact ⟨⟨h1, h2⟩, trivial⟩
  | L0 :: ls, i0 :: is, a, L, i, h, h1, h2 => by
    rw [List.sum_cons] at h1 h2
    exact ⟨h.1, Picks.snoc h.2 (by omega) (by omega)⟩
  | [], _ :: _, _, _, _, h, _, _ => h.elim
  | _ :: _, [], _, _, _, h, _, _ => h.elim
theorem RgL.sum : ∀ {ls : List Int}, RgL ls → 0 ≤ ls.sum ∧ ls.sum ≤ 5 * ls.length
  | [], _ => by simp
  | L :: ls, h => by
    have a := RgL.sum (ls := ls) fun x hx => h x (List.mem_cons_of_mem _ hx)
    have b := h L List.mem_cons_self
    rw [List.sum_cons, List.length_cons]
    omega
theorem RgL.tl {L : Int} {ls : List Int} (h : RgL (L :: ls)) : RgL ls := fun x hx => h x (List.mem_cons_of_mem _ hx)
theorem RgL.hd {L : Int} {ls : List Int} (h : RgL (L :: ls)) : L = 3 ∨ L = 5 := h L List.mem_cons_self
theorem rgA_at {a L : Int} {k : Nat} (hL : L = 3 ∨ L = 5) (hk : (k : Int) < L) : a ≤ (rgA a L k).1 ∧ (rgA a L k).1 < (rgA a L k).2 ∧ (rgA a L k).2 < a + L := by
  unfold rgA
  split <;> simp <;> omega
theorem rgP_at {a L : Int} (hL : L = 3 ∨ L = 5) {p : Int × Int} (h : p ∈ rgP a L) : a ≤ p.1 ∧ p.1 < p.2 ∧ p.2 < a + L := by
  obtain ⟨k, hk, rfl⟩ := List.mem_map.mp h
  have := List.mem_range.mp hk
  exact rgA_at hL (by omega)
theorem rgs_at : ∀ {ls : List Int} {a : Int}, RgL ls → ∀ {p : Int × Int}, p ∈ rgs a ls → a ≤ p.1 ∧ p.1 < p.2 ∧ p.2 < a + ls.sum
  | [], _, _, p, h => by simp [rgs] at h
  | L :: ls, a, r, p, h => by
    rw [rgs] at h
    have s := RgL.sum r.tl
    have hL := r.hd
    rw [List.sum_cons]
    rcases List.mem_append.mp h with h | h
    · have := rgP_at hL h
      omega
    · have := rgs_at r.tl h
      omega
theorem rgP_nd {a L : Int} (hL : L = 3 ∨ L = 5) : (rgP a L).Nodup := by
  refine List.pairwise_map.mpr (List.Pairwise.imp_of_mem (fun {k k'} hk hk' ne e => ?_) (List.nodup_range (n := L.toNat)))
  have h1 := List.mem_range.mp hk
  have h2 := List.mem_range.mp hk'
  have e1 := congrArg Prod.fst e
  have e2 := congrArg Prod.snd e
  unfold rgA at e1 e2
  by_cases z : k = 0
  · by_cases z' : k' = 0
    · exact ne (z.trans z'.symm)
    · rw [if_pos z, if_neg z'] at e1 e2
      simp only at e1 e2
      omega
  · by_cases z' : k' = 0
    · rw [if_neg z, if_pos z'] at e1 e2
      simp only at e1 e2
      omega
    · rw [if_neg z, if_neg z'] at e1 e2
      simp only at e1 e2
      omega
theorem rgs_nd : ∀ {ls : List Int} {a : Int}, RgL ls → (rgs a ls).Nodup
  | [], _, _ => by simp [rgs]
  | L :: ls, a, r => by
    rw [rgs, List.nodup_append]
    refine ⟨rgP_nd r.hd, rgs_nd r.tl, fun x hx y hy e => ?_⟩
    have h1 := rgP_at r.hd hx
    have h2 := rgs_at r.tl hy
    subst e
    omega
theorem rgP_len {a L : Int} (h : 0 ≤ L) : ((rgP a L).length : Int) = L := by
  unfold rgP
  rw [List.length_map, List.length_range]
  omega
theorem rgs_len : ∀ {ls : List Int} {a : Int}, RgL ls → ((rgs a ls).length : Int) = ls.sum
  | [], _, _ => by simp [rgs]
  | L :: ls, a, r => by
    have := rgs_len (ls := ls) (a := a + L) r.tl
    have b := rgP_len (a := a) (L := L) (by have := r.hd; omega)
    rw [rgs, List.length_append, List.sum_cons]
    omega
theorem rgP_mem {a L : Int} {k : Nat} (h : (k : Int) < L) : rgA a L k ∈ rgP a L := List.mem_map.mpr ⟨k, List.mem_range.mpr (by omega), rfl⟩
/-- an odd ring wants a node -/
theorem ring_hit {c : Int → Bool} {T : Int → Prop} {a L : Int} (hL : L = 3 ∨ L = 5) (h : ∀ p ∈ rgP a L, ¬ T p.1 → ¬ T p.2 → c p.1 ≠ c p.2) : ∃ i, a ≤ i ∧ i < a + L ∧ T i := by
  refine Classical.byContradiction fun z => ?_
  have nt : ∀ i, a ≤ i → i < a + L → ¬ T i := fun i h1 h2 h3 => z ⟨i, h1, h2, h3⟩
  have g : ∀ k : Nat, (k : Int) < L → c (rgA a L k).1 ≠ c (rgA a L k).2 := fun k hk => by
    have r := rgA_at (a := a) hL hk
    exact h _ (rgP_mem hk) (nt _ (by omega) (by omega)) (nt _ (by omega) (by omega))
  rcases hL with rfl | rfl
  · have g0 := g 0 (by omega)
    have g1 := g 1 (by omega)
    have g2 := g 2 (by omega)
    have e0 : rgA a 3 0 = (a, a + 2) := by simp [rgA]; omega
    have e1 : rgA a 3 1 = (a, a + 1) := by simp [rgA]
    have e2 : rgA a 3 2 = (a + 1, a + 2) := by simp [rgA]; omega
    rw [e0] at g0
    rw [e1] at g1
    rw [e2] at g2
    simp only at g0 g1 g2
    cases h0 : c a <;> cases h1 : c (a + 1) <;> cases h2 : c (a + 2) <;> simp [h0, h1, h2] at g0 g1 g2
  · have g0 := g 0 (by omega)
    have g1 := g 1 (by omega)
    have g2 := g 2 (by omega)
    have g3 := g 3 (by omega)
    have g4 := g 4 (by omega)
    have e0 : rgA a 5 0 = (a, a + 4) := by simp [rgA]; omega
    have e1 : rgA a 5 1 = (a, a + 1) := by simp [rgA]
    have e2 : rgA a 5 2 = (a + 1, a + 2) := by simp [rgA]; omega
    have e3 : rgA a 5 3 = (a + 2, a + 3) := by simp [rgA]; omega
    have e4 : rgA a 5 4 = (a + 3, a + 4) := by simp [rgA]; omega
    rw [e0] at g0
    rw [e1] at g1
    rw [e2] at g2
    rw [e3] at g3
    rw [e4] at g4
    simp only at g0 g1 g2 g3 g4
    cases h0 : c a <;> cases h1 : c (a + 1) <;> cases h2 : c (a + 2) <;> cases h3 : c (a + 3) <;> cases h4 : c (a + 4) <;> simp [h0, h1, h2, h3, h4] at g0 g1 g2 g3 g4
theorem rings_hit {c : Int → Bool} {T : Int → Prop} : ∀ {ls : List Int} {a : Int}, RgL ls → (∀ p ∈ rgs a ls, ¬ T p.1 → ¬ T p.2 → c p.1 ≠ c p.2) → ∃ U : List Int, U.Pairwise (· < ·) ∧ (∀ u ∈ U, a ≤ u ∧ u < a + ls.sum ∧ T u) ∧ U.length = ls.length
  | [], _, _, _ => ⟨[], .nil, by simp, rfl⟩
  | L :: ls, a, r, h => by
    rw [rgs] at h
    obtain ⟨i, i1, i2, i3⟩ := ring_hit (c := c) (T := T) (a := a) r.hd fun p hp => h p (List.mem_append_left _ hp)
    obtain ⟨U, u1, u2, u3⟩ := rings_hit (c := c) (T := T) (ls := ls) (a := a + L) r.tl fun p hp => h p (List.mem_append_right _ hp)
    have s := RgL.sum r.tl
    have hL := r.hd
    refine ⟨i :: U, List.pairwise_cons.mpr ⟨fun u hu => ?_, u1⟩, fun u hu => ?_, by simp [u3]⟩
    · have := u2 u hu
      omega
    · rw [List.sum_cons]
      rcases List.mem_cons.mp hu with rfl | hu
      · exact ⟨i1, by omega, i3⟩
      · have := u2 u hu
        exact ⟨by omega, by omega, this.2.2⟩
/-- colours of a ring without its place j -/
def rgC (j i : Int) : Bool := if j < i then decide (i % 2 = 0) else !decide (i % 2 = 0)
theorem rgC_ok {a L j : Int} (hL : L = 3 ∨ L = 5) (h1 : a ≤ j) (h2 : j < a + L) {p : Int × Int} (h : p ∈ rgP a L) (n1 : p.1 ≠ j) (n2 : p.2 ≠ j) : rgC j p.1 ≠ rgC j p.2 := by
  obtain ⟨k, hk, rfl⟩ := List.mem_map.mp h
  have hk := List.mem_range.mp hk
  unfold rgA at n1 n2 ⊢
  unfold rgC
  by_cases k0 : k = 0
  · rw [if_pos k0] at n1 n2 ⊢
    simp only at n1 n2 ⊢
    rw [if_neg (by omega), if_pos (by omega)]
    by_cases z : a % 2 = 0
    · have : (a + L - 1) % 2 = 0 := by omega
      simp [z, this]
    · have : ¬ (a + L - 1) % 2 = 0 := by omega
      simp [z, this]
  · rw [if_neg k0] at n1 n2 ⊢
    simp only at n1 n2 ⊢
    by_cases z : (a + k) % 2 = 0
    · have y : ¬ (a + k - 1) % 2 = 0 := by omega
      by_cases g : j < a + k
      · have : j < a + k - 1 := by omega
        simp [z, y, g, this]
      · have : ¬ j < a + k - 1 := by omega
        simp [z, y, g, this]
    · have y : (a + k - 1) % 2 = 0 := by omega
      by_cases g : j < a + k
      · have : j < a + k - 1 := by omega
        simp [z, y, g, this]
      · have : ¬ j < a + k - 1 := by omega
        simp [z, y, g, this]
theorem Picks.at : ∀ {ls is : List Int} {a : Int}, RgL ls → Picks a ls is → is.Pairwise (· < ·) ∧ (∀ i ∈ is, a ≤ i ∧ i < a + ls.sum) ∧ is.length = ls.length
  | [], [], _, _, _ => ⟨.nil, by simp, rfl⟩
  | L :: ls, i :: is, a, r, h => by
    obtain ⟨h1, h2, h3⟩ := Picks.at r.tl h.2
    have s := RgL.sum r.tl
    have hL := r.hd
    have hi := h.1
    refine ⟨List.pairwise_cons.mpr ⟨fun x hx => by have := h2 x hx; omega, h1⟩, fun x hx => ?_, by simp [h3]⟩
    rw [List.sum_cons]
    rcases List.mem_cons.mp hx with rfl | hx
    · omega
    · have := h2 x hx
      omega
  | [], _ :: _, _, _, h => h.elim
  | _ :: _, [], _, _, h => h.elim
theorem rings_two : ∀ {ls is : List Int} {a : Int}, RgL ls → Picks a ls is → ∃ c : Int → Bool, ∀ p ∈ rgs a ls, p.1 ∉ is → p.2 ∉ is → c p.1 ≠ c p.2
  | [], [], _, _, _ => ⟨fun _ => true, by simp [rgs]⟩
  | L :: ls, i :: is, a, r, h => by
    obtain ⟨c, hc⟩ := rings_two r.tl h.2
    refine ⟨fun x => if x < a + L then rgC i x else c x, fun p hp n1 n2 => ?_⟩
    rw [rgs] at hp
    rcases List.mem_append.mp hp with hp | hp
    · have q := rgP_at r.hd hp
      have e1 : p.1 < a + L := by omega
      have e2 : p.2 < a + L := by omega
      simp only [e1, e2, if_true]
      exact rgC_ok r.hd h.1.1 h.1.2 hp (fun z => n1 (by rw [z]; simp)) (fun z => n2 (by rw [z]; simp))
    · have q := rgs_at r.tl hp
      have e1 : ¬ p.1 < a + L := by omega
      have e2 : ¬ p.2 < a + L := by omega
      simp only [e1, e2, if_false]
      exact hc p hp (fun z => n1 (List.mem_cons_of_mem _ z)) fun z => n2 (List.mem_cons_of_mem _ z)
  | [], _ :: _, _, _, h => h.elim
  | _ :: _, [], _, _, h => h.elim
theorem nd_le_of : ∀ {U T : List Int}, U.Nodup → (∀ x ∈ U, x ∈ T) → U.length ≤ T.length
  | [], _, _, _ => Nat.zero_le _
  | x :: U, T, n, s => by
    obtain ⟨n1, n2⟩ := List.nodup_cons.mp n
    have m := s x List.mem_cons_self
    have := nd_le_of (U := U) (T := T.erase x) n2 fun y hy => (List.mem_erase_of_ne (fun z : y = x => n1 (by rw [← z]; exact hy))).mpr (s y (List.mem_cons_of_mem _ hy))
    rw [List.length_erase_of_mem m] at this
    have : 0 < T.length := List.length_pos_of_mem m
    rw [List.length_cons]
    omega
end G3

set_option maxHeartbeats 2000000
namespace G3
open PySem PySem.Spec PyProof.Rows L2
local macro_rules | `(tactic| walk_at "hp") => `(tactic| first
  | with_reducible assumption
  | with_reducible exact upd_same
  | ((with_reducible refine' hp_ne ?hh ?nn); (case nn => first | with_reducible assumption | (with_reducible apply Ne.symm; with_reducible assumption)); (case hh => walk_at "hp"))
  | ((with_reducible refine' hp_new ?hh ?nn); (case nn => with_reducible assumption); (case hh => walk_at "hp"))
  | ((with_reducible refine' Same.get ?ss ?hh); (case ss => with_reducible assumption); (case hh => walk_at "hp")))
local macro_rules | `(tactic| walk_at "sm") => `(tactic| first
  | with_reducible assumption
  | with_reducible exact Same.refl _
  | ((with_reducible refine' Same.new ?ss ?nn); (case nn => with_reducible assumption); (case ss => walk_at "sm"))
  | ((with_reducible refine' Same.mut ?ss ?nn); (case nn => with_reducible assumption); (case ss => walk_at "sm"))
  | ((with_reducible refine' Same.trans ?s1 ?ss); (case ss => with_reducible assumption); (case s1 => walk_at "sm")))
local macro_rules | `(tactic| walk_at "go1") => `(tactic| first
  | with_reducible refine g_seq ?_
  | with_reducible refine g_asg ?_
  | with_reducible refine g_name ?_
  | ((with_reducible refine' g_var ?hv ?_); (case hv => exact rfl))
  | with_reducible refine g_c ?_
  | with_reducible refine g_op ?_
  | with_reducible refine g_rI0 ?_
  | with_reducible refine g_eqI ?_
  | with_reducible refine g_neI ?_
  | with_reducible refine g_test ?_
  | with_reducible refine g_tB ?_
  | with_reducible refine g_bl ?_
  | with_reducible refine g_iteT ?_
  | with_reducible refine g_iteF ?_
  | with_reducible refine g_iteNT ?_
  | with_reducible refine g_iteNF ?_
  | with_reducible refine g_ifS ?_
  | with_reducible refine g_not ?_
  | with_reducible refine g_and ?_
  | with_reducible refine g_or ?_
  | with_reducible refine g_ret ?_
  | with_reducible refine g_drop ?_
  | with_reducible refine g_nil ?_
  | with_reducible refine g_cons ?_
  | with_reducible refine g_callB ?_
  | with_reducible refine g_call ?_
  | with_reducible refine g_next ?_
  | with_reducible refine g_brk ?_
  | with_reducible refine g_cnt ?_
  | with_reducible refine g_for ?_
  | with_reducible refine g_iList ?_
  | with_reducible refine g_iRng1 ?_
  | with_reducible refine g_iRng2 ?_
  | with_reducible refine g_iEnum ?_
  | with_reducible refine g_iZip ?_
  | with_reducible refine g_lc ?_
  | with_reducible refine g_fld ?_
  | ((with_reducible refine' g_fnodes ?ww ?hh ?_); (case ww => assumption); (case hh => walk_at "hp"))
  | ((with_reducible refine' g_flinks ?ww ?hh ?_); (case ww => assumption); (case hh => walk_at "hp"))
  | ((with_reducible refine' g_fedges ?ww ?hh ?_); (case ww => assumption); (case hh => walk_at "hp"))
  | with_reducible refine g_sfld ?_
  | ((with_reducible refine' g_wipe ?hv ?_); (case hv => exact rfl))
  | with_reducible refine g_yes ?_
  | with_reducible refine g_din ?_
  | with_reducible refine g_dnin ?_
  | with_reducible refine g_dget ?_
  | with_reducible refine g_dput ?_
  | with_reducible refine g_dget2 ?_
  | with_reducible refine g_dnew ?_
  | ((with_reducible refine' g_rdin ?hh ?_); (case hh => walk_at "hp"))
  | ((with_reducible refine' g_rdnin ?hh ?_); (case hh => walk_at "hp"))
  | ((with_reducible refine' g_rdg2 ?hh ?_); (case hh => walk_at "hp"))
  | ((with_reducible refine' g_rdg3 ?hh ?_); (case hh => walk_at "hp"))
  | with_reducible refine g_dnewT ?_
  | ((with_reducible refine' g_minT ?hh ?_); (case hh => walk_at "hp"))
  | ((with_reducible refine' g_maxT ?hh ?_); (case hh => walk_at "hp"))
  | ((with_reducible refine' g_count ?hh ?_); (case hh => walk_at "hp"))
  | ((with_reducible refine' g_mulc ?hv ?_); (case hv => decide))
  | ((with_reducible refine' g_modc ?hv ?_); (case hv => decide))
  | ((with_reducible refine' g_divc ?hv ?_); (case hv => decide))
  | with_reducible refine g_dsetd ?_
  | ((with_reducible refine' g_rds1 ?hh ?_); (case hh => walk_at "hp"))
  | with_reducible refine g_daug ?_
  | with_reducible refine g_rAdd ?_
  | with_reducible refine g_rSub ?_
  | ((with_reducible refine' g_disp ?hv ?hw ?_); (case hv => exact rfl); (case hw => exact rfl))
  | ((with_reducible refine' g_listD ?hh ?_); (case hh => walk_at "hp"))
  | with_reducible refine g_sub ?_
  | with_reducible refine g_isNo ?_
  | with_reducible refine g_notNo ?_
  | with_reducible refine g_chain ?_
  | with_reducible refine g_un ?_
  | with_reducible refine g_rU ?_
  | with_reducible refine g_andV ?_
  | with_reducible refine g_orV ?_
  | with_reducible refine g_notV ?_
  | with_reducible refine g_ifE ?_
  | with_reducible refine g_isNi ?_
  | with_reducible refine g_isNr ?_
  | with_reducible refine g_isNn ?_
  | with_reducible refine g_notNi ?_
  | with_reducible refine g_notNr ?_
  | with_reducible refine g_notNn ?_
  | with_reducible refine g_isBl ?_
  | with_reducible refine g_notBl ?_
  | with_reducible refine g_eqS ?_
  | with_reducible refine g_neS ?_
  | with_reducible refine g_lst ?_
  | with_reducible refine g_tup ?_
  | with_reducible refine g_bm ?_
  | with_reducible refine g_par ?_
  | with_reducible refine g_two ?_
  | ((with_reducible refine' g_aug ?hv ?_); (case hv => exact rfl))
  | with_reducible refine g_al2 ?_
  | with_reducible refine g_al1 ?_
  | with_reducible refine g_al0 ?_
  | with_reducible refine g_al3 ?_
  | with_reducible refine g_al4 ?_
  | with_reducible refine g_ipI ?_
  | with_reducible refine g_sl ?_
  | with_reducible refine g_part ?_
  | with_reducible refine g_nopart ?_
  | with_reducible refine g_int1 ?_
  | with_reducible refine g_rev ?_
  | with_reducible refine g_meth ?_
  | with_reducible refine g_min2 ?_
  | with_reducible refine g_max2 ?_
  | ((with_reducible refine' g_t0 ?hh ?_); (case hh => walk_at "hp"))
  | ((with_reducible refine' g_t1 ?hh ?_); (case hh => walk_at "hp"))
  | ((with_reducible refine' g_tyl ?hh ?_); (case hh => walk_at "hp"))
  | ((with_reducible refine' g_slice ?hh ?_); (case hh => walk_at "hp"))
  | ((with_reducible refine' g_listof ?hh ?_); (case hh => walk_at "hp"))
  | ((with_reducible refine' g_sorted ?hh ?_); (case hh => walk_at "hp"))
  | ((with_reducible refine' g_leP ?hh ?hg ?_); (case hh => walk_at "hp"); (case hg => walk_at "hp"))
  | with_reducible refine g_isi_i_int ?_
  | with_reducible refine g_isi_i_bool ?_
  | with_reducible refine g_isi_i_list ?_
  | with_reducible refine g_isi_i_tuple ?_
  | with_reducible refine g_isi_i_str ?_
  | with_reducible refine g_isi_s_str ?_
  | with_reducible refine g_isi_s_int ?_
  | with_reducible refine g_isi_s_bool ?_
  | with_reducible refine g_isi_s_list ?_
  | with_reducible refine g_isi_s_tuple ?_
  | ((with_reducible refine' g_isi_l_list ?hh ?_); (case hh => walk_at "hp"))
  | ((with_reducible refine' g_isi_l_tuple ?hh ?_); (case hh => walk_at "hp"))
  | ((with_reducible refine' g_isi_l_int ?hh ?_); (case hh => walk_at "hp"))
  | ((with_reducible refine' g_isi_t_tuple ?hh ?_); (case hh => walk_at "hp"))
  | ((with_reducible refine' g_isi_t_list ?hh ?_); (case hh => walk_at "hp"))
  | ((with_reducible refine' g_lenM ?hh ?_); (case hh => walk_at "hp"))
  | ((with_reducible refine' g_len ?hh ?_); (case hh => walk_at "hp"))
  | ((with_reducible refine' g_lenT ?hh ?_); (case hh => walk_at "hp"))
  | ((with_reducible refine' g_in ?hh ?_); (case hh => walk_at "hp"))
  | ((with_reducible refine' g_nin ?hh ?_); (case hh => walk_at "hp")))
local macro_rules | `(tactic| walk_at "go") => `(tactic| repeat walk_at "go1")

/-! ### is_integer, is_index, is_rising -/
def sp_is_integer (K : PySem.W.Frag) : Sp := fun vs H Q _ => ∃ i : Int, vs = [.int i] ∧ Q (.bl true) H
theorem sp_is_integer.len {K : PySem.W.Frag} {vs : List V} {H : Hp} {Q : VK} {E : XK} (h : sp_is_integer K vs H Q E) : vs.length = (["value"] : List Str).length := by
  obtain ⟨i, rfl, _⟩ := h
  rfl
abbrev N_is_integer : List Str := ["value"]
theorem sc_is_integer : FnScope N_is_integer ["value"] (defScope s_is_integer) := ⟨rfl, rfl, rfl, by decide +kernel, rfl, by decide +kernel, by decide +kernel⟩
theorem ok_is_integer {P : Program} {w : World} {K : PySem.W.Frag} {mg : Str → Option Value} {base : Heap} (W : Hd K mg) : OkD P w K mg base 1 "is_integer" ["value"] (sp_is_integer K) := by
  obtain ⟨fd, F⟩ := W.df_is_integer
  refine okD_mk F W.mg_is_integer (fun _ _ _ _ _ _ us hl => match us, hl with | [_], _ => rfl) ?_
  refine F.ok sc_is_integer (fun vs H Q E h => sp_is_integer.len h) (fun cdv A outer s H vs Q E hr h => ⟨_, PSs.nox ((pss_one (ps_ret (pe_and (pe_callB (call_isiK K) (by rfl) (W.fr_isinstance) (by decide +kernel) (pa_cons (pv 0) (pa_cons (pe_bltn (v := .ty "int") (by rfl) (W.fr_int) (by decide +kernel) rfl) pa_nil))) (pe_one (pe_not (pe_callB (call_isiK K) (by rfl) (W.fr_isinstance) (by decide +kernel) (pa_cons (pv 0) (pa_cons (pe_bltn (v := .ty "bool") (by rfl) (W.fr_bool) (by decide +kernel) rfl) pa_nil))))))))), ?_⟩)
  try dsimp only [cxOf, Cx.nox, Cx.wish]
  obtain ⟨i, rfl, k⟩ := h
  walk_at "go"
  exact k
def sp_is_index (K : PySem.W.Frag) : Sp := fun vs H Q _ => ∃ i n : Int, vs = [.int i, .int n] ∧ Q (.bl (decide (0 ≤ i ∧ i < n))) H
theorem sp_is_index.len {K : PySem.W.Frag} {vs : List V} {H : Hp} {Q : VK} {E : XK} (h : sp_is_index K vs H Q E) : vs.length = (["value", "bound"] : List Str).length := by
  obtain ⟨i, n, rfl, _⟩ := h
  rfl
abbrev N_is_index : List Str := ["value", "bound"]
theorem sc_is_index : FnScope N_is_index ["value", "bound"] (defScope s_is_index) := ⟨rfl, rfl, rfl, by decide +kernel, rfl, by decide +kernel, by decide +kernel⟩
theorem ok_is_index {P : Program} {w : World} {K : PySem.W.Frag} {mg : Str → Option Value} {base : Heap} (W : Hd K mg) : OkD P w K mg base 2 "is_index" ["value", "bound"] (sp_is_index K) := by
  obtain ⟨fd, F⟩ := W.df_is_index
  refine okD_mk F W.mg_is_index (fun _ _ _ _ _ _ us hl => match us, hl with | [_, _], _ => rfl) ?_
  refine F.ok sc_is_index (fun vs H Q E h => sp_is_index.len h) (fun cdv A outer s H vs Q E hr h => ⟨_, PSs.nox ((pss_one (ps_ret (pe_and (pe_callD (ok_is_integer W) (hr.mono (by decide)) (pa_cons (pv 0) pa_nil)) (pe_one (pe_chain op_le op_lt pe_int (pv 0) (pv 1))))))), ?_⟩)
  try dsimp only [cxOf, Cx.nox, Cx.wish]
  obtain ⟨i, n, rfl, k⟩ := h
  walk_at "go"
  refine ⟨i, rfl, ?_⟩
  walk_at "go"
  refine g_ite (fun h0 => ?_) (fun h0 => ?_)
  · walk_at "go"
    have e : decide (i < n) = decide (0 ≤ i ∧ i < n) := by
      by_cases h : i < n <;> simp [h, h0]
    rw [e]
    exact k
  · have e : decide (0 ≤ i ∧ i < n) = false := decide_eq_false fun z => h0 z.1
    rw [e] at k
    exact k
/-! ### is_rising, is_list, check_list, check_node -/
def sp_is_rising (K : PySem.W.Frag) : Sp := fun vs H Q _ => ∃ (a : Addr) (ns : List Int) (n : Int), vs = [.ref a, .int n] ∧ H a = some (.lst (ns.map V.int)) ∧ Q (.bl (decide (Rising n ns))) H
theorem sp_is_rising.len {K : PySem.W.Frag} {vs : List V} {H : Hp} {Q : VK} {E : XK} (h : sp_is_rising K vs H Q E) : vs.length = (["values", "bound"] : List Str).length := by
  obtain ⟨a, ns, n, rfl, _⟩ := h
  rfl
theorem rising_snoc {n : Int} {pre : List Int} {x : Int} : Rising n (pre ++ [x]) ↔ Rising n pre ∧ (0 ≤ x ∧ x < n) ∧ ∀ y ∈ pre, y < x := by
  unfold Rising
  rw [List.pairwise_append]
  simp only [List.pairwise_cons, List.mem_append, List.mem_singleton]
  constructor
  · rintro ⟨⟨h1, _, h3⟩, h4⟩
    exact ⟨⟨h1, fun y hy => h4 y (.inl hy)⟩, h4 x (.inr rfl), fun y hy => h3 y hy x rfl⟩
  · rintro ⟨⟨h1, h2⟩, h3, h4⟩
    refine ⟨⟨h1, by simp, fun y hy z hz => hz ▸ h4 y hy⟩, fun y hy => ?_⟩
    rcases hy with hy | rfl
    · exact h2 y hy
    · exact h3
theorem rising_pre {n : Int} {pre post : List Int} (h : Rising n (pre ++ post)) : Rising n pre :=
  ⟨(List.pairwise_append.mp h.1).1, fun x hx => h.2 x (List.mem_append_left _ hx)⟩
abbrev N_is_rising : List Str := ["values", "bound", "last", "value"]
theorem sc_is_rising : FnScope N_is_rising ["values", "bound"] (defScope s_is_rising) := ⟨rfl, rfl, rfl, by decide +kernel, rfl, by decide +kernel, by decide +kernel⟩
theorem ok_is_rising {P : Program} {w : World} {K : PySem.W.Frag} {mg : Str → Option Value} {base : Heap} (W : Hd K mg) : OkD P w K mg base 3 "is_rising" ["values", "bound"] (sp_is_rising K) := by
  obtain ⟨fd, F⟩ := W.df_is_rising
  refine okD_mk F W.mg_is_rising (fun _ _ _ _ _ _ us hl => match us, hl with | [_, _], _ => rfl) ?_
  refine F.ok sc_is_rising (fun vs H Q E h => sp_is_rising.len h) (fun cdv A outer s H vs Q E hr h => ⟨_, PSs.nox ((pss_cons (ps_if (pt_not (pt_val (pe_callB (call_isiK K) (by rfl) (W.fr_isinstance) (by decide +kernel) (pa_cons (pv 0) (pa_cons (pe_bltn (v := .ty "list") (by rfl) (W.fr_list) (by decide +kernel) rfl) pa_nil)))))
  (pss_one (ps_ret pe_bl))
  pss_nil)
  (pss_cons (ps_set (i := 2) sc_is_rising.nd rfl (by first | exact .inl rfl | exact .inr rfl) (pe_un un_neg pe_int))
  (pss_cons (ps_for PassesOwn.never rfl (pi_list (pv 0)) (pg_name (i := 3) sc_is_rising.nd rfl (by first | exact .inl rfl | exact .inr rfl))
  (pss_cons (ps_if (PW.pt (pw_or (pt_not (pt_val (pe_callD (ok_is_index W) (hr.mono (by decide)) (pa_cons (pv 3) (pa_cons (pv 1) pa_nil))))) (pw_or1 (pt_cmpR op_le (pv 3) (pv 2) (nomark _)))))
  (pss_one (ps_ret pe_bl))
  pss_nil)
  (pss_one (ps_set (i := 2) sc_is_rising.nd rfl (by first | exact .inl rfl | exact .inr rfl) (pv 3)))))
  (pss_one (ps_ret pe_bl)))))), ?_⟩)
  try dsimp only [cxOf, Cx.nox, Cx.wish]
  obtain ⟨a, ns, n, rfl, ha, k⟩ := h
  walk_at "go"
  refine for_ints ha (fun pre σ' H' => H' = H ∧ ∃ (l : Int) (v : Option V), σ' = [some (.ref a), some (.int n), some (.int l), v] ∧ -1 ≤ l ∧ Rising n pre ∧ (∀ y ∈ pre, y ≤ l) ∧ (0 ≤ l → l ∈ pre)) ?_ ?_ ?_ ?_
  · exact ⟨rfl, _, _, rfl, by decide, ⟨List.Pairwise.nil, by simp⟩, by simp, by decide⟩
  · rintro pre σ' H' _ ⟨rfl, _⟩
    exact ha
  · rintro pre x post σ' H' e ⟨rfl, l, v, rfl, hl, hr, hy, hm⟩
    walk_at "go"
    refine ⟨x, n, rfl, ?_⟩
    walk_at "go"
    refine g_iteN (fun hx => ?_) (fun hx => ?_)
    · walk_at "go"
      refine g_ite (fun hl2 => ?_) (fun hl2 => ?_)
      · walk_at "go"
        have e2 : ¬ Rising n ns := fun r => by
          rw [e] at r
          have r1 := (List.pairwise_append.mp r.1).2.2
          have m := r1 l (hm (by omega)) x List.mem_cons_self
          omega
        rw [decide_eq_false e2] at k
        exact k
      · walk_at "go"
        refine ⟨rfl, x, _, rfl, by omega, rising_snoc.mpr ⟨hr, hx, fun y h => ?_⟩, fun y h => ?_, fun _ => by simp⟩
        · have := hy y h
          omega
        · rcases List.mem_append.mp h with h | h
          · have := hy y h
            omega
          · rw [List.mem_singleton.mp h]
            omega
    · walk_at "go"
      have e2 : ¬ Rising n ns := fun r => hx (r.2 x (by rw [e]; simp))
      rw [decide_eq_false e2] at k
      exact k
  · rintro σ' H' ⟨rfl, l, v, rfl, hl, hr, hy, hm⟩
    walk_at "go"
    rw [decide_eq_true hr] at k
    exact k
def sp_is_list (K : PySem.W.Frag) : Sp := fun vs H Q _ => ∃ (g dx a : Addr) (n : Nat) (e l : V) (ns : List Int), vs = [.ref g, .ref a] ∧ H g = some (.ins (He.ga K "Graph") dx (gfs n e l)) ∧ H a = some (.lst (ns.map V.int)) ∧ Q (.bl (decide (Rising n ns))) H
theorem sp_is_list.len {K : PySem.W.Frag} {vs : List V} {H : Hp} {Q : VK} {E : XK} (h : sp_is_list K vs H Q E) : vs.length = (["graph", "nodes"] : List Str).length := by
  obtain ⟨g, dx, a, n, e, l, ns, rfl, _⟩ := h
  rfl
abbrev N_is_list : List Str := ["graph", "nodes"]
theorem sc_is_list : FnScope N_is_list ["graph", "nodes"] (defScope s_is_list) := ⟨rfl, rfl, rfl, by decide +kernel, rfl, by decide +kernel, by decide +kernel⟩
theorem ok_is_list {P : Program} {w : World} {K : PySem.W.Frag} {mg : Str → Option Value} {base : Heap} (W : Hd K mg) : OkD P w K mg base 4 "is_list" ["graph", "nodes"] (sp_is_list K) := by
  obtain ⟨fd, F⟩ := W.df_is_list
  refine okD_mk F W.mg_is_list (fun _ _ _ _ _ _ us hl => match us, hl with | [_, _], _ => rfl) ?_
  refine F.ok sc_is_list (fun vs H Q E h => sp_is_list.len h) (fun cdv A outer s H vs Q E hr h => ⟨_, PSs.nox ((pss_one (ps_ret (pe_callD (ok_is_rising W) (hr.mono (by decide)) (pa_cons (pv 1) (pa_cons (pe_fld (pv 0) rfl) pa_nil)))))), ?_⟩)
  try dsimp only [cxOf, Cx.nox, Cx.wish]
  obtain ⟨g, dx, a, n, e, l, ns, rfl, hg, ha, k⟩ := h
  walk_at "go"
  exact ⟨a, ns, n, rfl, ha, k⟩
def sp_check_list (K : PySem.W.Frag) : Sp := fun vs H Q _ => ∃ (g dx a : Addr) (n : Nat) (e l : V) (ns : List Int), vs = [.ref g, .ref a] ∧ H g = some (.ins (He.ga K "Graph") dx (gfs n e l)) ∧ H a = some (.lst (ns.map V.int)) ∧ Rising n ns ∧ Q .non H
theorem sp_check_list.len {K : PySem.W.Frag} {vs : List V} {H : Hp} {Q : VK} {E : XK} (h : sp_check_list K vs H Q E) : vs.length = (["graph", "nodes"] : List Str).length := by
  obtain ⟨g, dx, a, n, e, l, ns, rfl, _⟩ := h
  rfl
abbrev N_check_list : List Str := ["graph", "nodes"]
theorem sc_check_list : FnScope N_check_list ["graph", "nodes"] (defScope s_check_list) := ⟨rfl, rfl, rfl, by decide +kernel, rfl, by decide +kernel, by decide +kernel⟩
theorem ok_check_list {P : Program} {w : World} {K : PySem.W.Frag} {mg : Str → Option Value} {base : Heap} (W : Hd K mg) : OkD P w K mg base 5 "check_list" ["graph", "nodes"] (sp_check_list K) := by
  obtain ⟨fd, F⟩ := W.df_check_list
  refine okD_mk F W.mg_check_list (fun _ _ _ _ _ _ us hl => match us, hl with | [_, _], _ => rfl) ?_
  refine F.ok sc_check_list (fun vs H Q E h => sp_check_list.len h) (fun cdv A outer s H vs Q E hr h => ⟨_, PSs.nox ((pss_one (ps_if (pt_not (pt_val (pe_callD (ok_is_list W) (hr.mono (by decide)) (pa_cons (pv 0) (pa_cons (pv 1) pa_nil)))))
  (pss_one ps_never)
  pss_nil))), ?_⟩)
  try dsimp only [cxOf, Cx.nox, Cx.wish]
  obtain ⟨g, dx, a, n, e, l, ns, rfl, hg, ha, hr, k⟩ := h
  walk_at "go"
  refine ⟨g, dx, a, n, e, l, ns, rfl, hg, ha, ?_⟩
  walk_at "go"
  refine g_iteNP hr ?_
  walk_at "go"
  exact k
def sp_check_node (K : PySem.W.Frag) : Sp := fun vs H Q _ => ∃ (g dx : Addr) (n : Nat) (e l : V) (i : Int), vs = [.ref g, .int i] ∧ H g = some (.ins (He.ga K "Graph") dx (gfs n e l)) ∧ 0 ≤ i ∧ i < n ∧ Q .non H
theorem sp_check_node.len {K : PySem.W.Frag} {vs : List V} {H : Hp} {Q : VK} {E : XK} (h : sp_check_node K vs H Q E) : vs.length = (["graph", "v"] : List Str).length := by
  obtain ⟨g, dx, n, e, l, i, rfl, _⟩ := h
  rfl
abbrev N_check_node : List Str := ["graph", "v"]
theorem sc_check_node : FnScope N_check_node ["graph", "v"] (defScope s_check_node) := ⟨rfl, rfl, rfl, by decide +kernel, rfl, by decide +kernel, by decide +kernel⟩
theorem ok_check_node {P : Program} {w : World} {K : PySem.W.Frag} {mg : Str → Option Value} {base : Heap} (W : Hd K mg) : OkD P w K mg base 3 "check_node" ["graph", "v"] (sp_check_node K) := by
  obtain ⟨fd, F⟩ := W.df_check_node
  refine okD_mk F W.mg_check_node (fun _ _ _ _ _ _ us hl => match us, hl with | [_, _], _ => rfl) ?_
  refine F.ok sc_check_node (fun vs H Q E h => sp_check_node.len h) (fun cdv A outer s H vs Q E hr h => ⟨_, PSs.nox ((pss_one (ps_if (pt_not (pt_val (pe_callD (ok_is_index W) (hr.mono (by decide)) (pa_cons (pv 1) (pa_cons (pe_fld (pv 0) rfl) pa_nil)))))
  (pss_one ps_never)
  pss_nil))), ?_⟩)
  try dsimp only [cxOf, Cx.nox, Cx.wish]
  obtain ⟨g, dx, n, e, l, i, rfl, hg, h0, h1, k⟩ := h
  walk_at "go"
  refine ⟨i, n, rfl, ?_⟩
  walk_at "go"
  refine g_iteNP ⟨h0, h1⟩ ?_
  walk_at "go"
  exact k

/-! ### check_edges -/
def sp_check_edges (K : PySem.W.Frag) : Sp := fun vs H Q _ => ∃ (n : Nat) (e : V) (E : List (Int × Int)), vs = [.int n, e] ∧ rLst rPair No H e E ∧ GoodE n E ∧ n ≤ 40 ∧ ∀ H', Same H H' → Q .non H'
theorem sp_check_edges.len {K : PySem.W.Frag} {vs : List V} {H : Hp} {Q : VK} {E : XK} (h : sp_check_edges K vs H Q E) : vs.length = (["nodes", "edges"] : List Str).length := by
  obtain ⟨n, e, E, rfl, _⟩ := h
  rfl
theorem gl_plt : ∀ {E pre post : List (Int × Int)} {x y : Int × Int}, E.Pairwise plt → E = pre ++ y :: post → x ∈ pre → plt x y := fun h e m => by
  rw [e] at h
  exact (List.pairwise_append.mp h).2.2 _ m _ List.mem_cons_self
abbrev N_check_edges : List Str := ["nodes", "edges", "last", "edge"]
theorem sc_check_edges : FnScope N_check_edges ["nodes", "edges"] (defScope s_check_edges) := ⟨rfl, rfl, rfl, by decide +kernel, rfl, by decide +kernel, by decide +kernel⟩
theorem ok_check_edges {P : Program} {w : World} {K : PySem.W.Frag} {mg : Str → Option Value} {base : Heap} (W : Hd K mg) : OkD P w K mg base 3 "check_edges" ["nodes", "edges"] (sp_check_edges K) := by
  obtain ⟨fd, F⟩ := W.df_check_edges
  refine okD_mk F W.mg_check_edges (fun _ _ _ _ _ _ us hl => match us, hl with | [_, _], _ => rfl) ?_
  refine F.ok sc_check_edges (fun vs H Q E h => sp_check_edges.len h) (fun cdv A outer s H vs Q E hr h => ⟨_, PSs.nox ((pss_cons (ps_if (PW.pt (pw_or (pt_not (pt_val (pe_callD (ok_is_integer W) (hr.mono (by decide)) (pa_cons (pv 0) pa_nil)))) (pw_or1 (pt_not (pt_chain op_le op_le pe_int (pv 0) (pe_globI rfl W.mg_MOST))))))
  (pss_one ps_never)
  pss_nil)
  (pss_cons (ps_if (pt_not (pt_val (pe_callB (call_isiK K) (by rfl) (W.fr_isinstance) (by decide +kernel) (pa_cons (pv 1) (pa_cons (pe_bltn (v := .ty "list") (by rfl) (W.fr_list) (by decide +kernel) rfl) pa_nil)))))
  (pss_one ps_never)
  pss_nil)
  (pss_cons (ps_set (i := 2) sc_check_edges.nd rfl (by first | exact .inl rfl | exact .inr rfl) (pe_tup (pa_cons (pe_un un_neg pe_int) (pa_cons (pe_un un_neg pe_int) pa_nil))))
  (pss_one (ps_for PassesOwn.never rfl (pi_list (pv 1)) (pg_name (i := 3) sc_check_edges.nd rfl (by first | exact .inl rfl | exact .inr rfl))
  (pss_cons (ps_if (PW.pt (pw_or (pt_not (pt_val (pe_callB (call_isiK K) (by rfl) (W.fr_isinstance) (by decide +kernel) (pa_cons (pv 3) (pa_cons (pe_bltn (v := .ty "tuple") (by rfl) (W.fr_tuple) (by decide +kernel) rfl) pa_nil))))) (pw_or1 (pt_cmpR op_ne (pe_callB (call_lenK K) (by rfl) (W.fr_len) PySem.boot_len (pa_cons (pv 3) pa_nil)) pe_int (nomark _)))))
  (pss_one ps_never)
  pss_nil)
  (pss_cons (ps_if (PW.pt (pw_or (pt_not (pt_val (pe_callD (ok_is_index W) (hr.mono (by decide)) (pa_cons (pe_ix (ix_tupK K) (pv 3) pe_int (fun _ _ => rfl)) (pa_cons (pv 0) pa_nil))))) (pw_or1 (pt_not (pt_val (pe_callD (ok_is_index W) (hr.mono (by decide)) (pa_cons (pe_ix (ix_tupK K) (pv 3) pe_int (fun _ _ => rfl)) (pa_cons (pv 0) pa_nil))))))))
  (pss_one ps_never)
  pss_nil)
  (pss_cons (ps_if (PW.pt (pw_or (pt_cmpR op_ge (pe_ix (ix_tupK K) (pv 3) pe_int (fun _ _ => rfl)) (pe_ix (ix_tupK K) (pv 3) pe_int (fun _ _ => rfl)) (nomark _)) (pw_or1 (pt_cmpR (op_leT hr.units0) (pv 3) (pv 2) (nomark _)))))
  (pss_one ps_never)
  pss_nil)
  (pss_one (ps_set (i := 2) sc_check_edges.nd rfl (by first | exact .inl rfl | exact .inr rfl) (pv 3)))))))))))), ?_⟩)
  try dsimp only [cxOf, Cx.nox, Cx.wish]
  obtain ⟨n, ev, Es, rfl, ⟨vs, ⟨a, rfl, _, ha⟩, pr⟩, good, h40, k⟩ := h
  walk_at "go"
  refine ⟨_, rfl, ?_⟩
  walk_at "go"
  refine g_iteP (show (0 : Int) ≤ n by omega) ?_
  walk_at "go"
  refine g_iteNP (show (n : Int) ≤ 40 by omega) ?_
  walk_at "go"
  intro t nt
  walk_at "go"
  refine for_rep (R := rPair No H) (h := by walk_at "hp") (pr := pr) (fun pre σ' H' => Same H H' ∧ ∃ (l : Addr) (p : Int × Int) (v : Option V), σ' = [some (.int n), some (.ref a), some (.ref l), v] ∧ H' l = some (.tup [.int p.1, .int p.2]) ∧ (p = (-1, -1) ∨ p ∈ pre)) ?_ ?_ ?_ ?_
  · exact ⟨Same.new (Same.refl H) nt, t, (-1, -1), none, rfl, upd_same, .inl rfl⟩
  · rintro pre σ' H' _ ⟨sm, _⟩
    exact sm _ _ ha
  · rintro pre x d post σ' H' e ⟨t, rfl, _, ht⟩ ⟨sm, l, p, v, rfl, hl, hp⟩
    have ht' := sm _ _ ht
    have gd := good.1 d (by rw [e]; simp)
    walk_at "go"
    refine g_iteQ (by simp) ?_
    walk_at "go"
    refine ⟨_, _, rfl, ?_⟩
    walk_at "go"
    refine g_iteNP ⟨by omega, by omega⟩ ?_
    walk_at "go"
    refine ⟨_, _, rfl, ?_⟩
    walk_at "go"
    refine g_iteNP ⟨by omega, by omega⟩ ?_
    walk_at "go"
    refine g_iteQ (by omega) ?_
    walk_at "go"
    have lt : plt p d := by
      rcases hp with rfl | hp
      · exact .inl (by show (-1 : Int) < d.1; omega)
      · exact gl_plt good.2 e hp
    refine g_iteQ (fun z => z lt) ?_
    walk_at "go"
    exact ⟨sm, t, d, _, rfl, ht', .inr (by simp)⟩
  · rintro σ' H' ⟨sm, _⟩
    exact k H' sm

/-! ### Graph.__init__ -/
/-- g the new instance, H0 the heap ahead of it; the edges' tuples are off M -/
def sp_Graph_init (K : PySem.W.Frag) : Sp := fun vs H Q _ => ∃ (g dx : Addr) (n : Nat) (e : V) (Es : List (Int × Int)) (H0 : Hp) (M : Av), vs = [.ref g, .int n, e] ∧ H g = some (.ins (He.ga K "Graph") dx []) ∧ Same H0 H ∧ H0 g = none ∧
  rLst rPair M H0 e Es ∧ (∀ b, M b → H0 b ≠ none) ∧ GoodE n Es ∧ n ≤ 40 ∧ ∀ H', Same H0 H' → rGraph K M H' (.ref g) (n, Es) → Q .non H'
theorem sp_Graph_init.len {K : PySem.W.Frag} {vs : List V} {H : Hp} {Q : VK} {E : XK} (h : sp_Graph_init K vs H Q E) : vs.length = (["self", "nodes", "edges"] : List Str).length := by
  obtain ⟨g, dx, n, e, Es, H0, M, rfl, _⟩ := h
  rfl
abbrev N_Graph_init : List Str := ["self", "nodes", "edges", "first", "second", "_", "row"]
theorem sc_Graph_init : FnScope N_Graph_init ["self", "nodes", "edges"] (defScope s_Graph_init) := ⟨rfl, rfl, rfl, by decide +kernel, rfl, by decide +kernel, by decide +kernel⟩
theorem ok_Graph_init {P : Program} {w : World} {K : PySem.W.Frag} {mg : Str → Option Value} {base : Heap} (W : Hd K mg) : OkM P w K mg base 4 "__init__" ["self", "nodes", "edges"] (sp_Graph_init K) := by
  obtain ⟨fd, F⟩ := W.df_Graph_init
  refine okM_mk F (fun _ _ _ _ _ _ us hl => match us, hl with | [_, _, _], _ => rfl) ?_
  refine F.ok sc_Graph_init (fun vs H Q E h => sp_Graph_init.len h) (fun cdv A outer s H vs Q E hr h => ⟨_, PSs.nox ((pss_cons (ps_expr (pe_callD (ok_check_edges W) (hr.mono (by decide)) (pa_cons (pv 1) (pa_cons (pv 2) pa_nil))))
  (pss_cons (ps_fld (pv 0) (pv 1) rfl)
  (pss_cons (ps_fld (pv 0) (pe_callTy (call_listK K) (by rfl) (W.fr_list) (by decide +kernel) (pa_cons (pv 2) pa_nil)) rfl)
  (pss_cons (ps_fld (pv 0) (pe_lc (own := [("_", 5)]) (g := gName 5) (tt := _) rfl sc_Graph_init.nd (pi_range1 (by rfl) (W.fr_range) (pa_cons (pv 1) pa_nil)) (blkOk_by (N := N_Graph_init) (sc := defScope s_Graph_init) (by decide +kernel)) (fun _ _ _ _ _ => pg_name (i := 5) sc_Graph_init.nd rfl (Or.inl rfl)) (fun _ _ _ _ _ => pts_nil) (fun _ _ _ _ _ => (pe_lst pa_nil))) rfl)
  (pss_cons (ps_for PassesOwn.never rfl (pi_list (pv 2)) (pg_tupK K (n := 2) rfl (pgs_cons (pg_name (i := 3) sc_Graph_init.nd rfl (by first | exact .inl rfl | exact .inr rfl)) (pgs_cons (pg_name (i := 4) sc_Graph_init.nd rfl (by first | exact .inl rfl | exact .inr rfl)) pgs_nil)))
  (pss_cons (ps_expr (pe_bmK K PySem.F.plainAttrs_list PySem.F.slot_list_append PySem.F.type_list_append mt_append (pe_ix (ix_listK K) (pe_fld (pv 0) rfl) (pv 3) (fun _ _ => rfl)) (pa_cons (pv 4) pa_nil)))
  (pss_one (ps_expr (pe_bmK K PySem.F.plainAttrs_list PySem.F.slot_list_append PySem.F.type_list_append mt_append (pe_ix (ix_listK K) (pe_fld (pv 0) rfl) (pv 4) (fun _ _ => rfl)) (pa_cons (pv 3) pa_nil))))))
  (pss_one (ps_fld (pv 0) (pe_lc (own := [("row", 6)]) (g := gName 6) (tt := _) rfl sc_Graph_init.nd (pi_list (pe_fld (pv 0) rfl)) (blkOk_by (N := N_Graph_init) (sc := defScope s_Graph_init) (by decide +kernel)) (fun _ _ _ _ _ => pg_name (i := 6) sc_Graph_init.nd rfl (Or.inl rfl)) (fun _ _ _ _ _ => pts_nil) (fun _ _ _ _ _ => (pe_callB (cr_sortedK K) (by rfl) (W.fr_sorted) (by decide +kernel) (pa_cons (pv 6) pa_nil)))) rfl)))))))), ?_⟩)
  try dsimp only [cxOf, Cx.nox, Cx.wish]
  obtain ⟨g, dx, n, ev, Es, H0, M, rfl, hg, s0, ng, re, hM, good, h40, k⟩ := h
  walk_at "go"
  refine ⟨n, ev, Es, rfl, (rLst.frm rPair.frm).mv (Mov.trans (.same s0) .drop) re, good, h40, fun H1 s1 => ?_⟩
  have hg1 := s1 _ _ hg
  have s01 := Same.trans s0 s1
  walk_at "go"
  refine g_stn W hg1 (by decide) ?_
  walk_at "go"
  obtain ⟨vs, ⟨a, rfl, na, ha0⟩, pr0⟩ := re
  have nag : a ≠ g := ne_of_none ha0 ng
  have ha1 := s01 _ _ ha0
  walk_at "go"
  intro e1 ne1
  have neg : e1 ≠ g := new_ne ne1
  have ne1' := new_old ne1
  walk_at "go"
  refine g_ste W (by walk_at "hp") (by show 1 < 1000; decide) ?_
  rw [gfs_put1]
  obtain ⟨H2, hH2⟩ : ∃ X : Hp, X = upd (upd (upd H1 g (.ins (He.ga K (Str.ofString "Graph")) dx (putF (Str.ofString "nodes") (V.int n) []))) e1 (.lst vs)) g (.ins (He.ga K (Str.ofString "Graph")) dx [(("nodes" : Str), .int n), ("edges", .ref e1)]) := ⟨_, rfl⟩
  rw [← hH2]
  have s02 : Same H0 H2 := by rw [hH2]; exact Same.mut (Same.mut (Same.mut s01 ng) (s01.free ne1')) ng
  have hg2 : H2 g = some (.ins (He.ga K (Str.ofString "Graph")) dx [(("nodes" : Str), .int n), ("edges", .ref e1)]) := by rw [hH2]; exact upd_same
  have he2 : H2 e1 = some (.lst vs) := by rw [hH2, upd_ne neg]; exact upd_same
  walk_at "go"
  refine lc_rng1 (n := (n : Int)) (by omega) (by omega) (fun Dl i H' => Same H2 H' ∧ ∃ ls : List Addr, H' Dl = some (.lst (ls.map V.ref)) ∧ Rows H' ls i (fun _ => []) ∧ ∀ l ∈ ls, H2 l = none ∧ l ≠ Dl) ?_ ?_ ?_
  · intro Dl nD
    exact ⟨Same.new (Same.refl _) nD, [], upd_same, ⟨rfl, List.nodup_nil, by simp⟩, by simp⟩
  · rintro Dl i H' nD hi ⟨s2, ls, hD, hR, hN⟩
    walk_at "go"
    intro p np
    have npD : Dl ≠ p := ne_of_none hD np
    refine ⟨_, by walk_at "hp", ?_, ?_⟩
    · rw [List.length_map, hR.1]
      exact small_of (by omega)
    · have e : ls.map V.ref ++ [V.ref p] = (ls ++ [p]).map V.ref := by simp
      rw [e]
      have npl : ∀ l ∈ ls, l ≠ p := fun l hl => by
        obtain ⟨i', hi', e'⟩ := List.mem_iff_getElem.mp hl
        exact ne_of_none (hR.2.2 i' l (by rw [List.getElem?_eq_getElem hi', e'])) np
      refine ⟨Same.mut (Same.new s2 np) nD, _, upd_same, ⟨by rw [List.length_append, hR.1]; rfl, nd_snoc hR.2.1 (fun z => npl p z rfl), fun j l hl => ?_⟩, fun l hl => ?_⟩
      · have m : l ∈ ls ++ [p] := List.mem_of_getElem? hl
        rcases List.mem_append.mp m with m | m
        · obtain ⟨j', hj', e'⟩ := List.mem_iff_getElem.mp m
          have q := hR.2.2 j' l (by rw [List.getElem?_eq_getElem hj', e'])
          rw [upd_ne (hN l m).2, upd_ne (npl l m)]
          exact q
        · have e2 := List.mem_singleton.mp m
          subst e2
          rw [upd_ne npD.symm, upd_same]
          rfl
      · rcases List.mem_append.mp hl with m | m
        · exact hN l m
        · have e2 := List.mem_singleton.mp m
          subst e2
          exact ⟨s2.free np, npD.symm⟩
  · rintro Dl H' nD ⟨s2, ls, hD, hR, hN⟩
    rw [Int.toNat_natCast] at hR
    walk_at "go"
    refine g_stl W (s2 _ _ hg2) (by show 2 < 1000; decide) ?_
    rw [gfs_put0]
    obtain ⟨H3, hH3⟩ : ∃ X : Hp, X = upd H' g (.ins (He.ga K (Str.ofString "Graph")) dx (gfs n (.ref e1) (.ref Dl))) := ⟨_, rfl⟩
    rw [← hH3]
    have s03 : Same H0 H3 := by rw [hH3]; exact Same.mut (Same.trans s02 s2) ng
    have hg3 : H3 g = some (.ins (He.ga K (Str.ofString "Graph")) dx (gfs n (.ref e1) (.ref Dl))) := by rw [hH3]; exact upd_same
    have ngD : Dl ≠ g := (ne_of_none hg2 nD).symm
    have he3 : H3 e1 = some (.lst vs) := by rw [hH3, upd_ne neg]; exact s2 _ _ he2
    have hD3 : H3 Dl = some (.lst (ls.map V.ref)) := by rw [hH3, upd_ne ngD]; exact hD
    have hR3 : Rows H3 ls n (fun _ => []) := hR.keep fun l hl o e => by
      rw [hH3, upd_ne (ne_of_none hg2 (hN l hl).1).symm]
      exact e
    have hN0 : ∀ l ∈ ls, H0 l = none ∧ l ≠ g ∧ l ≠ e1 ∧ l ≠ Dl := fun l hl => ⟨s02.free (hN l hl).1, (ne_of_none hg2 (hN l hl).1).symm, (ne_of_none he2 (hN l hl).1).symm, (hN l hl).2⟩
    have neD : e1 ≠ Dl := ne_of_none he2 nD
    clear hH3 hR hD hH2 hg2 he2
    walk_at "go"
    refine for_rep (R := rPair M H0) (h := s03 _ _ ha0) (pr := pr0) (fun pre σ' H' => Same H0 H' ∧ (∃ u v : Option V, σ' = [some (.ref g), some (.int n), some (.ref a), u, v, none, none]) ∧ H' g = some (.ins (He.ga K (Str.ofString "Graph")) dx (gfs n (.ref e1) (.ref Dl))) ∧ H' e1 = some (.lst vs) ∧
      H' Dl = some (.lst (ls.map V.ref)) ∧ Rows H' ls n (fun i => adjs pre (i : Int))) ?_ ?_ ?_ ?_
    · exact ⟨s03, ⟨_, _, rfl⟩, hg3, he3, hD3, hR3⟩
    · rintro pre σ' H' _ ⟨sm, _⟩
      exact sm _ _ ha0
    · rintro pre x d post σ' H' e ⟨t, rfl, _, ht⟩ ⟨sm, ⟨u, v, rfl⟩, hg4, he4, hD4, hR4⟩
      refine g_gtup2 (sm _ _ ht) ?_
      have gd := good.1 d (by rw [e]; simp)
      have gp := good.pre e
      have c1 : ((d.1.toNat : Nat) : Int) = d.1 := by omega
      have c2 : ((d.2.toNat : Nat) : Int) = d.2 := by omega
      walk_at "go"
      refine g_row hD4 hR4 (by omega) (by omega) fun l1 hl1 hv1 => ?_
      walk_at "go"
      refine g_appI hv1 (small_of (by have := adjs_len gp ((d.1.toNat : Nat) : Int); omega)) ?_
      have m1 := hN0 l1 (List.mem_of_getElem? hl1)
      have hR5 := hR4.put hl1 d.2
      have hD5 : (upd H' l1 (.lst ((adjs pre ((d.1.toNat : Nat) : Int) ++ [d.2]).map V.int))) Dl = some (.lst (ls.map V.ref)) := by rw [upd_ne m1.2.2.2.symm]; exact hD4
      have hg5 : (upd H' l1 (.lst ((adjs pre ((d.1.toNat : Nat) : Int) ++ [d.2]).map V.int))) g = some (.ins (He.ga K (Str.ofString "Graph")) dx (gfs n (.ref e1) (.ref Dl))) := by rw [upd_ne m1.2.1.symm]; exact hg4
      have he5 : (upd H' l1 (.lst ((adjs pre ((d.1.toNat : Nat) : Int) ++ [d.2]).map V.int))) e1 = some (.lst vs) := by rw [upd_ne m1.2.2.1.symm]; exact he4
      have sm5 := Same.mut (o := .lst ((adjs pre ((d.1.toNat : Nat) : Int) ++ [d.2]).map V.int)) sm m1.1
      generalize upd H' l1 (.lst ((adjs pre ((d.1.toNat : Nat) : Int) ++ [d.2]).map V.int)) = H5 at hR5 hD5 hg5 he5 sm5 ⊢
      walk_at "go"
      refine g_row hD5 hR5 (by omega) (by omega) fun l2 hl2 hv2 => ?_
      walk_at "go"
      have ne12 : ¬ d.2.toNat = d.1.toNat := by omega
      simp only [ne12, if_false] at hv2
      refine g_appI hv2 (small_of (by have := adjs_len gp ((d.2.toNat : Nat) : Int); omega)) ?_
      have m2 := hN0 l2 (List.mem_of_getElem? hl2)
      have hR6 := hR5.put hl2 d.1
      simp only [ne12, if_false] at hR6
      refine ⟨Same.mut sm5 m2.1, ⟨_, _, rfl⟩, by rw [upd_ne m2.2.1.symm]; exact hg5, by rw [upd_ne m2.2.2.1.symm]; exact he5, by rw [upd_ne m2.2.2.2.symm]; exact hD5, hR6.ext fun i hi => ?_⟩
      rw [adjs_snoc]
      by_cases i2 : i = d.2.toNat
      · subst i2
        have q1 : ¬ d.1 = ((d.2.toNat : Nat) : Int) := by omega
        simp [q1, c2]
      · by_cases i1 : i = d.1.toNat
        · subst i1
          simp [i2, c1]
        · have q1 : ¬ d.1 = (i : Int) := by omega
          have q2 : ¬ d.2 = (i : Int) := by omega
          simp [i1, i2, q1, q2]
    · rintro σ' H' ⟨sm, ⟨u, v, rfl⟩, hg4, he4, hD4, hR4⟩
      walk_at "go"
      have prs : Paired (rInts No H') (ls.map V.ref) ((List.range n).map fun (i : Nat) => adjs Es (i : Int)) := hR4.pair fun _ _ z => z
      refine lc_rep hD4 prs (fun D' pre H5 => Col rInts (fun b => b = g ∨ M b) H' D' H5 (pre.map isort)) ?_ ?_ ?_ ?_
      · intro D' nD'
        exact Col.nil nD'
      · rintro D' pre H5 nD' _ c
        exact c.same _ _ hD4
      · rintro D' pre x d post H5 nD' e ⟨b, rfl, _, hb⟩ c
        have hb5 := c.same _ _ hb
        walk_at "go"
        intro p np
        have c2 := c.step rInts.frm (Same.new (o := .lst ((isort d).map V.int)) (Same.refl H5) np)
        obtain ⟨_, vs2, hv2, _⟩ := id c2
        have npD : p ≠ D' := by
          rintro rfl
          obtain ⟨_, _, h, _⟩ := c
          rw [h] at np
          cases np
        refine ⟨vs2, hv2, ?_, ?_⟩
        · have l1 := c2.len hv2
          have l2 := congrArg List.length e
          rw [l1]
          simp at l2 ⊢
          exact small_of (by omega)
        · have c3 := c2.app rInts.frm nD' hv2 (v := .ref p) (d := isort d) ⟨p, rfl, fun z => ?_, upd_same⟩
          · rw [List.map_append]
            exact c3
          · rcases z with z | z | z
            · exact npD z
            · subst z
              rw [c.same _ _ hg4] at np
              cases np
            · exact hM p z ((Same.trans sm c.same).free np)
      · rintro D' H5 nD' c
        have sm5 := Same.trans sm c.same
        walk_at "go"
        refine g_stl W (c.same _ _ hg4) (by show 3 < 1000; decide) ?_
        rw [gfs_put2]
        have neD' : D' ≠ g := (ne_of_none hg4 nD').symm
        refine k _ (Same.mut sm5 ng) ⟨g, dx, .ref e1, .ref D', rfl, fun z => hM g z ng, upd_same, ⟨vs, ⟨e1, rfl, fun z => hM e1 z (s01.free ne1'), ?_⟩, ?_⟩, ?_⟩
        · rw [upd_ne neg]
          exact c.same _ _ he4
        · exact L2.Paired.mapP pr0 fun _ _ z => rPair.frm.mv (.same (Same.mut sm5 ng)) z
        · have q := c.done rInts.frm (fun z => z.elim neD' fun z => hM D' z (sm.free nD'))
          have e5 : ((List.range n).map fun (i : Nat) => adjs Es (i : Int)).map isort = links n Es := by
            unfold links nb
            rw [List.map_map]
            rfl
          rw [e5] at q
          exact (rLst.frm rInts.frm).mv (Mov.trans (Mov.mut (.inl rfl)) (.weak fun _ z => .inr z)) q
/-- Graph(n, e) -/
def MkG (K : PySem.W.Frag) (vs : List V) (H : Hp) (Q : VK) : Prop := ∃ (n : Nat) (e : V) (Es : List (Int × Int)) (M : Av), vs = [.int n, e] ∧ rLst rPair M H e Es ∧ (∀ b, M b → H b ≠ none) ∧ GoodE n Es ∧ n ≤ 40 ∧
  ∀ H' v, Same H H' → rGraph K M H' v (n, Es) → Q v H'
def MkR (K : PySem.W.Frag) (E : XK) (vs : List V) (H : Hp) (Q : VK) : Prop := ∀ x dx, H x = none → H dx = none → dx ≠ x → sp_Graph_init K (.ref x :: (vs ++ [])) (upd (upd H dx (.own x)) x (.ins (He.ga K "Graph") dx [])) (fun v H2 => v = .non ∧ Q (.ref x) H2) E
theorem g_make {K : PySem.W.Frag} {ta : TA} {σ : L2.St} {H : Hp} {Q : VK} {E : XK} (h : ta σ H fun vs H1 => MkR K E vs H1 Q) : tMake (He.ga K "Graph") (sp_Graph_init K) [] E ta σ H Q := h
theorem g_mkR {K : PySem.W.Frag} {vs : List V} {H1 : Hp} {Q : VK} {E : XK} (q : MkG K vs H1 Q) : MkR K E vs H1 Q := by
  obtain ⟨n, e, Es, M, rfl, re, hM, good, h40, k⟩ := q
  intro x dx nx nd ne
  have s : Same H1 (upd (upd H1 dx (.own x)) x (.ins (He.ga K "Graph") dx [])) := Same.new (Same.new (Same.refl _) nd) (by rw [upd_ne ne.symm]; exact nx)
  exact ⟨x, dx, n, e, Es, H1, M, rfl, upd_same, s, nx, re, hM, good, h40, fun H' s' r => ⟨rfl, k H' _ s' r⟩⟩

/-! ### Graph.neighbours -/
def sp_Graph_neighbours (K : PySem.W.Frag) : Sp := fun vs H Q _ => ∃ (g : V) (n : Nat) (Es : List (Int × Int)) (i : Int), vs = [g, .int i] ∧ rGraph K No H g (n, Es) ∧ 0 ≤ i ∧ i < n ∧ ∀ H' v, Same H H' → rInts (Trk H) H' v (nb Es i) → Q v H'
theorem sp_Graph_neighbours.len {K : PySem.W.Frag} {vs : List V} {H : Hp} {Q : VK} {E : XK} (h : sp_Graph_neighbours K vs H Q E) : vs.length = (["self", "v"] : List Str).length := by
  obtain ⟨g, n, Es, i, rfl, _⟩ := h
  rfl
abbrev N_Graph_neighbours : List Str := ["self", "v"]
theorem sc_Graph_neighbours : FnScope N_Graph_neighbours ["self", "v"] (defScope s_Graph_neighbours) := ⟨rfl, rfl, rfl, by decide +kernel, rfl, by decide +kernel, by decide +kernel⟩
theorem ok_Graph_neighbours {P : Program} {w : World} {K : PySem.W.Frag} {mg : Str → Option Value} {base : Heap} (W : Hd K mg) : OkM P w K mg base 4 "neighbours" ["self", "v"] (sp_Graph_neighbours K) := by
  obtain ⟨fd, F⟩ := W.df_Graph_neighbours
  refine okM_mk F (fun _ _ _ _ _ _ us hl => match us, hl with | [_, _], _ => rfl) ?_
  refine F.ok sc_Graph_neighbours (fun vs H Q E h => sp_Graph_neighbours.len h) (fun cdv A outer s H vs Q E hr h => ⟨_, PSs.nox ((pss_cons (ps_expr (pe_callD (ok_check_node W) (hr.mono (by decide)) (pa_cons (pv 0) (pa_cons (pv 1) pa_nil))))
  (pss_one (ps_ret (pe_callTy (call_listK K) (by rfl) (W.fr_list) (by decide +kernel) (pa_cons (pe_ix (ix_listK K) (pe_fld (pv 0) rfl) (pv 1) (fun _ _ => rfl)) pa_nil)))))), ?_⟩)
  try dsimp only [cxOf, Cx.nox, Cx.wish]
  obtain ⟨gv, n, Es, i, rfl, ⟨g, dx, e, l, rfl, _, hg, _, rl⟩, h0, h1, k⟩ := h
  walk_at "go"
  refine ⟨g, dx, n, e, l, i, rfl, hg, h0, h1, ?_⟩
  walk_at "go"
  obtain ⟨vs, ⟨la, rfl, _, hl⟩, pl⟩ := rl
  obtain ⟨x, hx, ⟨a, rfl, _, ha⟩⟩ := Paired.get' pl (links_get (n := n) (E := Es) (v := i.toNat) (by omega))
  walk_at "go"
  refine g_ix hl (atI_at h0 hx) ?_
  have c : ((i.toNat : Nat) : Int) = i := by omega
  rw [c] at ha
  walk_at "go"
  intro p np
  exact k _ _ (Same.new (Same.refl _) np) ⟨p, rfl, fun z => z np, upd_same⟩
/-! ### Graph.induced -/
def sp_Graph_induced (K : PySem.W.Frag) : Sp := fun vs H Q _ => ∃ (g l : V) (n : Nat) (Es : List (Int × Int)) (ns : List Int), vs = [g, l] ∧ rGraph K No H g (n, Es) ∧ rInts No H l ns ∧ GoodE n Es ∧ n ≤ 40 ∧ Rising n ns ∧ 
  ∀ H' v, Same H H' → rGraph K (Trk H) H' v (ns.length, indE Es ns) → Q v H'
theorem sp_Graph_induced.len {K : PySem.W.Frag} {vs : List V} {H : Hp} {Q : VK} {E : XK} (h : sp_Graph_induced K vs H Q E) : vs.length = (["self", "nodes"] : List Str).length := by
  obtain ⟨g, l, n, Es, ns, rfl, _⟩ := h
  rfl
abbrev N_Graph_induced : List Str := ["self", "nodes", "numbers", "number", "node", "edges", "first", "second"]
theorem sc_Graph_induced : FnScope N_Graph_induced ["self", "nodes"] (defScope s_Graph_induced) := ⟨rfl, rfl, rfl, by decide +kernel, rfl, by decide +kernel, by decide +kernel⟩
theorem ok_Graph_induced {P : Program} {w : World} {K : PySem.W.Frag} {mg : Str → Option Value} {base : Heap} (W : Hd K mg) : OkM P w K mg base 6 "induced" ["self", "nodes"] (sp_Graph_induced K) := by
  obtain ⟨fd, F⟩ := W.df_Graph_induced
  refine okM_mk F (fun _ _ _ _ _ _ us hl => match us, hl with | [_, _], _ => rfl) ?_
  refine F.ok sc_Graph_induced (fun vs H Q E h => sp_Graph_induced.len h) (fun cdv A outer s H vs Q E hr h => ⟨_, PSs.nox ((pss_cons (ps_expr (pe_callD (ok_check_list W) (hr.mono (by decide)) (pa_cons (pv 0) (pa_cons (pv 1) pa_nil))))
  (pss_cons (ps_set (i := 2) sc_Graph_induced.nd rfl (by first | exact .inl rfl | exact .inr rfl) pe_dnewK)
  (pss_cons (ps_for PassesOwn.never rfl (pi_enum (by rfl) (W.fr_enumerate) (pa_cons (pv 1) pa_nil)) (pg_tupK K (n := 2) rfl (pgs_cons (pg_name (i := 3) sc_Graph_induced.nd rfl (by first | exact .inl rfl | exact .inr rfl)) (pgs_cons (pg_name (i := 4) sc_Graph_induced.nd rfl (by first | exact .inl rfl | exact .inr rfl)) pgs_nil)))
  (pss_one (ps_dput (hu_of hr) (pv 2) (pv 4) (pv 3) rfl)))
  (pss_cons (ps_set (i := 5) sc_Graph_induced.nd rfl (by first | exact .inl rfl | exact .inr rfl) (pe_lst pa_nil))
  (pss_cons (ps_for PassesOwn.never rfl (pi_list (pe_fld (pv 0) rfl)) (pg_tupK K (n := 2) rfl (pgs_cons (pg_name (i := 6) sc_Graph_induced.nd rfl (by first | exact .inl rfl | exact .inr rfl)) (pgs_cons (pg_name (i := 7) sc_Graph_induced.nd rfl (by first | exact .inl rfl | exact .inr rfl)) pgs_nil)))
  (pss_one (ps_if (PW.pt (pw_and (pt_cmp (pc_din (hu_of hr) (pv 6) (pv 2)) (by rfl)) (pw_and1 (pt_cmp (pc_din (hu_of hr) (pv 7) (pv 2)) (by rfl)))))
  (pss_one (ps_expr (pe_bmK K PySem.F.plainAttrs_list PySem.F.slot_list_append PySem.F.type_list_append mt_append (pv 5) (pa_cons (pe_tup (pa_cons (pe_dget (hu_of hr) (pv 2) (pv 6) (fun _ _ => rfl)) (pa_cons (pe_dget (hu_of hr) (pv 2) (pv 7) (fun _ _ => rfl)) pa_nil))) pa_nil))))
  pss_nil)))
  (pss_one (ps_ret (pe_makeG W (ok_Graph_init W) (hr.mono (by decide)) (pa_cons (pe_callB (call_lenK K) (by rfl) (W.fr_len) PySem.boot_len (pa_cons (pv 1) pa_nil)) (pa_cons (pv 5) pa_nil))))))))))), ?_⟩)
  try dsimp only [cxOf, Cx.nox, Cx.wish]
  obtain ⟨gv, lv, n, Es, ns, rfl, ⟨g, dx, e, l, rfl, _, hg, re, rl⟩, ⟨a, rfl, _, ha⟩, good, h40, ri, k⟩ := h
  walk_at "go"
  refine ⟨g, dx, a, n, e, l, ns, rfl, hg, ha, ri, ?_⟩
  obtain ⟨es, ⟨ea, rfl, _, he⟩, pe⟩ := re
  walk_at "go"
  intro d nd
  have nad : a ≠ d := ne_of_none ha nd
  walk_at "go"
  refine for_enum (R := fun x (i : Int) => x = .int i) (h := by walk_at "hp") (pr := paired_map ns) (fun pre σ' H' => Same H H' ∧ (∃ u v : Option V, σ' = [some (.ref g), some (.ref a), some (.ref d), u, v, none, none, none]) ∧
    ∃ m, H' d = some (.dK (dI m)) ∧ m.length ≤ pre.length ∧ ∀ v, lkp m v = if v ∈ pre then some (pos ns v) else none) ?_ ?_ ?_ ?_
  · exact ⟨Same.new (Same.refl _) nd, ⟨_, _, rfl⟩, [], upd_same, Nat.le_refl _, fun v => by simp [lkp_nil]⟩
  · rintro pre σ' H' _ ⟨sm, _⟩
    exact sm _ _ ha
  · rintro pre x v post σ' H' T e rfl ⟨sm, ⟨u, w, rfl⟩, m, hd, hm, hl⟩ nT
    walk_at "go"
    have hr' := ri.len
    have hlen : pre.length < 41 := by rw [e] at hr'; simp at hr'; omega
    have nv : v ∉ pre := fun z => by
      have r := ri.1
      rw [e] at r
      have := (List.pairwise_append.mp r).2.2 v z v List.mem_cons_self
      omega
    refine g_rdput (by walk_at "hp") (by omega) ?_
    refine ⟨Same.mut (Same.new sm nT) nd, ⟨_, _, rfl⟩, _, upd_same, ?_, fun x => ?_⟩
    · have := putI_len m v (pre.length : Nat)
      simp
      omega
    · rw [lkp_putI]
      by_cases q : x = v
      · subst q
        rw [if_pos rfl, if_pos (by simp), e, pos_at nv]
      · rw [if_neg q, hl]
        simp [q]
  · rintro σ' H1 ⟨sm, ⟨u, w, rfl⟩, m, hd, hm, hl⟩
    walk_at "go"
    intro D nD
    have ndD : d ≠ D := ne_of_none hd nD
    have he1 := sm _ _ he
    have s1 : Same H1 (upd H1 D (.lst [])) := Same.new (Same.refl _) nD
    walk_at "go"
    refine for_rep (R := rPair No H) (h := s1 _ _ he1) (pr := pe) (fun pre σ' H' => (∃ u' v' : Option V, σ' = [some (.ref g), some (.ref a), some (.ref d), u, w, some (.ref D), u', v']) ∧ Col rPair (Trk H) H1 D H' (indE pre ns) ∧ (indE pre ns).length ≤ pre.length) ?_ ?_ ?_ ?_
    · exact ⟨⟨_, _, rfl⟩, Col.nil nD, Nat.le_refl _⟩
    · rintro pre σ' H' _ ⟨_, c, _⟩
      exact c.same _ _ he1
    · rintro pre x p post σ' H' e ⟨t, rfl, _, ht⟩ ⟨⟨u', v', rfl⟩, c, hc⟩
      refine g_gtup2 (c.same _ _ (sm _ _ ht)) ?_
      have hd' := c.same _ _ hd
      walk_at "go"
      have hsm := edges_small good h40
      have e : Es = pre ++ p :: post := e
      have hpl : pre.length < 1601 := by rw [e] at hsm; simp at hsm; omega
      refine g_iteS (fun i1 e1 => ?_) (fun e1 => ?_)
      · walk_at "go"
        refine g_iteS (fun i2 e2 => ?_) (fun e2 => ?_)
        · obtain ⟨_, vs, hv, _⟩ := id c
          walk_at "go"
          refine g_rdget hd' e1 ?_
          walk_at "go"
          refine g_rdget hd' e2 ?_
          walk_at "go"
          intro t2 nt2
          walk_at "go"
          have c2 := c.step rPair.frm (Same.new (o := .tup [V.int i1, V.int i2]) (Same.refl H') nt2)
          refine g_app (by walk_at "hp") (small_of (by have := c.len hv; omega)) ?_
          have m1 : p.1 ∈ ns ∧ i1 = pos ns p.1 := by
            have := hl p.1
            rw [e1] at this
            by_cases q : p.1 ∈ ns
            · rw [if_pos q] at this
              exact ⟨q, Option.some.inj this⟩
            · rw [if_neg q] at this
              cases this
          have m2 : p.2 ∈ ns ∧ i2 = pos ns p.2 := by
            have := hl p.2
            rw [e2] at this
            by_cases q : p.2 ∈ ns
            · rw [if_pos q] at this
              exact ⟨q, Option.some.inj this⟩
            · rw [if_neg q] at this
              cases this
          have ntD : t2 ≠ D := by
            rintro rfl
            rw [hv] at nt2
            cases nt2
          have c3 := c2.app rPair.frm nD (by walk_at "hp") (v := .ref t2) (d := (i1, i2)) ⟨t2, rfl, fun z => z.elim ntD fun z => z ((Same.trans sm c.same).free nt2), upd_same⟩
          have e5 : indE (pre ++ [p]) ns = indE pre ns ++ [(i1, i2)] := by
            rw [indE_snoc, if_pos ⟨m1.1, m2.1⟩, m1.2, m2.2]
          refine ⟨⟨_, _, rfl⟩, ?_, ?_⟩
          · rw [e5]
            exact c3
          · rw [e5]
            simp
            omega
        · walk_at "go"
          have q : ¬ (p.1 ∈ ns ∧ p.2 ∈ ns) := fun z => by
            have := hl p.2
            rw [e2, if_pos z.2] at this
            cases this
          refine ⟨⟨_, _, rfl⟩, ?_⟩
          rw [indE_snoc, if_neg q, List.append_nil]
          exact ⟨c, by simp; omega⟩
      · walk_at "go"
        have q : ¬ (p.1 ∈ ns ∧ p.2 ∈ ns) := fun z => by
          have := hl p.1
          rw [e1, if_pos z.1] at this
          cases this
        refine ⟨⟨_, _, rfl⟩, ?_⟩
        rw [indE_snoc, if_neg q, List.append_nil]
        exact ⟨c, by simp; omega⟩
    · rintro σ' H' ⟨⟨u', v', rfl⟩, c, hc⟩
      have s2 := Same.trans sm c.same
      have ha' := s2 _ _ ha
      walk_at "go"
      refine g_make ?_
      walk_at "go"
      refine g_mkR ?_
      have q := c.done rPair.frm (fun z => z (sm.free nD))
      refine ⟨ns.length, .ref D, indE Es ns, Trk H, rfl, q, fun b hb z => ?_, indE_good ri.1 good, Nat.le_trans ri.len h40, fun H2 v s3 r => k H2 v (Same.trans s2 s3) r⟩
      exact hb (s2.free z)
/-! ### Graph.without -/
/-- the other nodes -/
def outside (n : Nat) (ns : List Int) : List Int := ((List.range n).map fun (i : Nat) => (i : Int)).filter fun v => decide (v ∉ ns)
theorem mem_outside {n : Nat} {ns : List Int} {v : Int} : v ∈ outside n ns ↔ (0 ≤ v ∧ v < n) ∧ v ∉ ns := by
  unfold outside
  rw [List.mem_filter, List.mem_map]
  simp only [decide_eq_true_eq, List.mem_range]
  constructor
  · rintro ⟨⟨i, hi, rfl⟩, h⟩
    exact ⟨⟨by omega, by omega⟩, h⟩
  · rintro ⟨⟨h0, h1⟩, h⟩
    exact ⟨⟨v.toNat, by omega, by omega⟩, h⟩
theorem range_rise (n : Nat) : ((List.range n).map fun (i : Nat) => (i : Int)).Pairwise (· < ·) := by
  rw [List.pairwise_map]
  exact List.pairwise_lt_range.imp fun h => by omega
theorem outside_rising (n : Nat) (ns : List Int) : Rising n (outside n ns) := ⟨(range_rise n).sublist List.filter_sublist, fun _ hx => (mem_outside.mp hx).1⟩
theorem range_snoc (i : Nat) (ns : List Int) : outside (i + 1) ns = outside i ns ++ (if (i : Int) ∈ ns then [] else [(i : Int)]) := by
  unfold outside
  rw [List.range_succ, List.map_append, List.filter_append]
  congr 1
  by_cases h : (i : Int) ∈ ns <;> simp [h]
def sp_Graph_without (K : PySem.W.Frag) : Sp := fun vs H Q _ => ∃ (g l : V) (n : Nat) (Es : List (Int × Int)) (ns : List Int), vs = [g, l] ∧ rGraph K No H g (n, Es) ∧ rInts No H l ns ∧ GoodE n Es ∧ n ≤ 40 ∧ Rising n ns ∧
  ∀ H' v, Same H H' → rGraph K (Trk H) H' v ((outside n ns).length, indE Es (outside n ns)) → Q v H'
theorem sp_Graph_without.len {K : PySem.W.Frag} {vs : List V} {H : Hp} {Q : VK} {E : XK} (h : sp_Graph_without K vs H Q E) : vs.length = (["self", "nodes"] : List Str).length := by
  obtain ⟨g, l, n, Es, ns, rfl, _⟩ := h
  rfl
abbrev N_Graph_without : List Str := ["self", "nodes", "node"]
theorem sc_Graph_without : FnScope N_Graph_without ["self", "nodes"] (defScope s_Graph_without) := ⟨rfl, rfl, rfl, by decide +kernel, rfl, by decide +kernel, by decide +kernel⟩
theorem ok_Graph_without {P : Program} {w : World} {K : PySem.W.Frag} {mg : Str → Option Value} {base : Heap} (W : Hd K mg) : OkM P w K mg base 7 "without" ["self", "nodes"] (sp_Graph_without K) := by
  obtain ⟨fd, F⟩ := W.df_Graph_without
  refine okM_mk F (fun _ _ _ _ _ _ us hl => match us, hl with | [_, _], _ => rfl) ?_
  refine F.ok sc_Graph_without (fun vs H Q E h => sp_Graph_without.len h) (fun cdv A outer s H vs Q E hr h => ⟨_, PSs.nox ((pss_cons (ps_expr (pe_callD (ok_check_list W) (hr.mono (by decide)) (pa_cons (pv 0) (pa_cons (pv 1) pa_nil))))
  (pss_one (ps_ret (pe_methG W (ok_Graph_induced W) W.me_induced (pv 0) (hr.mono (by decide)) (pa_cons (pe_lc (own := [("node", 2)]) (g := gName 2) (tt := _) rfl sc_Graph_without.nd (pi_range1 (by rfl) (W.fr_range) (pa_cons (pe_fld (pv 0) rfl) pa_nil)) (blkOk_by (N := N_Graph_without) (sc := defScope s_Graph_without) (by decide +kernel)) (fun _ _ _ _ _ => pg_name (i := 2) sc_Graph_without.nd rfl (Or.inl rfl)) (fun _ _ _ _ _ => pts_one (pt_cmpR (op_ninK K) (pv 2) (pv 1) (by rfl))) (fun _ _ _ _ _ => (pv 2))) pa_nil)))))), ?_⟩)
  try dsimp only [cxOf, Cx.nox, Cx.wish]
  obtain ⟨gv, lv, n, Es, ns, rfl, rg, ⟨a, rfl, _, ha⟩, good, h40, ri, k⟩ := h
  obtain ⟨g, dx, e, l, rfl, _, hg, re, rl⟩ := id rg
  walk_at "go"
  refine ⟨g, dx, a, n, e, l, ns, rfl, hg, ha, ri, ?_⟩
  walk_at "go"
  refine ⟨g, dx, _, rfl, hg, gfs_no (by decide +kernel) (by decide +kernel) (by decide +kernel), ?_⟩
  walk_at "go"
  refine lc_rng1 (n := (n : Int)) (by omega) (by omega) (fun D i H' => Same H H' ∧ H' D = some (.lst ((outside i ns).map V.int)) ∧ (outside i ns).length ≤ i) ?_ ?_ ?_
  · intro D nD
    exact ⟨Same.new (Same.refl _) nD, upd_same, Nat.le_refl _⟩
  · rintro D i H' nD hi ⟨sm, hD, hl⟩
    have ha' := sm _ _ ha
    walk_at "go"
    refine g_ite (fun h => ?_) (fun h => ?_)
    · walk_at "go"
      refine ⟨_, hD, small_of (by rw [List.length_map]; omega), Same.mut sm nD, ?_, ?_⟩
      · rw [range_snoc, if_neg h, List.map_append]
        exact upd_same
      · rw [range_snoc, if_neg h, List.length_append]
        simp
        omega
    · walk_at "go"
      have h : (i : Int) ∈ ns := Classical.byContradiction fun z => h z
      refine ⟨sm, ?_, ?_⟩
      · rw [range_snoc, if_pos h, List.append_nil]
        exact hD
      · rw [range_snoc, if_pos h, List.append_nil]
        omega
  · rintro D H' nD ⟨sm, hD, hl⟩
    rw [Int.toNat_natCast] at hD
    walk_at "go"
    exact ⟨.ref g, .ref D, n, Es, outside n ns, rfl, rGraph.frm.mv (.same sm) rg, ⟨D, rfl, fun z => z, hD⟩, good, h40, outside_rising n ns, fun H2 v s2 r => k H2 v (Same.trans sm s2) (rGraph.frm.mv (.weak fun b hb z => by
      cases q : H b with
      | none => exact hb q
      | some o => rw [sm _ _ q] at z; cases z) r)⟩

/-! ### reached -/
def sp_reached (K : PySem.W.Frag) : Sp := fun vs H Q _ => ∃ (g cl : V) (n : Nat) (Es : List (Int × Int)) (i : Int), vs = [g, .int i, cl] ∧ rGraph K No H g (n, Es) ∧ rInts No H cl [] ∧ GoodE n Es ∧ n ≤ 40 ∧ 0 ≤ i ∧ i < n ∧
  ∀ H' v (l : List Int), Same H H' → l.Pairwise (· < ·) → (∀ x, x ∈ l ↔ Conn (Adj Es) i x) → (∀ x ∈ l, 0 ≤ x ∧ x < n) → rInts (Trk H) H' v l → Q v H'
theorem sp_reached.len {K : PySem.W.Frag} {vs : List V} {H : Hp} {Q : VK} {E : XK} (h : sp_reached K vs H Q E) : vs.length = (["graph", "start", "closed"] : List Str).length := by
  obtain ⟨g, cl, n, Es, i, rfl, _⟩ := h
  rfl
/-- what has been seen -/
structure Seen (n : Nat) (Es : List (Int × Int)) (s : Int) (l : List Int) (at_ : Nat) : Prop where
  nd : l.Nodup
  st : s ∈ l
  ok : ∀ x ∈ l, (0 ≤ x ∧ x < n) ∧ Conn (Adj Es) s x
  le : at_ ≤ l.length
  done : ∀ (i : Nat) (u : Int), i < at_ → l[i]? = some u → ∀ v, Adj Es u v → v ∈ l
theorem Seen.all {n : Nat} {Es : List (Int × Int)} {s : Int} {l : List Int} (S : Seen n Es s l l.length) (x : Int) : x ∈ l ↔ Conn (Adj Es) s x := by
  refine ⟨fun h => (S.ok x h).2, fun h => ?_⟩
  induction h with
  | refl => exact S.st
  | @step u v _ a ih =>
    obtain ⟨i, hi, e⟩ := List.mem_iff_getElem.mp ih
    exact S.done i u hi (by rw [List.getElem?_eq_getElem hi, e]) v a
theorem get_app {α : Type} {l : List α} {x : α} {i : Nat} {u : α} (h : l[i]? = some u) : (l ++ [x])[i]? = some u := by
  obtain ⟨h1, e⟩ := List.getElem?_eq_some_iff.mp h
  rw [List.getElem?_append_left h1, h]
abbrev N_reached : List Str := ["graph", "start", "closed", "seen", "at", "other"]
theorem sc_reached : FnScope N_reached ["graph", "start", "closed"] (defScope s_reached) := ⟨rfl, rfl, rfl, by decide +kernel, rfl, by decide +kernel, by decide +kernel⟩
theorem ok_reached {P : Program} {w : World} {K : PySem.W.Frag} {mg : Str → Option Value} {base : Heap} (W : Hd K mg) : OkD P w K mg base 1 "reached" ["graph", "start", "closed"] (sp_reached K) := by
  obtain ⟨fd, F⟩ := W.df_reached
  refine okD_mk F W.mg_reached (fun _ _ _ _ _ _ us hl => match us, hl with | [_, _, _], _ => rfl) ?_
  refine F.ok sc_reached (fun vs H Q E h => sp_reached.len h) (fun cdv A outer s H vs Q E hr h => ⟨_, PSs.nox ((pss_cons (ps_set (i := 3) sc_reached.nd rfl (by first | exact .inl rfl | exact .inr rfl) (pe_lst (pa_cons (pv 1) pa_nil)))
  (pss_cons (ps_set (i := 4) sc_reached.nd rfl (by first | exact .inl rfl | exact .inr rfl) pe_int)
  (pss_cons (ps_while PassesOwn.never (pt_cmpR op_lt (pv 4) (pe_callB (call_lenK K) (by rfl) (W.fr_len) PySem.boot_len (pa_cons (pv 3) pa_nil)) (nomark _))
  (pss_cons (ps_for PassesOwn.never rfl (pi_list (pe_ix (ix_listK K) (pe_fld (pv 0) rfl) (pe_ix (ix_listK K) (pv 3) (pv 4) (fun _ _ => rfl)) (fun _ _ => rfl))) (pg_name (i := 5) sc_reached.nd rfl (by first | exact .inl rfl | exact .inr rfl))
  (pss_one (ps_if (PW.pt (pw_and (pt_cmpR (op_ninK K) (pv 5) (pv 3) (by rfl)) (pw_and1 (pt_cmpR (op_ninK K) (pv 5) (pv 2) (by rfl)))))
  (pss_one (ps_expr (pe_bmK K PySem.F.plainAttrs_list PySem.F.slot_list_append PySem.F.type_list_append mt_append (pv 3) (pa_cons (pv 5) pa_nil))))
  pss_nil)))
  (pss_one (ps_aug (i := 4) sc_reached.nd rfl (by first | exact .inl rfl | exact .inr rfl) pe_int ip_add))))
  (pss_one (ps_ret (pe_callB (cr_sortedK K) (by rfl) (W.fr_sorted) (by decide +kernel) (pa_cons (pv 3) pa_nil)))))))), ?_⟩)
  try dsimp only [cxOf, Cx.nox, Cx.wish]
  obtain ⟨gv, cv, n, Es, i, rfl, ⟨g, dx, e, l, rfl, _, hg, re, rl⟩, ⟨c, rfl, _, hc⟩, good, h40, h0, h1, k⟩ := h
  obtain ⟨ls, ⟨la, rfl, _, hla⟩, pl⟩ := rl
  walk_at "go"
  intro D nD
  walk_at "go"
  refine g_wh (fun m σ' H' => Same H H' ∧ ∃ (sn : List Int) (at_ : Nat) (w : Option V), σ' = [some (.ref g), some (.int i), some (.ref c), some (.ref D), some (.int at_), w] ∧ H' D = some (.lst (sn.map V.int)) ∧ Seen n Es i sn at_ ∧ m = n - at_) ⟨n, ?_⟩ ?_
  · refine ⟨Same.new (Same.refl _) nD, [i], 0, none, rfl, upd_same, ⟨by simp, by simp, fun x hx => ?_, Nat.zero_le _, fun j u hj => by omega⟩, rfl⟩
    rw [List.mem_singleton.mp hx]
    exact ⟨⟨h0, h1⟩, .refl⟩
  · rintro m σ' H' ⟨sm, sn, at_, w, rfl, hD, S, rfl⟩
    have hg' := sm _ _ hg
    have hla' := sm _ _ hla
    walk_at "go"
    refine g_ite (fun lt => ?_) (fun nlt => ?_)
    · refine g_whN ?_
      have lt : at_ < sn.length := by omega
      obtain ⟨u, hu⟩ : ∃ u, sn[at_]? = some u := ⟨sn[at_], List.getElem?_eq_getElem lt⟩
      have mu : u ∈ sn := List.mem_of_getElem? hu
      have ru := (S.ok u mu).1
      obtain ⟨x, hx, ⟨b, rfl, _, hb⟩⟩ := Paired.get' pl (links_get (n := n) (E := Es) (v := u.toNat) (by omega))
      have cu : ((u.toNat : Nat) : Int) = u := by omega
      rw [cu] at hb
      walk_at "go"
      refine g_ixI hD (atI_at (by omega) (by rw [Int.toNat_natCast]; exact hu)) ?_
      refine g_ix hla' (atI_at ru.1 hx) ?_
      refine for_ints (sm _ _ hb) (fun pre σ2 H2 => Same H H2 ∧ ∃ (sn2 : List Int) (w : Option V), σ2 = [some (.ref g), some (.int i), some (.ref c), some (.ref D), some (.int at_), w] ∧ H2 D = some (.lst (sn2.map V.int)) ∧ Seen n Es i sn2 at_ ∧ sn2[at_]? = some u ∧ ∀ v ∈ pre, v ∈ sn2) ?_ ?_ ?_ ?_
      · exact ⟨sm, sn, w, rfl, hD, S, hu, by simp⟩
      · rintro pre σ2 H2 _ ⟨sm2, _⟩
        exact sm2 _ _ hb
      · rintro pre v post σ2 H2 e2 ⟨sm2, sn2, w2, rfl, hD2, S2, hu2, hp⟩
        have hc2 : H2 c = some (.lst (([] : List Int).map V.int)) := sm2 _ _ hc
        have av : Adj Es u v := (mem_nb good).mp (by rw [e2]; simp)
        walk_at "go"
        refine g_ite (fun nin => ?_) (fun hin => ?_)
        · walk_at "go"
          refine g_iteP (by simp) ?_
          walk_at "go"
          have rl2 := nd_len S2.nd fun x hx => (S2.ok x hx).1
          refine g_appI hD2 (small_of (by omega)) ?_
          refine ⟨Same.mut sm2 nD, sn2 ++ [v], _, rfl, upd_same, ⟨nd_snoc S2.nd nin, by simp [S2.st], fun x hx => ?_, ?_, fun j y hj hy z az => ?_⟩, get_app hu2, fun x hx => ?_⟩
          · rcases List.mem_append.mp hx with hx | hx
            · exact S2.ok x hx
            · rw [List.mem_singleton.mp hx]
              exact ⟨good.at av.symm, .step (S2.ok u (List.mem_of_getElem? hu2)).2 av⟩
          · have := S2.le
            simp
            omega
          · have hj2 : j < sn2.length := by have := S2.le; omega
            rw [List.getElem?_append_left hj2] at hy
            exact List.mem_append_left _ (S2.done j y hj hy z az)
          · rcases List.mem_append.mp hx with hx | hx
            · exact List.mem_append_left _ (hp x hx)
            · exact List.mem_append_right _ hx
        · walk_at "go"
          have hin : v ∈ sn2 := Classical.byContradiction fun z => hin z
          refine ⟨sm2, sn2, _, rfl, hD2, S2, hu2, fun x hx => ?_⟩
          rcases List.mem_append.mp hx with hx | hx
          · exact hp x hx
          · rw [List.mem_singleton.mp hx]
            exact hin
      · rintro σ2 H2 ⟨sm2, sn2, w2, rfl, hD2, S2, hu2, hp⟩
        walk_at "go"
        have lt2 := (List.getElem?_eq_some_iff.mp hu2).1
        have rl2 := nd_len S2.nd fun x hx => (S2.ok x hx).1
        refine ⟨n - (at_ + 1), by omega, sm2, sn2, at_ + 1, _, rfl, hD2, ⟨S2.nd, S2.st, S2.ok, lt2, fun j y hj hy z az => ?_⟩, rfl⟩
        by_cases q : j = at_
        · subst q
          rw [hu2] at hy
          cases hy
          exact hp z ((mem_nb good).mpr az)
        · exact S2.done j y (by omega) hy z az
    · walk_at "go"
      intro p np
      have e2 : at_ = sn.length := by have := S.le; omega
      subst e2
      refine k _ _ (isort sn) (Same.new sm np) (srt_rise (isort_srt sn) ((isort_perm sn).nodup_iff.mpr S.nd)) (fun x => mem_isort.trans (S.all x)) (fun x hx => (S.ok x (mem_isort.mp hx)).1) ⟨p, rfl, fun z => z (sm.free np), upd_same⟩
/-! ### parts_without, components -/
/-- the parts of a graph -/
structure Parts (n : Nat) (Es : List (Int × Int)) (ps : List (List Int)) (m : Nat) : Prop where
  part : ∀ p ∈ ps, Part (Adj Es) p ∧ ∀ x ∈ p, 0 ≤ x ∧ x < n
  all : ∀ v : Int, 0 ≤ v → v < m → ∃ p ∈ ps, v ∈ p
  apart : ps.Pairwise fun p q => ∀ v ∈ p, v ∉ q
  len : ps.length ≤ m
def sp_parts_without (K : PySem.W.Frag) : Sp := fun vs H Q _ => ∃ (g cl : V) (n : Nat) (Es : List (Int × Int)), vs = [g, cl] ∧ rGraph K No H g (n, Es) ∧ rInts No H cl [] ∧ GoodE n Es ∧ n ≤ 40 ∧
  ∀ H' v ps, Same H H' → Parts n Es ps n → rLst rInts (Trk H) H' v ps → Q v H'
theorem sp_parts_without.len {K : PySem.W.Frag} {vs : List V} {H : Hp} {Q : VK} {E : XK} (h : sp_parts_without K vs H Q E) : vs.length = (["graph", "closed"] : List Str).length := by
  obtain ⟨g, cl, n, Es, rfl, _⟩ := h
  rfl
abbrev N_parts_without : List Str := ["graph", "closed", "found", "done", "node", "part"]
theorem sc_parts_without : FnScope N_parts_without ["graph", "closed"] (defScope s_parts_without) := ⟨rfl, rfl, rfl, by decide +kernel, rfl, by decide +kernel, by decide +kernel⟩
theorem ok_parts_without {P : Program} {w : World} {K : PySem.W.Frag} {mg : Str → Option Value} {base : Heap} (W : Hd K mg) : OkD P w K mg base 2 "parts_without" ["graph", "closed"] (sp_parts_without K) := by
  obtain ⟨fd, F⟩ := W.df_parts_without
  refine okD_mk F W.mg_parts_without (fun _ _ _ _ _ _ us hl => match us, hl with | [_, _], _ => rfl) ?_
  refine F.ok sc_parts_without (fun vs H Q E h => sp_parts_without.len h) (fun cdv A outer s H vs Q E hr h => ⟨_, PSs.nox ((pss_cons (ps_set (i := 2) sc_parts_without.nd rfl (by first | exact .inl rfl | exact .inr rfl) (pe_lst pa_nil))
  (pss_cons (ps_set (i := 3) sc_parts_without.nd rfl (by first | exact .inl rfl | exact .inr rfl) (pe_callTy (call_listK K) (by rfl) (W.fr_list) (by decide +kernel) (pa_cons (pv 1) pa_nil)))
  (pss_cons (ps_for PassesOwn.never rfl (pi_range1 (by rfl) (W.fr_range) (pa_cons (pe_fld (pv 0) rfl) pa_nil)) (pg_name (i := 4) sc_parts_without.nd rfl (by first | exact .inl rfl | exact .inr rfl))
  (pss_one (ps_if (pt_cmpR (op_ninK K) (pv 4) (pv 3) (by rfl))
  (pss_cons (ps_set (i := 5) sc_parts_without.nd rfl (by first | exact .inl rfl | exact .inr rfl) (pe_callD (ok_reached W) (hr.mono (by decide)) (pa_cons (pv 0) (pa_cons (pv 4) (pa_cons (pv 1) pa_nil)))))
  (pss_cons (ps_expr (pe_bmK K PySem.F.plainAttrs_list PySem.F.slot_list_append PySem.F.type_list_append mt_append (pv 2) (pa_cons (pv 5) pa_nil)))
  (pss_one (ps_expr (pe_bmK K PySem.F.plainAttrs_list PySem.F.slot_list_extend PySem.F.type_list_extend mt_extend (pv 3) (pa_cons (pv 5) pa_nil))))))
  pss_nil)))
  (pss_one (ps_ret (pv 2))))))), ?_⟩)
  try dsimp only [cxOf, Cx.nox, Cx.wish]
  obtain ⟨gv, cv, n, Es, rfl, rg, rc, good, h40, k⟩ := h
  obtain ⟨g, dx, e, l, rfl, _, hg, re, rl⟩ := id rg
  obtain ⟨c, rfl, _, hc⟩ := id rc
  walk_at "go"
  intro F nF
  have ncF : c ≠ F := ne_of_none hc nF
  walk_at "go"
  intro Dn nDn
  have nFD : F ≠ Dn := (new_ne nDn).symm
  have nD0 := new_old nDn
  walk_at "go"
  refine for_rng1 (n := (n : Int)) (by omega) (by omega) (fun i σ' H' => (∃ u w : Option V, σ' = [some (.ref g), some (.ref c), some (.ref F), some (.ref Dn), u, w]) ∧
    ∃ ps, Col rInts (fun b => b = Dn ∨ Trk H b) H F H' ps ∧ H' Dn = some (.lst (ps.flatten.map V.int)) ∧ Parts n Es ps i) ?_ ?_ ?_
  · exact ⟨⟨_, _, rfl⟩, [], Col.step rInts.frm (Col.nil nF) (Same.new (Same.refl _) nDn), upd_same, ⟨by simp, fun v h0 h1 => by omega, List.Pairwise.nil, Nat.le_refl _⟩⟩
  · rintro i σ' H' hi ⟨⟨u, w, rfl⟩, ps, cF, hD, P⟩
    have sm := cF.same
    obtain ⟨_, fs, hF, _⟩ := id cF
    walk_at "go"
    refine g_ite (fun nin => ?_) (fun hin => ?_)
    · walk_at "go"
      refine ⟨.ref g, .ref c, n, Es, i, rfl, rGraph.frm.mv (.same sm) rg, rInts.frm.mv (.same sm) rc, good, h40, by omega, hi, fun H2 v l s2 lr lm lb rl2 => ?_⟩
      obtain ⟨p, rfl, np, hp⟩ := rl2
      have np' : H' p = none := Classical.byContradiction fun z => np z
      have cF2 := cF.step rInts.frm s2
      have hF2 := s2 _ _ hF
      have hD2 := s2 _ _ hD
      walk_at "go"
      have pl := cF2.len hF2
      have plen := P.len
      refine g_app hF2 (small_of (by omega)) ?_
      have cF3 := cF2.app rInts.frm nF hF2 (v := .ref p) (d := l) ⟨p, rfl, fun z => by
        rcases z with z | z | z
        · rw [z, hF] at np'; cases np'
        · rw [z, hD] at np'; cases np'
        · exact z (sm.free np'), hp⟩
      have hD3 : upd H2 F (.lst (fs ++ [.ref p])) Dn = some (.lst (ps.flatten.map V.int)) := by rw [upd_ne nFD.symm]; exact hD2
      have hp3 : upd H2 F (.lst (fs ++ [.ref p])) p = some (.lst (l.map V.int)) := by
        rw [upd_ne (fun z => by rw [z, hF] at np'; cases np')]
        exact hp
      walk_at "go"
      have ll : ∀ q ∈ ps ++ [l], q.length ≤ 40 := fun q hq => by
        rcases List.mem_append.mp hq with hq | hq
        · obtain ⟨⟨r, rest, e1, e2, e3⟩, e4⟩ := P.part q hq
          exact Nat.le_trans (nd_len (rise_nd e2) e4) h40
        · rw [List.mem_singleton.mp hq]
          exact Nat.le_trans (nd_len (rise_nd lr) lb) h40
      have fl := flat_len ll
      rw [List.flatten_append, List.length_append, List.length_append] at fl
      simp only [List.flatten_cons, List.flatten_nil, List.append_nil, List.length_cons, List.length_nil] at fl
      refine g_ext hD3 hp3 (size_le (by rw [List.length_map, List.length_map]; omega)) ?_
      rw [← List.map_append]
      refine ⟨⟨_, _, rfl⟩, ps ++ [l], cF3.mut rInts.frm (.inl rfl) nD0 nFD.symm, ?_, ?_, ?_, ?_, ?_⟩
      · rw [List.flatten_append]
        simp
        exact upd_same
      · intro q hq
        rcases List.mem_append.mp hq with hq | hq
        · exact P.part q hq
        · rw [List.mem_singleton.mp hq]
          refine ⟨?_, lb⟩
          cases l with
          | nil => exact absurd ((lm i).mpr .refl) (by simp)
          | cons r rest =>
            refine ⟨r, rest, rfl, lr, fun v => ?_⟩
            have hr := (lm r).mp List.mem_cons_self
            rw [lm v]
            exact ⟨fun z => (hr.symm fun _ _ a => Adj.symm a).trans z, fun z => hr.trans z⟩
      · intro v h0 h1
        by_cases q : v = i
        · exact ⟨l, by simp, by rw [q]; exact (lm i).mpr .refl⟩
        · obtain ⟨p', h2, h3⟩ := P.all v h0 (by omega)
          exact ⟨p', List.mem_append_left _ h2, h3⟩
      · refine List.pairwise_append.mpr ⟨P.apart, by simp, fun q hq r hr v hv hv2 => ?_⟩
        rw [List.mem_singleton.mp hr] at hv2
        obtain ⟨⟨r0, rest, e1, e2, e3⟩, e4⟩ := P.part q hq
        have c1 := (e3 v).mp hv
        have c2 := (lm v).mp hv2
        exact nin (List.mem_flatten.mpr ⟨q, hq, (e3 i).mpr (c1.trans (c2.symm fun _ _ a => Adj.symm a))⟩)
      · simp
        omega
    · walk_at "go"
      have hin := Classical.byContradiction fun z => hin z
      obtain ⟨q, hq, hv⟩ := List.mem_flatten.mp hin
      refine ⟨⟨_, _, rfl⟩, ps, cF, hD, P.part, fun v h0 h1 => ?_, P.apart, by have := P.len; omega⟩
      by_cases q' : v = i
      · exact ⟨q, hq, by rw [q']; exact hv⟩
      · exact P.all v h0 (by omega)
  · rintro σ' H' ⟨⟨u, w, rfl⟩, ps, cF, hD, P⟩
    rw [Int.toNat_natCast] at P
    walk_at "go"
    refine k _ _ ps cF.same P ((rLst.frm rInts.frm).mv (.weak fun _ z => .inr z) (cF.done rInts.frm fun z => z.elim nFD fun z => z nF))
def sp_components (K : PySem.W.Frag) : Sp := fun vs H Q _ => ∃ (g : V) (n : Nat) (Es : List (Int × Int)), vs = [g] ∧ rGraph K No H g (n, Es) ∧ GoodE n Es ∧ n ≤ 40 ∧
  ∀ H' v ps, Same H H' → Parts n Es ps n → rLst rInts (Trk H) H' v ps → Q v H'
theorem sp_components.len {K : PySem.W.Frag} {vs : List V} {H : Hp} {Q : VK} {E : XK} (h : sp_components K vs H Q E) : vs.length = (["graph"] : List Str).length := by
  obtain ⟨g, n, Es, rfl, _⟩ := h
  rfl
abbrev N_components : List Str := ["graph"]
theorem sc_components : FnScope N_components ["graph"] (defScope s_components) := ⟨rfl, rfl, rfl, by decide +kernel, rfl, by decide +kernel, by decide +kernel⟩
theorem ok_components {P : Program} {w : World} {K : PySem.W.Frag} {mg : Str → Option Value} {base : Heap} (W : Hd K mg) : OkD P w K mg base 3 "components" ["graph"] (sp_components K) := by
  obtain ⟨fd, F⟩ := W.df_components
  refine okD_mk F W.mg_components (fun _ _ _ _ _ _ us hl => match us, hl with | [_], _ => rfl) ?_
  refine F.ok sc_components (fun vs H Q E h => sp_components.len h) (fun cdv A outer s H vs Q E hr h => ⟨_, PSs.nox ((pss_one (ps_ret (pe_callD (ok_parts_without W) (hr.mono (by decide)) (pa_cons (pv 0) (pa_cons (pe_lst pa_nil) pa_nil)))))), ?_⟩)
  try dsimp only [cxOf, Cx.nox, Cx.wish]
  obtain ⟨gv, n, Es, rfl, rg, good, h40, k⟩ := h
  walk_at "go"
  intro c nc
  have s1 : Same H (upd H c (.lst [])) := Same.new (Same.refl _) nc
  walk_at "go"
  refine ⟨gv, .ref c, n, Es, rfl, rGraph.frm.mv (.same s1) rg, ⟨c, rfl, fun z => z, upd_same⟩, good, h40, fun H' v ps s2 P r => ?_⟩
  exact k H' v ps (Same.trans s1 s2) P ((rLst.frm rInts.frm).mv (.weak fun b hb z => by
    cases q : H b with
    | none => exact hb q
    | some o => rw [s1 _ _ q] at z; cases z) r)

/-! ### search -/
def sp_search (K : PySem.W.Frag) : Sp := fun vs H Q _ => ∃ (g cl : V) (n : Nat) (Es : List (Int × Int)) (i : Int), vs = [g, .int i, cl] ∧ rGraph K No H g (n, Es) ∧ rInts No H cl [] ∧ GoodE n Es ∧ n ≤ 40 ∧ 0 ≤ i ∧ i < n ∧
  ∀ H' v (D B : Int → Option Int), Same H H' → Srch (Adj Es) i D B → (∀ x, Conn (Adj Es) i x → D x ≠ none) → (∀ x d, D x = some d → (0 ≤ x ∧ x < n) ∧ d < n) → (∀ x y, B x = some y → 0 ≤ y ∧ y < n) → rTup rOpt rOpt (Trk H) H' v ((n, D), (n, B)) → Q v H'
theorem sp_search.len {K : PySem.W.Frag} {vs : List V} {H : Hp} {Q : VK} {E : XK} (h : sp_search K vs H Q E) : vs.length = (["graph", "v", "closed"] : List Str).length := by
  obtain ⟨g, cl, n, Es, i, rfl, _⟩ := h
  rfl
/-- a search that is under way: q is the queue -/
structure Sr (n : Nat) (Es : List (Int × Int)) (s : Int) (D B : Int → Option Int) (q : List Int) (at_ : Nat) : Prop where
  S : Srch (Adj Es) s D B
  nd : q.Nodup
  mem : ∀ x, x ∈ q ↔ D x ≠ none
  ok : ∀ x d, D x = some d → (0 ≤ x ∧ x < n) ∧ d < q.length
  bn : ∀ x, D x = none → B x = none
  le : at_ ≤ q.length
  done : ∀ (i : Nat) (u : Int), i < at_ → q[i]? = some u → ∀ v, Adj Es u v → D v ≠ none
theorem Sr.all {n : Nat} {Es : List (Int × Int)} {s : Int} {D B : Int → Option Int} {q : List Int} (R : Sr n Es s D B q q.length) (x : Int) (h : Conn (Adj Es) s x) : D x ≠ none := by
  induction h with
  | refl => rw [R.S.start]; simp
  | @step u v _ a ih =>
    obtain ⟨i, hi, e⟩ := List.mem_iff_getElem.mp ((R.mem u).mpr ih)
    exact R.done i u hi (by rw [List.getElem?_eq_getElem hi, e]) v a
theorem Sr.small {n : Nat} {Es : List (Int × Int)} {s : Int} {D B : Int → Option Int} {q : List Int} {a : Nat} (R : Sr n Es s D B q a) : q.length ≤ n := nd_len R.nd fun x hx => by
  cases e : D x with
  | none => exact absurd e ((R.mem x).mp hx)
  | some d => exact (R.ok x d e).1
theorem Sr.start {n : Nat} {Es : List (Int × Int)} {s : Int} (h0 : 0 ≤ s) (h1 : s < n) : Sr n Es s (fun j => if j = s then some 0 else none) (fun _ => none) [s] 0 := by
  refine ⟨⟨by simp, fun v d h => ?_, fun v u h => by cases h⟩, by simp, fun x => ?_, fun x d h => ?_, fun _ _ => rfl, Nat.zero_le _, fun i u h => by omega⟩
  · by_cases e : v = s
    · subst e
      simp at h
      subst h
      exact ⟨Int.le_refl _, .refl, .inl rfl⟩
    · simp [e] at h
  · by_cases e : x = s <;> simp [e]
  · by_cases e : x = s
    · subst e
      simp at h
      subst h
      exact ⟨⟨h0, h1⟩, by simp⟩
    · simp [e] at h
theorem Sr.push {n : Nat} {Es : List (Int × Int)} {s : Int} {D B : Int → Option Int} {q : List Int} {a : Nat} (R : Sr n Es s D B q a) (g : GoodE n Es) {u v d : Int} (hu : D u = some d) (av : Adj Es u v) (hv : D v = none) :
    Sr n Es s (fun j => if j = v then some (d + 1) else D j) (fun j => if j = v then some u else B j) (q ++ [v]) a := by
  have us := R.S.tree u d hu
  have nuv : u ≠ v := g.ne av
  have nsv : s ≠ v := fun z => by rw [← z, R.S.start] at hv; cases hv
  refine ⟨⟨?_, fun x e h => ?_, fun x y h => ?_⟩, nd_snoc R.nd (fun z => (R.mem v).mp z hv), fun x => ?_, fun x e h => ?_, fun x h => ?_, by have := R.le; simp; omega, fun i w hi hw z az => ?_⟩
  · simp [nsv, R.S.start]
  · by_cases q : x = v
    · subst q
      simp at h
      subst h
      exact ⟨by omega, .step us.2.1 av, .inr ⟨u, by simp⟩⟩
    · simp [q] at h
      obtain ⟨h1, h2, h3⟩ := R.S.tree x e h
      exact ⟨h1, h2, h3.imp id fun ⟨y, hy⟩ => ⟨y, by simp [q, hy]⟩⟩
  · by_cases q : x = v
    · subst q
      simp at h
      subst h
      exact ⟨av, d, by simp [nuv, hu], by simp⟩
    · simp [q] at h
      obtain ⟨h1, e, h2, h3⟩ := R.S.bef x y h
      have nyv : y ≠ v := fun z => by rw [z, hv] at h2; cases h2
      exact ⟨h1, e, by simp [nyv, h2], by simp [q, h3]⟩
  · rw [List.mem_append, R.mem x]
    by_cases q : x = v <;> simp [q]
  · by_cases q : x = v
    · subst q
      simp at h
      subst h
      have := (R.ok u d hu).2
      exact ⟨g.at av.symm, by simp; omega⟩
    · simp [q] at h
      have := R.ok x e h
      exact ⟨this.1, by simp; omega⟩
  · by_cases q : x = v
    · simp [q] at h
    · simp [q] at h ⊢
      exact R.bn x h
  · have hi2 : i < q.length := by have := R.le; omega
    rw [List.getElem?_append_left hi2] at hw
    by_cases q : z = v
    · simp [q]
    · simp [q]
      exact R.done i w hi hw z az
theorem range_map_none (n : Nat) : (List.range n).map (fun (i : Nat) => optV ((fun _ => none : Int → Option Int) i)) = oV (fun _ => none) n := rfl
theorem oV_snoc (f : Int → Option Int) (n : Nat) : oV f (n + 1) = oV f n ++ [optV (f n)] := by
  unfold oV
  rw [List.range_succ, List.map_append]
  rfl
abbrev N_search : List Str := ["graph", "v", "closed", "away", "before", "queue", "at", "node", "other", "_"]
theorem sc_search : FnScope N_search ["graph", "v", "closed"] (defScope s_search) := ⟨rfl, rfl, rfl, by decide +kernel, rfl, by decide +kernel, by decide +kernel⟩
theorem ok_search {P : Program} {w : World} {K : PySem.W.Frag} {mg : Str → Option Value} {base : Heap} (W : Hd K mg) : OkD P w K mg base 1 "search" ["graph", "v", "closed"] (sp_search K) := by
  obtain ⟨fd, F⟩ := W.df_search
  refine okD_mk F W.mg_search (fun _ _ _ _ _ _ us hl => match us, hl with | [_, _, _], _ => rfl) ?_
  refine F.ok sc_search (fun vs H Q E h => sp_search.len h) (fun cdv A outer s H vs Q E hr h => ⟨_, PSs.nox ((pss_cons (ps_setLc (i := 3) (own := [("_", 9)]) (g := gName 9) rfl sc_search.nd rfl rfl (sw_true rfl rfl rfl (by decide +kernel)) (pi_range1 (by rfl) (W.fr_range) (pa_cons (pe_fld (pv 0) rfl) pa_nil)) (blkOk_by (N := N_search) (sc := defScope s_search) (by decide +kernel)) (fun _ _ _ _ _ => pg_name (i := 9) sc_search.nd rfl (Or.inl rfl)) (fun _ _ _ _ _ => pts_nil) (fun _ _ _ _ _ => pe_non))
  (pss_cons (ps_setLc (i := 4) (own := [("_", 9)]) (g := gName 9) rfl sc_search.nd rfl rfl (sw_true rfl rfl rfl (by decide +kernel)) (pi_range1 (by rfl) (W.fr_range) (pa_cons (pe_fld (pv 0) rfl) pa_nil)) (blkOk_by (N := N_search) (sc := defScope s_search) (by decide +kernel)) (fun _ _ _ _ _ => pg_name (i := 9) sc_search.nd rfl (Or.inl rfl)) (fun _ _ _ _ _ => pts_nil) (fun _ _ _ _ _ => pe_non))
  (pss_cons (ps_asg pe_int (pg_sub (pv 3) (pv 1) set_list (fun _ => rfl)))
  (pss_cons (ps_set (i := 5) sc_search.nd rfl (by first | exact .inl rfl | exact .inr rfl) (pe_lst (pa_cons (pv 1) pa_nil)))
  (pss_cons (ps_set (i := 6) sc_search.nd rfl (by first | exact .inl rfl | exact .inr rfl) pe_int)
  (pss_cons (ps_while PassesOwn.never (pt_cmpR op_lt (pv 6) (pe_callB (call_lenK K) (by rfl) (W.fr_len) PySem.boot_len (pa_cons (pv 5) pa_nil)) (nomark _))
  (pss_cons (ps_set (i := 7) sc_search.nd rfl (by first | exact .inl rfl | exact .inr rfl) (pe_ix (ix_listK K) (pv 5) (pv 6) (fun _ _ => rfl)))
  (pss_cons (ps_for PassesOwn.never rfl (pi_list (pe_ix (ix_listK K) (pe_fld (pv 0) rfl) (pv 7) (fun _ _ => rfl))) (pg_name (i := 8) sc_search.nd rfl (by first | exact .inl rfl | exact .inr rfl))
  (pss_one (ps_if (PW.pt (pw_and (pt_cmpR op_isNq (pe_ix (ix_listK K) (pv 3) (pv 8) (fun _ _ => rfl)) pe_non (nomark _)) (pw_and1 (pt_cmpR (op_ninK K) (pv 8) (pv 2) (by rfl)))))
  (pss_cons (ps_asg (pe_op op_add (pe_ix (ix_listK K) (pv 3) (pv 7) (fun _ _ => rfl)) pe_int) (pg_sub (pv 3) (pv 8) set_list (fun _ => rfl)))
  (pss_cons (ps_asg (pv 7) (pg_sub (pv 4) (pv 8) set_list (fun _ => rfl)))
  (pss_one (ps_expr (pe_bmK K PySem.F.plainAttrs_list PySem.F.slot_list_append PySem.F.type_list_append mt_append (pv 5) (pa_cons (pv 8) pa_nil))))))
  pss_nil)))
  (pss_one (ps_aug (i := 6) sc_search.nd rfl (by first | exact .inl rfl | exact .inr rfl) pe_int ip_add)))))
  (pss_one (ps_ret (pe_tup (pa_cons (pv 3) (pa_cons (pv 4) pa_nil)))))))))))), ?_⟩)
  try dsimp only [cxOf, Cx.nox, Cx.wish]
  obtain ⟨gv, cv, n, Es, i, rfl, ⟨g, dx, e, l, rfl, _, hg, re, rl⟩, ⟨c, rfl, _, hc⟩, good, h40, h0, h1, k⟩ := h
  obtain ⟨ls, ⟨la, rfl, _, hla⟩, pl⟩ := rl
  walk_at "go"
  refine lc_rng1 (n := (n : Int)) (by omega) (by omega) (fun Da j H' => Same H H' ∧ H' Da = some (.lst (oV (fun _ => none) j))) ?_ ?_ ?_
  · intro Da nD
    exact ⟨Same.new (Same.refl _) nD, upd_same⟩
  · rintro Da j H' nD hj ⟨sm, hD⟩
    walk_at "go"
    refine ⟨_, hD, small_of (by rw [oV_len]; omega), Same.mut sm nD, ?_⟩
    rw [oV_snoc]
    exact upd_same
  rintro Da H1 nDa ⟨s1, hDa⟩
  rw [Int.toNat_natCast] at hDa
  have hg1 := s1 _ _ hg
  walk_at "go"
  refine lc_rng1 (n := (n : Int)) (by omega) (by omega) (fun Db j H' => Same H1 H' ∧ H' Db = some (.lst (oV (fun _ => none) j))) ?_ ?_ ?_
  · intro Db nD
    exact ⟨Same.new (Same.refl _) nD, upd_same⟩
  · rintro Db j H' nD hj ⟨sm, hD⟩
    walk_at "go"
    refine ⟨_, hD, small_of (by rw [oV_len]; omega), Same.mut sm nD, ?_⟩
    rw [oV_snoc]
    exact upd_same
  rintro Db H2 nDb ⟨s2, hDb⟩
  rw [Int.toNat_natCast] at hDb
  have hDa2 := s2 _ _ hDa
  have s12 := Same.trans s1 s2
  have nab : Da ≠ Db := ne_of_none hDa nDb
  have nDb0 := s1.free nDb
  walk_at "go"
  refine g_setO (some 0) hDa2 h0 h1 ?_
  have s3 : Same H (upd H2 Da (.lst (oV (fun j => if j = i then some 0 else none) n))) := Same.mut s12 nDa
  have hDb3 : upd H2 Da (.lst (oV (fun j => if j = i then some 0 else none) n)) Db = some (.lst (oV (fun _ => none) n)) := by rw [upd_ne nab.symm]; exact hDb
  have hDa3 : upd H2 Da (.lst (oV (fun j => if j = i then some 0 else none) n)) Da = some (.lst (oV (fun j => if j = i then some 0 else none) n)) := upd_same
  generalize upd H2 Da (.lst (oV (fun j => if j = i then some 0 else none) n)) = H3 at s3 hDb3 hDa3 ⊢
  walk_at "go"
  intro D nD
  have nD0 := s3.free nD
  have naD : Da ≠ D := ne_of_none hDa3 nD
  have nbD : Db ≠ D := ne_of_none hDb3 nD
  walk_at "go"
  refine g_wh (fun m σ' H' => Same H H' ∧ ∃ (q : List Int) (at_ : Nat) (A B : Int → Option Int) (w w2 : Option V), σ' = [some (.ref g), some (.int i), some (.ref c), some (.ref Da), some (.ref Db), some (.ref D), some (.int at_), w, w2, none] ∧
    H' Da = some (.lst (oV A n)) ∧ H' Db = some (.lst (oV B n)) ∧ H' D = some (.lst (q.map V.int)) ∧ Sr n Es i A B q at_ ∧ m = n - at_) ⟨n, ?_⟩ ?_
  · exact ⟨Same.new s3 nD, [i], 0, _, _, none, none, rfl, by rw [upd_ne naD]; exact hDa3, by rw [upd_ne nbD]; exact hDb3, upd_same, Sr.start h0 h1, rfl⟩
  · rintro m σ' H' ⟨sm, q, at_, A, B, w, w2, rfl, ha, hb, hq, R, rfl⟩
    have hg' := sm _ _ hg
    have hla' := sm _ _ hla
    walk_at "go"
    refine g_ite (fun lt => ?_) (fun nlt => ?_)
    · refine g_whN ?_
      have lt : at_ < q.length := by omega
      obtain ⟨u, hu⟩ : ∃ u, q[at_]? = some u := ⟨q[at_], List.getElem?_eq_getElem lt⟩
      obtain ⟨du, hdu⟩ : ∃ d, A u = some d := Option.ne_none_iff_exists'.mp ((R.mem u).mp (List.mem_of_getElem? hu))
      have ru := (R.ok u du hdu).1
      obtain ⟨x, hx, ⟨b, rfl, _, hbb⟩⟩ := Paired.get' pl (links_get (n := n) (E := Es) (v := u.toNat) (by omega))
      have cu : ((u.toNat : Nat) : Int) = u := by omega
      rw [cu] at hbb
      walk_at "go"
      refine g_ixI hq (atI_at (by omega) (by rw [Int.toNat_natCast]; exact hu)) ?_
      walk_at "go"
      refine g_ix hla' (atI_at ru.1 hx) ?_
      refine for_ints (sm _ _ hbb) (fun pre σ2 H2 => Same H H2 ∧ ∃ (q2 : List Int) (A2 B2 : Int → Option Int) (w : Option V), σ2 = [some (.ref g), some (.int i), some (.ref c), some (.ref Da), some (.ref Db), some (.ref D), some (.int at_), some (.int u), w, none] ∧
        H2 Da = some (.lst (oV A2 n)) ∧ H2 Db = some (.lst (oV B2 n)) ∧ H2 D = some (.lst (q2.map V.int)) ∧ Sr n Es i A2 B2 q2 at_ ∧ q2[at_]? = some u ∧ A2 u = some du ∧ ∀ v ∈ pre, A2 v ≠ none) ?_ ?_ ?_ ?_
      · exact ⟨sm, q, A, B, _, rfl, ha, hb, hq, R, hu, hdu, by simp⟩
      · rintro pre σ2 H2 _ ⟨sm2, _⟩
        exact sm2 _ _ hbb
      · rintro pre v post σ2 H4 e2 ⟨sm2, q2, A2, B2, w, rfl, ha2, hb2, hq2, R2, hu2, hdu2, hp⟩
        have av : Adj Es u v := (mem_nb good).mp (by rw [e2]; simp)
        have rv := good.at av.symm
        have hc2 : H4 c = some (.lst (([] : List Int).map V.int)) := sm2 _ _ hc
        walk_at "go"
        refine g_ixO ha2 rv.1 rv.2 ?_
        walk_at "go"
        refine g_ite (fun hn => ?_) (fun hn => ?_)
        · walk_at "go"
          refine g_iteP (by simp) ?_
          walk_at "go"
          refine g_ixO ha2 ru.1 ru.2 ?_
          rw [hdu2, show optV (some du) = V.int du from rfl]
          walk_at "go"
          refine g_setO (some (du + 1)) ha2 rv.1 rv.2 ?_
          have hb3 : upd H4 Da (.lst (oV (fun j => if j = v then some (du + 1) else A2 j) n)) Db = some (.lst (oV B2 n)) := by rw [upd_ne nab.symm]; exact hb2
          have hq3 : upd H4 Da (.lst (oV (fun j => if j = v then some (du + 1) else A2 j) n)) D = some (.lst (q2.map V.int)) := by rw [upd_ne naD.symm]; exact hq2
          walk_at "go"
          refine g_setO (some u) hb3 rv.1 rv.2 ?_
          walk_at "go"
          have R3 := R2.push good hdu2 av hn
          have sml := R2.small
          refine g_appI (xs := q2) (by rw [upd_ne nbD.symm]; exact hq3) (small_of (by omega)) ?_
          refine ⟨Same.mut (Same.mut (Same.mut sm2 nDa) nDb0) nD0, q2 ++ [v], _, _, _, rfl, ?_, ?_, upd_same, R3, get_app hu2, ?_, fun x hx => ?_⟩
          · rw [upd_ne naD, upd_ne nab]
            exact upd_same
          · rw [upd_ne nbD]
            exact upd_same
          · simp [good.ne av, hdu2]
          · by_cases qq : x = v
            · simp [qq]
            · simp [qq]
              rcases List.mem_append.mp hx with hx | hx
              · exact hp x hx
              · exact absurd (List.mem_singleton.mp hx) qq
        · walk_at "go"
          refine ⟨sm2, q2, A2, B2, _, rfl, ha2, hb2, hq2, R2, hu2, hdu2, fun x hx => ?_⟩
          rcases List.mem_append.mp hx with hx | hx
          · exact hp x hx
          · rw [List.mem_singleton.mp hx]
            exact hn
      · rintro σ2 H4 ⟨sm2, q2, A2, B2, w, rfl, ha2, hb2, hq2, R2, hu2, hdu2, hp⟩
        walk_at "go"
        have lt2 := (List.getElem?_eq_some_iff.mp hu2).1
        have sml := R2.small
        refine ⟨n - (at_ + 1), by omega, sm2, q2, at_ + 1, A2, B2, _, _, rfl, ha2, hb2, hq2, ⟨R2.S, R2.nd, R2.mem, R2.ok, R2.bn, lt2, fun j y hj hy z az => ?_⟩, rfl⟩
        by_cases qq : j = at_
        · subst qq
          rw [hu2] at hy
          cases hy
          exact hp z ((mem_nb good).mpr az)
        · exact R2.done j y (by omega) hy z az
    · walk_at "go"
      intro t nt
      have e2 : at_ = q.length := by have := R.le; omega
      subst e2
      have sml := R.small
      refine k _ _ A B (Same.new sm nt) R.S R.all (fun x d h => ⟨(R.ok x d h).1, by have := (R.ok x d h).2; omega⟩) (fun x y h => ?_) ⟨_, _, ⟨t, rfl, fun z => z (sm.free nt), upd_same⟩, ⟨Da, rfl, fun z => z nDa, ?_⟩, ⟨Db, rfl, fun z => z nDb0, ?_⟩⟩
      · obtain ⟨_, d, h2, _⟩ := R.S.bef x y h
        exact (R.ok y d h2).1
      · rw [upd_ne (ne_of_none ha nt)]
        exact ha
      · rw [upd_ne (ne_of_none hb nt)]
        exact hb

/-! ### trail, round_trip -/
/-- the nodes before lead down -/
def Down (n : Nat) (B : Int → Option Int) (rk : Int → Nat) : Prop := ∀ x y, B x = some y → (0 ≤ y ∧ y < n) ∧ rk y < rk x
def sp_trail (K : PySem.W.Frag) : Sp := fun vs H Q _ => ∃ (b : V) (n : Nat) (B : Int → Option Int) (rk : Int → Nat) (i : Int), vs = [b, .int i] ∧ rOpt No H b (n, B) ∧ Down n B rk ∧ 0 ≤ i ∧ i < n ∧ rk i ≤ 1000 ∧
  ∀ H' v l, Same H H' → l.length ≤ 1001 → rInts (Trk H) H' v l → Q v H'
theorem sp_trail.len {K : PySem.W.Frag} {vs : List V} {H : Hp} {Q : VK} {E : XK} (h : sp_trail K vs H Q E) : vs.length = (["before", "node"] : List Str).length := by
  obtain ⟨b, n, B, rk, i, rfl, _⟩ := h
  rfl
theorem atI_neg {α : Type} (ys : List α) (x : α) : atI (ys ++ [x]) (-1) = some x := atI_last ys x
theorem g_last {K : PySem.W.Frag} {H : Hp} {Q : VK} {a : Addr} {ys : List Int} {x : Int} (h : H a = some (.lst ((ys ++ [x]).map V.int))) (k : Q (.int x) H) : rIxL K (.ref a) (.int (-1)) H Q := g_ixI h (atI_neg ys x) k
abbrev N_trail : List Str := ["before", "node", "path"]
theorem sc_trail : FnScope N_trail ["before", "node"] (defScope s_trail) := ⟨rfl, rfl, rfl, by decide +kernel, rfl, by decide +kernel, by decide +kernel⟩
theorem ok_trail {P : Program} {w : World} {K : PySem.W.Frag} {mg : Str → Option Value} {base : Heap} (W : Hd K mg) : OkD P w K mg base 1 "trail" ["before", "node"] (sp_trail K) := by
  obtain ⟨fd, F⟩ := W.df_trail
  refine okD_mk F W.mg_trail (fun _ _ _ _ _ _ us hl => match us, hl with | [_, _], _ => rfl) ?_
  refine F.ok sc_trail (fun vs H Q E h => sp_trail.len h) (fun cdv A outer s H vs Q E hr h => ⟨_, PSs.nox ((pss_cons (ps_set (i := 2) sc_trail.nd rfl (by first | exact .inl rfl | exact .inr rfl) (pe_lst (pa_cons (pv 1) pa_nil)))
  (pss_cons (ps_while PassesOwn.never (pt_cmpR op_notNq (pe_ix (ix_listK K) (pv 0) (pe_ix (ix_listK K) (pv 2) (pe_un un_neg pe_int) (fun _ _ => rfl)) (fun _ _ => rfl)) pe_non (nomark _))
  (pss_one (ps_expr (pe_bmK K PySem.F.plainAttrs_list PySem.F.slot_list_append PySem.F.type_list_append mt_append (pv 2) (pa_cons (pe_ix (ix_listK K) (pv 0) (pe_ix (ix_listK K) (pv 2) (pe_un un_neg pe_int) (fun _ _ => rfl)) (fun _ _ => rfl)) pa_nil)))))
  (pss_one (ps_ret (pe_revL (pv 2))))))), ?_⟩)
  try dsimp only [cxOf, Cx.nox, Cx.wish]
  obtain ⟨bv, n, B, rk, i, rfl, ⟨b, rfl, _, hb⟩, dn, h0, h1, hk, k⟩ := h
  walk_at "go"
  intro P nP
  walk_at "go"
  refine g_wh (fun m σ' H' => Same H H' ∧ ∃ (ys : List Int) (x : Int), σ' = [some (.ref b), some (.int i), some (.ref P)] ∧ H' P = some (.lst ((ys ++ [x]).map V.int)) ∧ 0 ≤ x ∧ x < n ∧ ys.length + rk x ≤ rk i ∧ m = rk x) ⟨rk i, ?_⟩ ?_
  · exact ⟨Same.new (Same.refl _) nP, [], i, rfl, upd_same, h0, h1, by simp, rfl⟩
  · rintro m σ' H' ⟨sm, ys, x, rfl, hP, x0, x1, hl, rfl⟩
    have hb' := sm _ _ hb
    walk_at "go"
    refine g_last hP ?_
    refine g_ixO hb' x0 x1 ?_
    walk_at "go"
    refine g_ite (fun hn => ?_) (fun hn => ?_)
    · obtain ⟨y, hy⟩ := Option.ne_none_iff_exists'.mp hn
      obtain ⟨⟨y0, y1⟩, hr2⟩ := dn x y hy
      refine g_whN ?_
      walk_at "go"
      refine g_last hP ?_
      refine g_ixO hb' x0 x1 ?_
      rw [hy, show optV (some y) = V.int y from rfl]
      walk_at "go"
      refine g_appI hP (small_of (by simp; omega)) ?_
      exact ⟨rk y, hr2, Same.mut sm nP, ys ++ [x], y, rfl, upd_same, y0, y1, by simp; omega, rfl⟩
    · walk_at "go"
      refine ⟨P, _, rfl, sq_of hP, fun p np => ?_⟩
      refine k _ _ (ys ++ [x]).reverse (Same.new sm np) (by simp; omega) ⟨p, rfl, fun z => z (sm.free np), ?_⟩
      rw [List.map_reverse]
      exact upd_same
def sp_round_trip (K : PySem.W.Frag) : Sp := fun vs H Q _ => ∃ (b : V) (n : Nat) (B : Int → Option Int) (rk : Int → Nat) (i j : Int), vs = [b, .int i, .int j] ∧ rOpt No H b (n, B) ∧ Down n B rk ∧ (0 ≤ i ∧ i < n ∧ rk i ≤ 1000) ∧ (0 ≤ j ∧ j < n ∧ rk j ≤ 1000) ∧
  ∀ H' v, Same H H' → Q v H'
theorem sp_round_trip.len {K : PySem.W.Frag} {vs : List V} {H : Hp} {Q : VK} {E : XK} (h : sp_round_trip K vs H Q E) : vs.length = (["before", "first", "second"] : List Str).length := by
  obtain ⟨b, n, B, rk, i, j, rfl, _⟩ := h
  rfl
abbrev N_round_trip : List Str := ["before", "first", "second", "one", "two", "shared"]
theorem sc_round_trip : FnScope N_round_trip ["before", "first", "second"] (defScope s_round_trip) := ⟨rfl, rfl, rfl, by decide +kernel, rfl, by decide +kernel, by decide +kernel⟩
theorem ok_round_trip {P : Program} {w : World} {K : PySem.W.Frag} {mg : Str → Option Value} {base : Heap} (W : Hd K mg) : OkD P w K mg base 2 "round_trip" ["before", "first", "second"] (sp_round_trip K) := by
  obtain ⟨fd, F⟩ := W.df_round_trip
  refine okD_mk F W.mg_round_trip (fun _ _ _ _ _ _ us hl => match us, hl with | [_, _, _], _ => rfl) ?_
  refine F.ok sc_round_trip (fun vs H Q E h => sp_round_trip.len h) (fun cdv A outer s H vs Q E hr h => ⟨_, PSs.nox ((pss_cons (ps_set (i := 3) sc_round_trip.nd rfl (by first | exact .inl rfl | exact .inr rfl) (pe_callD (ok_trail W) (hr.mono (by decide)) (pa_cons (pv 0) (pa_cons (pv 1) pa_nil))))
  (pss_cons (ps_set (i := 4) sc_round_trip.nd rfl (by first | exact .inl rfl | exact .inr rfl) (pe_callD (ok_trail W) (hr.mono (by decide)) (pa_cons (pv 0) (pa_cons (pv 2) pa_nil))))
  (pss_cons (ps_set (i := 5) sc_round_trip.nd rfl (by first | exact .inl rfl | exact .inr rfl) pe_int)
  (pss_cons (ps_while PassesOwn.never (PW.pt (pw_and (pt_cmpR op_lt (pv 5) (pe_callB (call_min2q rfl) (by rfl) (W.fr_min) (by decide +kernel) (pa_cons (pe_callB (call_lenK K) (by rfl) (W.fr_len) PySem.boot_len (pa_cons (pv 3) pa_nil)) (pa_cons (pe_callB (call_lenK K) (by rfl) (W.fr_len) PySem.boot_len (pa_cons (pv 4) pa_nil)) pa_nil))) (nomark _)) (pw_and1 (pt_cmpR op_eq (pe_ix (ix_listK K) (pv 3) (pv 5) (fun _ _ => rfl)) (pe_ix (ix_listK K) (pv 4) (pv 5) (fun _ _ => rfl)) (nomark _)))))
  (pss_one (ps_aug (i := 5) sc_round_trip.nd rfl (by first | exact .inl rfl | exact .inr rfl) pe_int ip_add)))
  (pss_one (ps_ret (pe_op op_cat (pe_slice (sl_listK K) (pv 3) (po_some (pe_op op_sub (pv 5) pe_int)) po_none) (pe_revL (pe_slice (sl_listK K) (pv 4) (po_some (pv 5)) po_none)))))))))), ?_⟩)
  try dsimp only [cxOf, Cx.nox, Cx.wish]
  obtain ⟨bv, n, B, rk, i, j, rfl, rb, dn, ⟨i0, i1, ik⟩, ⟨j0, j1, jk⟩, k⟩ := h
  obtain ⟨b, rfl, _, hb⟩ := id rb
  walk_at "go"
  refine ⟨.ref b, n, B, rk, i, rfl, rb, dn, i0, i1, ik, fun H1 v l1 s1 z1 r1 => ?_⟩
  obtain ⟨p1, rfl, np1, hp1⟩ := r1
  walk_at "go"
  refine ⟨.ref b, n, B, rk, j, rfl, rOpt.frm.mv (.same s1) rb, dn, j0, j1, jk, fun H2 v l2 s2 z2 r2 => ?_⟩
  obtain ⟨p2, rfl, np2, hp2⟩ := r2
  have hp1' := s2 _ _ hp1
  have s12 := Same.trans s1 s2
  walk_at "go"
  refine g_wh (fun m σ' H' => H' = H2 ∧ ∃ (s : Nat), σ' = [some (.ref b), some (.int i), some (.int j), some (.ref p1), some (.ref p2), some (.int s)] ∧ s ≤ l1.length ∧ s ≤ l2.length ∧ m = l1.length - s) ⟨l1.length, ?_⟩ ?_
  · exact ⟨rfl, 0, rfl, Nat.zero_le _, Nat.zero_le _, rfl⟩
  · rintro m σ' H' ⟨rfl, s, rfl, a1, a2, rfl⟩
    walk_at "go"
    refine g_ite (fun lt => ?_) (fun nlt => ?_)
    · have b1 : s < l1.length := by omega
      have b2 : s < l2.length := by omega
      walk_at "go"
      refine g_ixI hp1' (atI_at (by omega) (by rw [Int.toNat_natCast]; exact List.getElem?_eq_getElem b1)) ?_
      walk_at "go"
      refine g_ixI hp2 (atI_at (by omega) (by rw [Int.toNat_natCast]; exact List.getElem?_eq_getElem b2)) ?_
      walk_at "go"
      refine g_ite (fun eq => ?_) (fun neq => ?_)
      · refine g_whN ?_
        walk_at "go"
        exact ⟨l1.length - (s + 1), by omega, rfl, s + 1, rfl, b1, b2, rfl⟩
      · walk_at "go"
        intro q1 nq1
        walk_at "go"
        intro q2 nq2
        walk_at "go"
        refine ⟨q2, _, rfl, sq_of upd_same, fun q3 nq3 => ?_⟩
        refine g_cat (by walk_at "hp") upd_same (size_le ?_) fun q4 nq4 => ?_
        · have c1 := cutV_length (l1.map V.int) (some ((s : Int) - 1)) none
          have c2 := cutV_length (l2.map V.int) (some (s : Int)) none
          rw [List.length_map] at c1 c2
          rw [List.length_reverse]
          omega
        · exact k _ _ (Same.new (Same.new (Same.new (Same.new s12 nq1) nq2) nq3) nq4)
    · walk_at "go"
      intro q1 nq1
      walk_at "go"
      intro q2 nq2
      walk_at "go"
      refine ⟨q2, _, rfl, sq_of upd_same, fun q3 nq3 => ?_⟩
      refine g_cat (by walk_at "hp") upd_same (size_le ?_) fun q4 nq4 => ?_
      · have c1 := cutV_length (l1.map V.int) (some ((s : Int) - 1)) none
        have c2 := cutV_length (l2.map V.int) (some (s : Int)) none
        rw [List.length_map] at c1 c2
        rw [List.length_reverse]
        omega
      · exact k _ _ (Same.new (Same.new (Same.new (Same.new s12 nq1) nq2) nq3) nq4)

/-! ### two_colours -/
theorem trk_of {H : Hp} {a : Addr} {o : HO} (h : H a = some o) : Trk H a := fun z => by rw [h] at z; cases z
abbrev Nd (n : Nat) : Int → Prop := fun v => 0 ≤ v ∧ v < n
def cols (n : Nat) (col : Int → Int) : List Int := (List.range n).map fun (i : Nat) => col i
/-- what two_colours hands back: t the tuple -/
def TwoC (n : Nat) (Es : List (Int × Int)) (M : Av) (H : Hp) (v : V) : Prop :=
  (∃ col, Canon (Adj Es) (Nd n) col ∧ ∃ x, AtT M H v [x, .non] ∧ rInts M H x (cols n col)) ∨ (¬ Bip (Adj Es) ∧ ∃ x, AtT M H v [.non, x])
def sp_two_colours (K : PySem.W.Frag) : Sp := fun vs H Q _ => ∃ (g : V) (n : Nat) (Es : List (Int × Int)), vs = [g] ∧ rGraph K No H g (n, Es) ∧ GoodE n Es ∧ n ≤ 40 ∧
  ∀ H' v, Same H H' → TwoC n Es (Trk H) H' v → Q v H'
theorem sp_two_colours.len {K : PySem.W.Frag} {vs : List V} {H : Hp} {Q : VK} {E : XK} (h : sp_two_colours K vs H Q E) : vs.length = (["graph"] : List Str).length := by
  obtain ⟨g, n, Es, rfl, _⟩ := h
  rfl
/-- the parts that are coloured -/
structure Done (Es : List (Int × Int)) (C : Int → Option Int) (ps : List (List Int)) : Prop where
  val : ∀ p ∈ ps, ∀ v ∈ p, C v = some 0 ∨ C v = some 1
  head : ∀ p ∈ ps, ∀ r rest, p = r :: rest → C r = some 0
  ok : ∀ p ∈ ps, ∀ u ∈ p, ∀ v, Adj Es u v → C u ≠ C v
theorem Done.canon {n : Nat} {Es : List (Int × Int)} {C : Int → Option Int} {ps : List (List Int)} (D : Done Es C ps) (P : Parts n Es ps n) (g : GoodE n Es) : Canon (Adj Es) (Nd n) (fun v => (C v).getD 0) ∧ ∀ v, Nd n v → ∃ c, C v = some c := by
  have val : ∀ v, Nd n v → C v = some 0 ∨ C v = some 1 := fun v hv => by
    obtain ⟨p, hp, hm⟩ := P.all v hv.1 hv.2
    exact D.val p hp v hm
  refine ⟨⟨fun u v a => ?_, fun v hv => ?_, fun v hv => ?_⟩, fun v hv => (val v hv).elim (fun z => ⟨_, z⟩) fun z => ⟨_, z⟩⟩
  · have hu := g.at a
    have hv := g.at a.symm
    obtain ⟨p, hp, hm⟩ := P.all u hu.1 hu.2
    have ne := D.ok p hp u hm v a
    rcases val u hu with e | e <;> rcases val v hv with f | f <;> rw [e, f] at ne <;> simp [e, f] at ne ⊢
  · rcases val v hv with e | e <;> simp [e]
  · obtain ⟨p, hp, hm⟩ := P.all v hv.1 hv.2
    obtain ⟨⟨r, rest, e, lt, cn⟩, rg⟩ := P.part p hp
    refine ⟨r, rg r (by rw [e]; simp), (cn v).mp hm, by simp [D.head p hp r rest e], fun u hu => ?_⟩
    have mu := (cn u).mpr hu
    rw [e] at mu lt
    rcases List.mem_cons.mp mu with q | q
    · omega
    · have := (List.pairwise_cons.mp lt).1 u q
      omega
abbrev N_two_colours : List Str := ["graph", "colours", "part", "away", "before", "node", "first", "second", "_"]
theorem sc_two_colours : FnScope N_two_colours ["graph"] (defScope s_two_colours) := ⟨rfl, rfl, rfl, by decide +kernel, rfl, by decide +kernel, by decide +kernel⟩
theorem ok_two_colours {P : Program} {w : World} {K : PySem.W.Frag} {mg : Str → Option Value} {base : Heap} (W : Hd K mg) : OkD P w K mg base 4 "two_colours" ["graph"] (sp_two_colours K) := by
  obtain ⟨fd, F⟩ := W.df_two_colours
  refine okD_mk F W.mg_two_colours (fun _ _ _ _ _ _ us hl => match us, hl with | [_], _ => rfl) ?_
  refine F.ok sc_two_colours (fun vs H Q E h => sp_two_colours.len h) (fun cdv A outer s H vs Q E hr h => ⟨_, PSs.nox ((pss_cons (ps_setLc (i := 1) (own := [("_", 8)]) (g := gName 8) rfl sc_two_colours.nd rfl rfl (sw_true rfl rfl rfl (by decide +kernel)) (pi_range1 (by rfl) (W.fr_range) (pa_cons (pe_fld (pv 0) rfl) pa_nil)) (blkOk_by (N := N_two_colours) (sc := defScope s_two_colours) (by decide +kernel)) (fun _ _ _ _ _ => pg_name (i := 8) sc_two_colours.nd rfl (Or.inl rfl)) (fun _ _ _ _ _ => pts_nil) (fun _ _ _ _ _ => pe_non))
  (pss_cons (ps_for PassesOwn.never rfl (pi_list (pe_callD (ok_components W) (hr.mono (by decide)) (pa_cons (pv 0) pa_nil))) (pg_name (i := 2) sc_two_colours.nd rfl (by first | exact .inl rfl | exact .inr rfl))
  (pss_cons (ps_asg (pe_callD (ok_search W) (hr.mono (by decide)) (pa_cons (pv 0) (pa_cons (pe_ix (ix_listK K) (pv 2) pe_int (fun _ _ => rfl)) (pa_cons (pe_lst pa_nil) pa_nil)))) (pg_tupK K (n := 2) rfl (pgs_cons (pg_name (i := 3) sc_two_colours.nd rfl (by first | exact .inl rfl | exact .inr rfl)) (pgs_cons (pg_name (i := 4) sc_two_colours.nd rfl (by first | exact .inl rfl | exact .inr rfl)) pgs_nil))))
  (pss_cons (ps_for PassesOwn.never rfl (pi_list (pv 2)) (pg_name (i := 5) sc_two_colours.nd rfl (by first | exact .inl rfl | exact .inr rfl))
  (pss_one (ps_asg (pe_op op_mod (pe_ix (ix_listK K) (pv 3) (pv 5) (fun _ _ => rfl)) pe_int) (pg_sub (pv 1) (pv 5) set_list (fun _ => rfl)))))
  (pss_one (ps_for PassesOwn.never rfl (pi_list (pe_fld (pv 0) rfl)) (pg_tupK K (n := 2) rfl (pgs_cons (pg_name (i := 6) sc_two_colours.nd rfl (by first | exact .inl rfl | exact .inr rfl)) (pgs_cons (pg_name (i := 7) sc_two_colours.nd rfl (by first | exact .inl rfl | exact .inr rfl)) pgs_nil)))
  (pss_one (ps_if (PW.pt (pw_and (pt_cmpR op_notNq (pe_ix (ix_listK K) (pv 3) (pv 6) (fun _ _ => rfl)) pe_non (nomark _)) (pw_and1 (pt_cmpR op_eq (pe_ix (ix_listK K) (pv 1) (pv 6) (fun _ _ => rfl)) (pe_ix (ix_listK K) (pv 1) (pv 7) (fun _ _ => rfl)) (nomark _)))))
  (pss_one (ps_ret (pe_tup (pa_cons pe_non (pa_cons (pe_callD (ok_round_trip W) (hr.mono (by decide)) (pa_cons (pv 4) (pa_cons (pv 6) (pa_cons (pv 7) pa_nil)))) pa_nil)))))
  pss_nil)))))))
  (pss_one (ps_ret (pe_tup (pa_cons (pv 1) (pa_cons pe_non pa_nil)))))))), ?_⟩)
  try dsimp only [cxOf, Cx.nox, Cx.wish]
  obtain ⟨gv, n, Es, rfl, rg, good, h40, k⟩ := h
  obtain ⟨g, dx, e, l, rfl, _, hg, re, rl⟩ := id rg
  obtain ⟨es, ⟨ea, rfl, _, he⟩, pe⟩ := re
  walk_at "go"
  refine lc_rng1 (n := (n : Int)) (by omega) (by omega) (fun Da j H' => Same H H' ∧ H' Da = some (.lst (oV (fun _ => none) j))) ?_ ?_ ?_
  · intro Da nD
    exact ⟨Same.new (Same.refl _) nD, upd_same⟩
  · rintro Da j H' nD hj ⟨sm, hD⟩
    walk_at "go"
    refine ⟨_, hD, small_of (by rw [oV_len]; omega), Same.mut sm nD, ?_⟩
    rw [oV_snoc]
    exact upd_same
  rintro Dc H1 nDc ⟨s1, hDc⟩
  rw [Int.toNat_natCast] at hDc
  walk_at "go"
  refine ⟨.ref g, n, Es, rfl, rGraph.frm.mv (.same s1) rg, good, h40, fun H2 v ps s2 P rp => ?_⟩
  obtain ⟨pvs, ⟨pa, rfl, npa, hpa⟩, pp⟩ := rp
  have hDc2 := s2 _ _ hDc
  have s12 := Same.trans s1 s2
  walk_at "go"
  -- all that stands behind the parts' making, but the colours: Hb off Dc
  have prs : Paired (rInts (Trk H1) H2) pvs ps := pp
  have npD : pa ≠ Dc := fun z => npa (by rw [z]; exact trk_of hDc)
  refine for_rep (R := fun x p => ∃ b, x = .ref b ∧ b ≠ Dc ∧ H2 b = some (.lst (p.map V.int))) (h := hpa) (pr := L2.Paired.mapP prs fun x p ⟨b, e, nb, hb⟩ => ⟨b, e, fun z => nb (by rw [z]; exact trk_of hDc), hb⟩)
    (fun pre σ' H' => (∃ w1 w2 w3 w4 w5 w6 : Option V, σ' = [some (.ref g), some (.ref Dc), w1, w2, w3, w4, w5, w6, none]) ∧ (∀ b o, b ≠ Dc → H2 b = some o → H' b = some o) ∧ Same H H' ∧ ∃ C, H' Dc = some (.lst (oV C n)) ∧ Done Es C pre) ?_ ?_ ?_ ?_
  · exact ⟨⟨_, _, _, _, _, _, rfl⟩, fun _ _ _ z => z, s12, _, hDc2, ⟨by simp, by simp, by simp⟩⟩
  · rintro pre σ' H' _ ⟨_, kp, _⟩
    exact kp _ _ npD hpa
  · rintro pre x p post σ' H' e3 ⟨b, rfl, nb, hb⟩ ⟨⟨w1, w2, w3, w4, w5, w6, rfl⟩, kp, sm, C, hC, dn⟩
    have mp : p ∈ ps := by rw [e3]; simp
    obtain ⟨⟨r, rest, ep, plt', cn⟩, rng⟩ := P.part p mp
    have rr := rng r (by rw [ep]; simp)
    have hb' := kp _ _ nb hb
    walk_at "go"
    refine g_ixI (n := r) hb' (by rw [ep]; exact at0) ?_
    walk_at "go"
    intro c0 nc0
    have s3 : Same H (upd H' c0 (.lst [])) := Same.new sm nc0
    walk_at "go"
    refine ⟨.ref g, .ref c0, n, Es, r, rfl, rGraph.frm.mv (.same s3) rg, ⟨c0, rfl, fun z => z, upd_same⟩, good, h40, rr.1, rr.2, fun H4 v A B s4 S hall hok hB rt => ?_⟩
    obtain ⟨_, _, ⟨t, rfl, nt, ht⟩, ⟨Da, rfl, nDa, hDa⟩, ⟨Db, rfl, nDb, hDb⟩⟩ := rt
    have s34 := Same.trans s3 s4
    have hDa : H4 Da = some (.lst (oV A n)) := hDa
    have hDb : H4 Db = some (.lst (oV B n)) := hDb
    have hC4 : H4 Dc = some (.lst (oV C n)) := s4 _ _ (hp_new hC nc0)
    have hb4 : H4 b = some (.lst (p.map V.int)) := s4 _ _ (hp_new hb' nc0)
    have nDaD : Da ≠ Dc := fun z => nDa (by rw [z]; exact trk_of (hp_new hC nc0))
    have nDbD : Db ≠ Dc := fun z => nDb (by rw [z]; exact trk_of (hp_new hC nc0))
    have kp4 : ∀ b o, b ≠ Dc → H2 b = some o → H4 b = some o := fun b o nb h => s4 _ _ (hp_new (kp b o nb h) nc0)
    refine g_gtup2 ht ?_
    walk_at "go"
    -- colours[node] = away[node] % 2
    refine for_ints hb4 (fun q σ2 H5 => (∃ w1 w2 w3 : Option V, σ2 = [some (.ref g), some (.ref Dc), some (.ref b), some (.ref Da), some (.ref Db), w1, w2, w3, none]) ∧ (∀ b o, b ≠ Dc → H4 b = some o → H5 b = some o) ∧ Same H H5 ∧
      ∃ C2, H5 Dc = some (.lst (oV C2 n)) ∧ (∀ v, v ∉ p → C2 v = C v) ∧ ∀ v ∈ q, ∃ d, A v = some d ∧ C2 v = some (d % 2)) ?_ ?_ ?_ ?_
    · exact ⟨⟨_, _, _, rfl⟩, fun _ _ _ z => z, s34, C, hC4, fun _ _ => rfl, by simp⟩
    · rintro q σ2 H5 _ ⟨_, kp5, _⟩
      exact kp5 _ _ nb hb4
    · rintro q v post' σ2 H5 e5 ⟨⟨w1, w2, w3, rfl⟩, kp5, sm5, C2, hC5, out, ins⟩
      have mv : v ∈ p := by rw [e5]; simp
      have rv := rng v mv
      obtain ⟨d, hd⟩ := Option.ne_none_iff_exists'.mp (hall v ((cn v).mp mv))
      walk_at "go"
      refine g_ixO (kp5 _ _ nDaD hDa) rv.1 rv.2 ?_
      rw [hd, show optV (some d) = V.int d from rfl]
      walk_at "go"
      show L2.rSetL _ _ (optV (some (d % 2))) _ _
      refine g_setO (some (d % 2)) hC5 rv.1 rv.2 ?_
      refine ⟨⟨_, _, _, rfl⟩, fun b o nb h => by rw [upd_ne nb]; exact kp5 b o nb h, Same.mut sm5 nDc, _, upd_same, fun x hx => ?_, fun x hx => ?_⟩
      · have : ¬ x = v := fun z => hx (z ▸ mv)
        simp [this, out x hx]
      · by_cases qq : x = v
        · subst qq
          exact ⟨d, hd, by simp⟩
        · rcases List.mem_append.mp hx with hx | hx
          · obtain ⟨d', h1, h2⟩ := ins x hx
            exact ⟨d', h1, by simp [qq, h2]⟩
          · exact absurd (List.mem_singleton.mp hx) qq
    · rintro σ2 H5 ⟨⟨w1, w2, w3, rfl⟩, kp5, sm5, C2, hC5, out, ins⟩
      have hDa5 := kp5 _ _ nDaD hDa
      have hg5 := sm5 _ _ hg
      walk_at "go"
      refine for_rep (R := rPair No H) (h := sm5 _ _ he) (pr := pe) (fun q σ3 H6 => H6 = H5 ∧ (∃ w1 w2 : Option V, ∃ w3, σ3 = [some (.ref g), some (.ref Dc), some (.ref b), some (.ref Da), some (.ref Db), w3, w1, w2, none]) ∧ ∀ pr ∈ q, pr.1 ∈ p → C2 pr.1 ≠ C2 pr.2) ?_ ?_ ?_ ?_
      · exact ⟨rfl, ⟨_, _, _, rfl⟩, by simp⟩
      · rintro q σ3 H6 _ ⟨rfl, _⟩
        exact sm5 _ _ he
      · rintro q x pr post' σ3 H6 e6 ⟨t2, rfl, _, ht2⟩ ⟨rfl, ⟨w1, w2, w3, rfl⟩, hq⟩
        have e6 : Es = q ++ pr :: post' := e6
        have gp := good.1 pr (by rw [e6]; simp)
        have ap : Adj Es pr.1 pr.2 := .inl (by rw [e6]; simp)
        refine g_gtup2 (sm5 _ _ ht2) ?_
        walk_at "go"
        refine g_ixO hDa5 gp.1 (by omega) ?_
        walk_at "go"
        refine g_ite (fun hn => ?_) (fun hn => ?_)
        · obtain ⟨d1, hd1⟩ := Option.ne_none_iff_exists'.mp hn
          have m1 : pr.1 ∈ p := (cn _).mpr (S.tree _ _ hd1).2.1
          have m2 : pr.2 ∈ p := (cn _).mpr (.step ((cn _).mp m1) ap)
          obtain ⟨x1, hx1, c1⟩ := ins _ m1
          obtain ⟨x2, hx2, c2⟩ := ins _ m2
          walk_at "go"
          refine g_ixO hC5 gp.1 (by omega) ?_
          walk_at "go"
          refine g_ixO hC5 (by omega) (by omega) ?_
          rw [c1, c2, show optV (some (x1 % 2)) = V.int (x1 % 2) from rfl, show optV (some (x2 % 2)) = V.int (x2 % 2) from rfl]
          walk_at "go"
          refine g_ite (fun eq => ?_) (fun neq => ?_)
          · have nb2 : ¬ Bip (Adj Es) := fun ⟨c, hc⟩ => by
              have q1 := S.par hc x1.toNat _ x1 rfl hx1
              have q2 := S.par hc x2.toNat _ x2 rfl hx2
              have ne := hc _ _ ap
              by_cases z : x1 % 2 = 0
              · exact ne ((q1.mpr z).trans (q2.mpr (by omega)).symm)
              · have z2 : ¬ x2 % 2 = 0 := by omega
                have t1 : ¬ c pr.1 = c r := fun y => z (q1.mp y)
                have t2 : ¬ c pr.2 = c r := fun y => z2 (q2.mp y)
                cases h1 : c pr.1 <;> cases h2 : c pr.2 <;> cases h3 : c r <;> simp_all
            walk_at "go"
            refine ⟨.ref Db, n, B, fun v => ((A v).getD 0).toNat, pr.1, pr.2, rfl, ⟨Db, rfl, fun z => z, kp5 _ _ nDbD hDb⟩, fun x y h => ⟨hB x y h, ?_⟩, ⟨gp.1, by omega, ?_⟩, ⟨by omega, by omega, ?_⟩, fun H7 v s7 => ?_⟩
            · obtain ⟨_, d', f1, f2⟩ := S.bef x y h
              have := (S.tree y d' f1).1
              simp [f1, f2]
              omega
            · have := (hok _ _ hx1).2
              simp [hx1]
              omega
            · have := (hok _ _ hx2).2
              simp [hx2]
              omega
            · walk_at "go"
              intro t7 nt7
              have s57 := Same.trans sm5 s7
              exact k _ _ (Same.new s57 nt7) (.inr ⟨nb2, v, t7, rfl, fun z => z (s57.free nt7), upd_same⟩)
          · walk_at "go"
            refine ⟨rfl, ⟨_, _, _, rfl⟩, fun y hy h => ?_⟩
            rcases List.mem_append.mp hy with hy | hy
            · exact hq y hy h
            · rw [List.mem_singleton.mp hy, c1, c2]
              intro z
              exact neq (Option.some.inj z)
        · walk_at "go"
          refine ⟨rfl, ⟨_, _, _, rfl⟩, fun y hy h => ?_⟩
          rcases List.mem_append.mp hy with hy | hy
          · exact hq y hy h
          · rw [List.mem_singleton.mp hy] at h
            exact absurd (hall _ ((cn _).mp h)) hn
      · rintro σ3 H6 ⟨rfl, ⟨w1, w2, w3, rfl⟩, hq⟩
        have disj : ∀ p' ∈ pre, ∀ v ∈ p', v ∉ p := fun p' hp' v hv => by
          have q := P.apart
          rw [e3] at q
          exact (List.pairwise_append.mp q).2.2 p' hp' p List.mem_cons_self v hv
        refine ⟨⟨_, _, _, _, _, _, rfl⟩, fun b o nb h => kp5 b o nb (kp4 b o nb h), sm5, C2, hC5, ⟨fun p' hp' v hv => ?_, fun p' hp' r' rest' e' => ?_, fun p' hp' u hu v a => ?_⟩⟩
        · rcases List.mem_append.mp hp' with hp' | hp'
          · rw [out v (disj p' hp' v hv)]
            exact dn.val p' hp' v hv
          · rw [List.mem_singleton.mp hp'] at hv
            obtain ⟨d, _, c1⟩ := ins v hv
            rw [c1]
            have q : d % 2 = 0 ∨ d % 2 = 1 := by omega
            rcases q with z | z <;> simp [z]
        · rcases List.mem_append.mp hp' with hp' | hp'
          · rw [out r' (disj p' hp' r' (by rw [e']; simp))]
            exact dn.head p' hp' r' rest' e'
          · rw [List.mem_singleton.mp hp', ep] at e'
            cases e'
            obtain ⟨d, hd, c1⟩ := ins r (by rw [ep]; simp)
            rw [S.start] at hd
            cases hd
            rw [c1]
            rfl
        · rcases List.mem_append.mp hp' with hp' | hp'
          · have nu := disj p' hp' u hu
            have hv : v ∈ p' := by
              obtain ⟨⟨r0, rest0, e0, _, cn0⟩, _⟩ := P.part p' (by rw [e3]; exact List.mem_append_left _ hp')
              exact (cn0 v).mpr (.step ((cn0 u).mp hu) a)
            rw [out u nu, out v (disj p' hp' v hv)]
            exact dn.ok p' hp' u hu v a
          · rw [List.mem_singleton.mp hp'] at hu
            have hv : v ∈ p := (cn v).mpr (.step ((cn u).mp hu) a)
            rcases a with a | a
            · exact hq _ a hu
            · exact fun z => hq _ a hv z.symm
  · rintro σ' H' ⟨⟨w1, w2, w3, w4, w5, w6, rfl⟩, kp, sm, C, hC, dn⟩
    walk_at "go"
    intro t nt
    obtain ⟨cn, al⟩ := dn.canon P good
    refine k _ _ (Same.new sm nt) (.inl ⟨_, cn, .ref Dc, ⟨t, rfl, fun z => z (sm.free nt), upd_same⟩, ⟨Dc, rfl, fun z => z nDc, ?_⟩⟩)
    rw [upd_ne (ne_of_none hC nt), hC]
    have e9 : oV C n = (cols n fun v => (C v).getD 0).map V.int := by
      unfold oV cols
      rw [List.map_map]
      apply List.map_congr_left
      intro i hi
      obtain ⟨c, hc⟩ := al (i : Int) ⟨by omega, by have := List.mem_range.mp hi; omega⟩
      simp [hc, optV]
    rw [e9]

/-! ### make_graph, graph_outside -/
/-- pairs that are a graph's edges -/
def sp_make_graph (K : PySem.W.Frag) : Sp := fun vs H Q _ => ∃ (n : Nat) (v : V) (Es : List (Int × Int)), vs = [.int n, v] ∧ rLst rPair No H v Es ∧ GoodE n Es ∧ n ≤ 40 ∧ ∀ H' v, Same H H' → rGraph K No H' v (n, Es) → Q v H'
theorem sp_make_graph.len {K : PySem.W.Frag} {vs : List V} {H : Hp} {Q : VK} {E : XK} (h : sp_make_graph K vs H Q E) : vs.length = (["nodes", "pairs"] : List Str).length := by
  obtain ⟨n, v, Es, rfl, _⟩ := h
  rfl
theorem pK_inj {p q : Int × Int} (h : pK p = pK q) : p = q := by
  unfold pK at h
  injection h with h1 h2
  injection h2 with h2 _
  exact Prod.ext (Sum.inl.inj h1) (Sum.inl.inj h2)
theorem good_nil (n : Nat) : GoodE n [] := ⟨by simp, List.Pairwise.nil⟩
abbrev N_make_graph : List Str := ["nodes", "pairs", "found", "pair"]
theorem sc_make_graph : FnScope N_make_graph ["nodes", "pairs"] (defScope s_make_graph) := ⟨rfl, rfl, rfl, by decide +kernel, rfl, by decide +kernel, by decide +kernel⟩
theorem ok_make_graph {P : Program} {w : World} {K : PySem.W.Frag} {mg : Str → Option Value} {base : Heap} (W : Hd K mg) : OkD P w K mg base 6 "make_graph" ["nodes", "pairs"] (sp_make_graph K) := by
  obtain ⟨fd, F⟩ := W.df_make_graph
  refine okD_mk F W.mg_make_graph (fun _ _ _ _ _ _ us hl => match us, hl with | [_, _], _ => rfl) ?_
  refine F.ok sc_make_graph (fun vs H Q E h => sp_make_graph.len h) (fun cdv A outer s H vs Q E hr h => ⟨_, PSs.nox ((pss_cons (ps_expr (pe_callD (ok_check_edges W) (hr.mono (by decide)) (pa_cons (pv 0) (pa_cons (pe_lst pa_nil) pa_nil))))
  (pss_cons (ps_if (pt_not (pt_val (pe_callB (call_isiK K) (by rfl) (W.fr_isinstance) (by decide +kernel) (pa_cons (pv 1) (pa_cons (pe_bltn (v := .ty "list") (by rfl) (W.fr_list) (by decide +kernel) rfl) pa_nil)))))
  (pss_one ps_never)
  pss_nil)
  (pss_cons (ps_set (i := 2) sc_make_graph.nd rfl (by first | exact .inl rfl | exact .inr rfl) pe_dnewT)
  (pss_cons (ps_for PassesOwn.never rfl (pi_list (pv 1)) (pg_name (i := 3) sc_make_graph.nd rfl (by first | exact .inl rfl | exact .inr rfl))
  (pss_cons (ps_if (PW.pt (pw_or (pt_not (pt_val (pe_callB (call_isiK K) (by rfl) (W.fr_isinstance) (by decide +kernel) (pa_cons (pv 3) (pa_cons (pe_bltn (v := .ty "tuple") (by rfl) (W.fr_tuple) (by decide +kernel) rfl) pa_nil))))) (pw_or1 (pt_cmpR op_ne (pe_callB (call_lenK K) (by rfl) (W.fr_len) PySem.boot_len (pa_cons (pv 3) pa_nil)) pe_int (nomark _)))))
  (pss_one ps_never)
  pss_nil)
  (pss_cons (ps_if (PW.pt (pw_or (pt_not (pt_val (pe_callD (ok_is_index W) (hr.mono (by decide)) (pa_cons (pe_ix (ix_tupK K) (pv 3) pe_int (fun _ _ => rfl)) (pa_cons (pv 0) pa_nil))))) (pw_or (pt_not (pt_val (pe_callD (ok_is_index W) (hr.mono (by decide)) (pa_cons (pe_ix (ix_tupK K) (pv 3) pe_int (fun _ _ => rfl)) (pa_cons (pv 0) pa_nil))))) (pw_or1 (pt_cmpR op_eq (pe_ix (ix_tupK K) (pv 3) pe_int (fun _ _ => rfl)) (pe_ix (ix_tupK K) (pv 3) pe_int (fun _ _ => rfl)) (nomark _))))))
  (pss_one ps_never)
  pss_nil)
  (pss_one (ps_dput (hu_of hr) (pv 2) (pe_tup (pa_cons (pe_callB (cr_minT rfl hr.units) (by rfl) (W.fr_min) (by decide +kernel) (pa_cons (pv 3) pa_nil)) (pa_cons (pe_callB (cr_maxT rfl hr.units) (by rfl) (W.fr_max) (by decide +kernel) (pa_cons (pv 3) pa_nil)) pa_nil))) pe_bl rfl)))))
  (pss_one (ps_ret (pe_makeG W (ok_Graph_init W) (hr.mono (by decide)) (pa_cons (pv 0) (pa_cons (pe_callB (cr_sortedTD rfl) (by rfl) (W.fr_sorted) (by decide +kernel) (pa_cons (pv 2) pa_nil)) pa_nil)))))))))), ?_⟩)
  try dsimp only [cxOf, Cx.nox, Cx.wish]
  obtain ⟨n, ev, Es, rfl, ⟨es, ⟨ea, rfl, _, he⟩, pe⟩, good, h40, k⟩ := h
  walk_at "go"
  intro c nc
  have s1 : Same H (upd H c (.lst [])) := Same.new (Same.refl _) nc
  refine ⟨n, .ref c, [], rfl, ⟨[], ⟨c, rfl, fun z => z, upd_same⟩, .nil⟩, good_nil n, h40, fun H1 s2 => ?_⟩
  have s12 := Same.trans s1 s2
  have he1 := s12 _ _ he
  walk_at "go"
  intro F nF
  walk_at "go"
  refine for_rep (R := rPair No H) (h := (Same.new s12 nF) _ _ he) (pr := pe) (fun pre σ' H' => (∃ w : Option V, σ' = [some (.int n), some (.ref ea), some (.ref F), w]) ∧ Same H H' ∧ ∃ kvs, H' F = some (.dT kvs) ∧ kvs.map (·.1) = pre.map pK) ?_ ?_ ?_ ?_
  · exact ⟨⟨_, rfl⟩, Same.new s12 nF, [], upd_same, rfl⟩
  · rintro pre σ' H' _ ⟨_, sm, _⟩
    exact sm _ _ he
  · rintro pre x p post σ' H' e ⟨t, rfl, _, ht⟩ ⟨⟨w, rfl⟩, sm, kvs, hF, hk⟩
    have ht' := sm _ _ ht
    have gp := good.1 p (by rw [e]; simp)
    have hlen := edges_small good h40
    rw [e] at hlen
    simp at hlen
    walk_at "go"
    refine g_iteQ (by simp) ?_
    walk_at "go"
    refine ⟨_, _, rfl, ?_⟩
    walk_at "go"
    refine g_iteNP ⟨by omega, by omega⟩ ?_
    walk_at "go"
    refine ⟨_, _, rfl, ?_⟩
    walk_at "go"
    refine g_iteNP ⟨by omega, by omega⟩ ?_
    walk_at "go"
    refine g_iteQ (by omega) ?_
    walk_at "go"
    intro t2 nt2
    have m1 : min p.1 p.2 = p.1 := by omega
    have m2 : max p.1 p.2 = p.2 := by omega
    rw [m1, m2]
    have kl : kvs.length = pre.length := by simpa using congrArg List.length hk
    refine g_rdputT (by walk_at "hp") upd_same (by omega) ?_
    have nv : valV kvs (pK (p.1, p.2)) = none := by
      cases q : valV kvs (pK (p.1, p.2)) with
      | none => rfl
      | some y =>
        have m := valV_in q
        rw [hk] at m
        obtain ⟨p', hp', e'⟩ := List.mem_map.mp m
        have := pK_inj e'
        have l := gl_plt good.2 e hp'
        rw [this] at l
        exact absurd l (plt_irr _)
    refine ⟨⟨_, rfl⟩, Same.mut (Same.new sm nt2) (s12.free nF), _, upd_same, ?_⟩
    rw [putK_new _ nv, List.map_append, hk, List.map_append]
    rfl
  · rintro σ' H' ⟨⟨w, rfl⟩, sm, kvs, hF, hk⟩
    walk_at "go"
    refine g_make ?_
    walk_at "go"
    refine g_sortTD hF hk good.2 (by have := edges_small good h40; omega) fun p bs np pb => ?_
    walk_at "go"
    refine g_mkR ?_
    have s3 : Same H' (upd H' p (.lst (bs.map V.ref))) := Same.new (Same.refl _) np
    refine ⟨n, .ref p, Es, No, rfl, ⟨_, ⟨p, rfl, fun z => z, upd_same⟩, ?_⟩, fun b z => z.elim, good, h40, fun H2 v s4 r => k H2 v (Same.trans sm (Same.trans s3 s4)) r⟩
    have key : ∀ {bs : List Addr} {ks : List (Int × Int)}, Paired (fun b (k : Int × Int) => H' b = some (.tup [.int k.1, .int k.2])) bs ks → Paired (rPair No (upd H' p (.lst (bs.map V.ref)))) (bs.map V.ref) ks → True := fun _ _ => trivial
    have gen : ∀ {o : HO} {bs : List Addr} {ks : List (Int × Int)}, Paired (fun b (k : Int × Int) => H' b = some (.tup [.int k.1, .int k.2])) bs ks → Paired (rPair No (upd H' p o)) (bs.map V.ref) ks := fun {o bs ks} h => by
      induction h with
      | nil => exact .nil
      | cons r t ih => exact .cons ⟨_, rfl, fun z => z, hp_new r np⟩ ih
    exact gen pb
def outE (Es : List (Int × Int)) (ns : List Int) : List (Int × Int) := Es.filter fun p => decide (p.1 ∉ ns ∧ p.2 ∉ ns)
theorem outE_good {n : Nat} {Es : List (Int × Int)} (g : GoodE n Es) (ns : List Int) : GoodE n (outE Es ns) := ⟨fun p hp => g.1 p (List.mem_filter.mp hp).1, g.2.sublist List.filter_sublist⟩
theorem outE_adj {Es : List (Int × Int)} {ns : List Int} {u v : Int} : Adj (outE Es ns) u v ↔ Adj Es u v ∧ u ∉ ns ∧ v ∉ ns := by
  unfold Adj outE
  simp only [List.mem_filter, decide_eq_true_eq]
  constructor
  · rintro (⟨h, a, b⟩ | ⟨h, a, b⟩)
    · exact ⟨.inl h, a, b⟩
    · exact ⟨.inr h, b, a⟩
  · rintro ⟨h | h, a, b⟩
    · exact .inl ⟨h, a, b⟩
    · exact .inr ⟨h, b, a⟩
theorem outE_snoc (pre : List (Int × Int)) (p : Int × Int) (ns : List Int) : outE (pre ++ [p]) ns = outE pre ns ++ (if p.1 ∉ ns ∧ p.2 ∉ ns then [p] else []) := by
  unfold outE
  rw [List.filter_append]
  by_cases h : p.1 ∉ ns ∧ p.2 ∉ ns
  · simp [h]
  · rw [if_neg h]
    simp only [List.filter_cons, decide_eq_false h]
    simp
def sp_graph_outside (K : PySem.W.Frag) : Sp := fun vs H Q _ => ∃ (g l : V) (n : Nat) (Es : List (Int × Int)) (ns : List Int), vs = [g, l] ∧ rGraph K No H g (n, Es) ∧ rInts No H l ns ∧ GoodE n Es ∧ n ≤ 40 ∧ ∀ H' v, Same H H' → rGraph K No H' v (n, outE Es ns) → Q v H'
theorem sp_graph_outside.len {K : PySem.W.Frag} {vs : List V} {H : Hp} {Q : VK} {E : XK} (h : sp_graph_outside K vs H Q E) : vs.length = (["graph", "nodes"] : List Str).length := by
  obtain ⟨g, l, n, Es, ns, rfl, _⟩ := h
  rfl
abbrev N_graph_outside : List Str := ["graph", "nodes", "edges", "edge"]
theorem sc_graph_outside : FnScope N_graph_outside ["graph", "nodes"] (defScope s_graph_outside) := ⟨rfl, rfl, rfl, by decide +kernel, rfl, by decide +kernel, by decide +kernel⟩
theorem ok_graph_outside {P : Program} {w : World} {K : PySem.W.Frag} {mg : Str → Option Value} {base : Heap} (W : Hd K mg) : OkD P w K mg base 7 "graph_outside" ["graph", "nodes"] (sp_graph_outside K) := by
  obtain ⟨fd, F⟩ := W.df_graph_outside
  refine okD_mk F W.mg_graph_outside (fun _ _ _ _ _ _ us hl => match us, hl with | [_, _], _ => rfl) ?_
  refine F.ok sc_graph_outside (fun vs H Q E h => sp_graph_outside.len h) (fun cdv A outer s H vs Q E hr h => ⟨_, PSs.nox ((pss_cons (ps_setLc (i := 2) (own := [("edge", 3)]) (g := gName 3) rfl sc_graph_outside.nd rfl rfl (sw_true rfl rfl rfl (by decide +kernel)) (pi_list (pe_fld (pv 0) rfl)) (blkOk_by (N := N_graph_outside) (sc := defScope s_graph_outside) (by decide +kernel)) (fun _ _ _ _ _ => pg_name (i := 3) sc_graph_outside.nd rfl (Or.inl rfl)) (fun _ _ _ _ _ => pts_one (PW.pt (pw_and (pt_cmpR (op_ninK K) (pe_ix (ix_tupK K) (pv 3) pe_int (fun _ _ => rfl)) (pv 1) (by rfl)) (pw_and1 (pt_cmpR (op_ninK K) (pe_ix (ix_tupK K) (pv 3) pe_int (fun _ _ => rfl)) (pv 1) (by rfl)))))) (fun _ _ _ _ _ => (pv 3)))
  (pss_one (ps_ret (pe_callD (ok_make_graph W) (hr.mono (by decide)) (pa_cons (pe_fld (pv 0) rfl) (pa_cons (pv 2) pa_nil))))))), ?_⟩)
  try dsimp only [cxOf, Cx.nox, Cx.wish]
  obtain ⟨gv, lv, n, Es, ns, rfl, rg, ⟨a, rfl, _, ha⟩, good, h40, k⟩ := h
  obtain ⟨g, dx, e, l, rfl, _, hg, re, rl⟩ := id rg
  obtain ⟨es, ⟨ea, rfl, _, he⟩, pe⟩ := re
  walk_at "go"
  refine lc_rep (R := rPair No H) he pe (fun D pre H' => Col rPair No H D H' (outE pre ns) ∧ (outE pre ns).length ≤ pre.length) ?_ ?_ ?_ ?_
  · exact fun D nD => ⟨Col.nil nD, Nat.le_refl _⟩
  · rintro D pre H' nD _ ⟨c, _⟩
    exact c.same _ _ he
  · rintro D pre x p post H' nD e2 ⟨t, rfl, _, ht⟩ ⟨c, cl⟩
    have e2 : Es = pre ++ p :: post := e2
    have ht' := c.same _ _ ht
    have ha' := c.same _ _ ha
    have hlen := edges_small good h40
    rw [e2] at hlen
    simp at hlen
    obtain ⟨_, vs, hv, _⟩ := id c
    have vl := c.len hv
    walk_at "go"
    refine g_ite (fun i1 => ?_) (fun i1 => ?_)
    · walk_at "go"
      refine g_ite (fun i2 => ?_) (fun i2 => ?_)
      · walk_at "go"
        refine ⟨vs, hv, small_of (by omega), ?_⟩
        have c2 := c.app rPair.frm nD hv (v := .ref t) (d := p) ⟨t, rfl, fun z => z.elim (fun z => by rw [z, hv] at ht'; cases ht') fun z => z, ht'⟩
        rw [outE_snoc, if_pos ⟨i1, i2⟩]
        exact ⟨c2, by simp; omega⟩
      · walk_at "go"
        rw [outE_snoc, if_neg fun z => i2 z.2, List.append_nil]
        exact ⟨c, by simp; omega⟩
    · walk_at "go"
      rw [outE_snoc, if_neg fun z => i1 z.1, List.append_nil]
      exact ⟨c, by simp; omega⟩
  · rintro D H' nD ⟨c, _⟩
    have hg' := c.same _ _ hg
    walk_at "go"
    exact ⟨n, .ref D, outE Es ns, rfl, c.done rPair.frm (fun z => z), outE_good good ns, h40, fun H2 v s2 r => k H2 v (Same.trans c.same s2) r⟩

/-! ### arcs_of -/
def sp_arcs_of (K : PySem.W.Frag) : Sp := fun vs H Q _ => ∃ (g la lb : V) (n : Nat) (Es : List (Int × Int)) (A B : List Int), vs = [g, la, lb] ∧ rGraph K No H g (n, Es) ∧ rInts No H la A ∧ rInts No H lb B ∧ GoodE n Es ∧ n ≤ 40 ∧ (∀ x ∈ A, 0 ≤ x ∧ x < n) ∧ (∀ x ∈ B, 0 ≤ x ∧ x < n) ∧
  ∀ H' a ls R, Same H H' → H' a = some (.lst (ls.map V.ref)) → H a = none → (∀ l ∈ ls, H l = none) → DRows H' ls (2 * n + 2) R → Arcs n Es A B R → Q (.ref a) H'
theorem sp_arcs_of.len {K : PySem.W.Frag} {vs : List V} {H : Hp} {Q : VK} {E : XK} (h : sp_arcs_of K vs H Q E) : vs.length = (["graph", "first", "second"] : List Str).length := by
  obtain ⟨g, la, lb, n, Es, A, B, rfl, _⟩ := h
  rfl
/-- the state of rows, ls its dicts, off what was in H -/
structure RS (n : Nat) (Es : List (Int × Int)) (A B : List Int) (H : Hp) (a : Addr) (ls : List Addr) (R : Nat → List (Int × Int)) (H' : Hp) : Prop where
  sm : Same H H'
  hr : H' a = some (.lst (ls.map V.ref))
  d : DRows H' ls (2 * n + 2) R
  a : Arc0 n Es A B R
/-- one write -/
theorem RS.put {n : Nat} {Es : List (Int × Int)} {A B : List Int} {H H' : Hp} {a : Addr} {ls : List Addr} {R : Nat → List (Int × Int)} (S : RS n Es A B H a ls R H') (hn : ∀ l ∈ ls, H l = none) {p : Nat} {l : Addr} (hl : ls[p]? = some l) {q x : Int} (k : AK n p q) (e : x = cap n Es A B p q) :
    RS n Es A B H a ls (fun j => if j = p then putI (R p) q x else R j) (upd H' l (.dK (dI (putI (R p) q x)))) := by
  have m := List.mem_of_getElem? hl
  refine ⟨Same.mut S.sm (hn l m), ?_, S.d.put hl _, S.a.put k e⟩
  rw [upd_ne]
  · exact S.hr
  · rintro rfl
    obtain ⟨r, hr⟩ := S.d.isD m
    rw [S.hr] at hr
    cases hr
theorem RS.step {n : Nat} {Es : List (Int × Int)} {A B : List Int} {H H' H2 : Hp} {a : Addr} {ls : List Addr} {R : Nat → List (Int × Int)} (S : RS n Es A B H a ls R H') (s : Same H' H2) : RS n Es A B H a ls R H2 := ⟨Same.trans S.sm s, s _ _ S.hr, S.d.same s, S.a⟩
abbrev N_arcs_of : List Str := ["graph", "first", "second", "source", "sink", "wide", "rows", "node", "other", "start", "end", "_"]
theorem sc_arcs_of : FnScope N_arcs_of ["graph", "first", "second"] (defScope s_arcs_of) := ⟨rfl, rfl, rfl, by decide +kernel, rfl, by decide +kernel, by decide +kernel⟩
theorem ok_arcs_of {P : Program} {w : World} {K : PySem.W.Frag} {mg : Str → Option Value} {base : Heap} (W : Hd K mg) : OkD P w K mg base 1 "arcs_of" ["graph", "first", "second"] (sp_arcs_of K) := by
  obtain ⟨fd, F⟩ := W.df_arcs_of
  refine okD_mk F W.mg_arcs_of (fun _ _ _ _ _ _ us hl => match us, hl with | [_, _, _], _ => rfl) ?_
  refine F.ok sc_arcs_of (fun vs H Q E h => sp_arcs_of.len h) (fun cdv A outer s H vs Q E hr h => ⟨_, PSs.nox ((pss_cons (ps_par (i := 3) (j := 4) rfl sc_arcs_of.nd rfl rfl (by decide) rfl rfl (pa_cons (pe_op op_mul pe_int (pe_fld (pv 0) rfl)) (pa_cons (pe_op op_add (pe_op op_mul pe_int (pe_fld (pv 0) rfl)) pe_int) pa_nil)) (by rfl))
  (pss_cons (ps_set (i := 5) sc_arcs_of.nd rfl (by first | exact .inl rfl | exact .inr rfl) (pe_op op_add (pe_fld (pv 0) rfl) pe_int))
  (pss_cons (ps_setLc (i := 6) (own := [("_", 11)]) (g := gName 11) rfl sc_arcs_of.nd rfl rfl (sw_true rfl rfl rfl (by decide +kernel)) (pi_range1 (by rfl) (W.fr_range) (pa_cons (pe_op op_add (pe_op op_mul pe_int (pe_fld (pv 0) rfl)) pe_int) pa_nil)) (blkOk_by (N := N_arcs_of) (sc := defScope s_arcs_of) (by decide +kernel)) (fun _ _ _ _ _ => pg_name (i := 11) sc_arcs_of.nd rfl (Or.inl rfl)) (fun _ _ _ _ _ => pts_nil) (fun _ _ _ _ _ => pe_dnewK))
  (pss_cons (ps_for PassesOwn.never rfl (pi_range1 (by rfl) (W.fr_range) (pa_cons (pe_fld (pv 0) rfl) pa_nil)) (pg_name (i := 7) sc_arcs_of.nd rfl (by first | exact .inl rfl | exact .inr rfl))
  (pss_cons (ps_dput (hu_of hr) (pe_ix (ix_listK K) (pv 6) (pe_op op_mul pe_int (pv 7)) (fun _ _ => rfl)) (pe_op op_add (pe_op op_mul pe_int (pv 7)) pe_int) pe_int rfl)
  (pss_one (ps_for PassesOwn.never rfl (pi_list (pe_ix (ix_listK K) (pe_fld (pv 0) rfl) (pv 7) (fun _ _ => rfl))) (pg_name (i := 8) sc_arcs_of.nd rfl (by first | exact .inl rfl | exact .inr rfl))
  (pss_one (ps_dput (hu_of hr) (pe_ix (ix_listK K) (pv 6) (pe_op op_add (pe_op op_mul pe_int (pv 7)) pe_int) (fun _ _ => rfl)) (pe_op op_mul pe_int (pv 8)) (pv 5) rfl))))))
  (pss_cons (ps_for PassesOwn.never rfl (pi_list (pv 1)) (pg_name (i := 7) sc_arcs_of.nd rfl (by first | exact .inl rfl | exact .inr rfl))
  (pss_one (ps_dput (hu_of hr) (pe_ix (ix_listK K) (pv 6) (pv 3) (fun _ _ => rfl)) (pe_op op_mul pe_int (pv 7)) (pv 5) rfl)))
  (pss_cons (ps_for PassesOwn.never rfl (pi_list (pv 2)) (pg_name (i := 7) sc_arcs_of.nd rfl (by first | exact .inl rfl | exact .inr rfl))
  (pss_one (ps_dput (hu_of hr) (pe_ix (ix_listK K) (pv 6) (pe_op op_add (pe_op op_mul pe_int (pv 7)) pe_int) (fun _ _ => rfl)) (pv 4) (pv 5) rfl)))
  (pss_cons (ps_for PassesOwn.never rfl (pi_range1 (by rfl) (W.fr_range) (pa_cons (pe_callB (call_lenK K) (by rfl) (W.fr_len) PySem.boot_len (pa_cons (pv 6) pa_nil)) pa_nil)) (pg_name (i := 9) sc_arcs_of.nd rfl (by first | exact .inl rfl | exact .inr rfl))
  (pss_one (ps_for PassesOwn.never rfl (pi_list (pe_callTy (call_list_dK rfl) (by rfl) (W.fr_list) (by decide +kernel) (pa_cons (pe_ix (ix_listK K) (pv 6) (pv 9) (fun _ _ => rfl)) pa_nil))) (pg_name (i := 10) sc_arcs_of.nd rfl (by first | exact .inl rfl | exact .inr rfl))
  (pss_one (ps_expr (pe_dsetd (pe_ix (ix_listK K) (pv 6) (pv 10) (fun _ _ => rfl)) (pv 9) pe_int ⟨rfl, rfl, rfl, rfl⟩))))))
  (pss_one (ps_ret (pv 6))))))))))), ?_⟩)
  try dsimp only [cxOf, Cx.nox, Cx.wish]
  obtain ⟨gv, av, bv, n, Es, A, B, rfl, ⟨g, dx, e, l, rfl, _, hg, re, rl⟩, ⟨fa, rfl, _, hfa⟩, ⟨fb, rfl, _, hfb⟩, good, h40, inA, inB, k⟩ := h
  obtain ⟨lk, ⟨la, rfl, _, hla⟩, pl⟩ := rl
  walk_at "go"
  refine lc_rng1 (n := 2 * (n : Int) + 2) (by omega) (by omega) (fun D i H' => Same H H' ∧ ∃ ls : List Addr, H' D = some (.lst (ls.map V.ref)) ∧ DRows H' ls i (fun _ => []) ∧ ∀ l ∈ ls, H l = none ∧ l ≠ D) ?_ ?_ ?_
  · intro D nD
    exact ⟨Same.new (Same.refl _) nD, [], upd_same, ⟨rfl, List.nodup_nil, by simp⟩, by simp⟩
  · rintro D i H' nD hi ⟨s2, ls, hD, hR, hN⟩
    walk_at "go"
    intro p np
    have npD : D ≠ p := ne_of_none hD np
    refine ⟨_, by walk_at "hp", small_of (by rw [List.length_map, hR.1]; omega), ?_⟩
    have e : ls.map V.ref ++ [V.ref p] = (ls ++ [p]).map V.ref := by simp
    rw [e]
    have npl : ∀ l ∈ ls, l ≠ p := fun l hl => by
      obtain ⟨r, hr⟩ := hR.isD hl
      exact ne_of_none hr np
    refine ⟨Same.mut (Same.new s2 np) nD, _, upd_same, ⟨by rw [List.length_append, hR.1]; rfl, nd_snoc hR.2.1 (fun z => npl p z rfl), fun j l hl => ?_⟩, fun l hl => ?_⟩
    · have m : l ∈ ls ++ [p] := List.mem_of_getElem? hl
      rcases List.mem_append.mp m with m | m
      · obtain ⟨j', hj', e'⟩ := List.mem_iff_getElem.mp m
        have q := hR.2.2 j' l (by rw [List.getElem?_eq_getElem hj', e'])
        rw [upd_ne (hN l m).2, upd_ne (npl l m)]
        exact q
      · have e2 := List.mem_singleton.mp m
        subst e2
        rw [upd_ne npD.symm, upd_same]
    · rcases List.mem_append.mp hl with m | m
      · exact hN l m
      · have e2 := List.mem_singleton.mp m
        subst e2
        exact ⟨s2.free np, npD.symm⟩
  rintro a H1 na ⟨s1, ls, hr1, hd1, hN⟩
  have e2n : (2 * (n : Int) + 2).toNat = 2 * n + 2 := by omega
  rw [e2n] at hd1
  have hn : ∀ l ∈ ls, H l = none := fun l hl => (hN l hl).1
  have S1 : RS n Es A B H a ls (fun _ => []) H1 := ⟨s1, hr1, hd1, ⟨fun p q x h => by simp [lkp_nil] at h, fun p => by simp⟩⟩
  clear s1 hr1 hd1 hN
  have hg1 := S1.sm _ _ hg
  walk_at "go"
  -- the nodes' own arcs and the links
  refine for_rng1 (n := (n : Int)) (by omega) (by omega) (fun i σ' H' => (∃ u v : Option V, σ' = [some (.ref g), some (.ref fa), some (.ref fb), some (.int (2 * (n : Int))), some (.int (2 * (n : Int) + 1)), some (.int ((n : Int) + 1)), some (.ref a), u, v, none, none, none]) ∧
    ∃ R, RS n Es A B H a ls R H' ∧ ∀ v : Nat, v < i → Has R (2 * v) (2 * v + 1) ∧ ∀ u, Adj Es v u → Has R (2 * v + 1) (2 * u)) ?_ ?_ ?_
  · exact ⟨⟨_, _, rfl⟩, _, S1, fun v hv => by omega⟩
  · rintro i σ' H' hi ⟨⟨u, v, rfl⟩, R, S, P⟩
    walk_at "go"
    refine g_drow S.hr S.d (by omega) (by omega) fun l1 hl1 hv1 => ?_
    walk_at "go"
    have z1 := S.a.len (2 * (i : Int)).toNat
    refine g_rdput hv1 (by omega) ?_
    have ci : (((2 * (i : Int)).toNat : Nat) : Int) = 2 * i := by omega
    have S2 := S.put hn hl1 (q := 2 * i + 1) (x := 1) (by rw [ci]; unfold AK; omega) (by rw [ci]; unfold cap; rw [if_pos ⟨by omega, by omega, rfl⟩])
    have P2 : (∀ v : Nat, v < i → Has (fun j => if j = (2 * (i : Int)).toNat then putI (R (2 * (i : Int)).toNat) (2 * i + 1) 1 else R j) (2 * v) (2 * v + 1) ∧ ∀ u, Adj Es v u → Has (fun j => if j = (2 * (i : Int)).toNat then putI (R (2 * (i : Int)).toNat) (2 * i + 1) 1 else R j) (2 * v + 1) (2 * u)) :=
      fun v hv => ⟨has_put.mpr (.inl (P v hv).1), fun u a => has_put.mpr (.inl ((P v hv).2 u a))⟩
    have P3 : Has (fun j => if j = (2 * (i : Int)).toNat then putI (R (2 * (i : Int)).toNat) (2 * i + 1) 1 else R j) (2 * i) (2 * i + 1) := has_put.mpr (.inr ⟨by omega, rfl⟩)
    revert S2 P2 P3
    generalize (fun j => if j = (2 * (i : Int)).toNat then putI (R (2 * (i : Int)).toNat) (2 * i + 1) 1 else R j) = R2
    generalize upd H' l1 (.dK (dI (putI (R (2 * (i : Int)).toNat) (2 * i + 1) 1))) = H2
    intro S2 P2 P3
    have hg2 := S2.sm _ _ hg
    have hla2 := S2.sm _ _ hla
    obtain ⟨x, hx, ⟨b, rfl, _, hb⟩⟩ := Paired.get' pl (links_get (n := n) (E := Es) (v := i) (by omega))
    walk_at "go"
    refine g_ix hla2 (atI_at (by omega) (by rw [Int.toNat_natCast]; exact hx)) ?_
    refine for_ints (S2.sm _ _ hb) (fun pre σ2 H2 => (∃ v : Option V, σ2 = [some (.ref g), some (.ref fa), some (.ref fb), some (.int (2 * (n : Int))), some (.int (2 * (n : Int) + 1)), some (.int ((n : Int) + 1)), some (.ref a), some (.int (i : Nat)), v, none, none, none]) ∧
      ∃ R, RS n Es A B H a ls R H2 ∧ (∀ v : Nat, v < i → Has R (2 * v) (2 * v + 1) ∧ ∀ u, Adj Es v u → Has R (2 * v + 1) (2 * u)) ∧ Has R (2 * i) (2 * i + 1) ∧ ∀ u ∈ pre, Has R (2 * i + 1) (2 * u)) ?_ ?_ ?_ ?_
    · exact ⟨⟨_, rfl⟩, R2, S2, P2, P3, by simp⟩
    · rintro pre σ2 H3 _ ⟨_, R3, S3, _⟩
      exact S3.sm _ _ hb
    · rintro pre w post σ2 H3 ew ⟨⟨v, rfl⟩, R3, S3, Q1, Q2, Q3⟩
      have aw : Adj Es i w := (mem_nb good).mp (by rw [ew]; simp)
      have rw' := good.at aw.symm
      walk_at "go"
      refine g_drow S3.hr S3.d (by omega) (by omega) fun l2 hl2 hv2 => ?_
      walk_at "go"
      have z2 := S3.a.len (2 * (i : Int) + 1).toNat
      refine g_rdput hv2 (by omega) ?_
      have cj : (((2 * (i : Int) + 1).toNat : Nat) : Int) = 2 * i + 1 := by omega
      have S4 := S3.put hn hl2 (q := 2 * w) (x := (n : Int) + 1) (by rw [cj]; unfold AK; omega) (by
        have d1 : (2 * (i : Int) + 1) / 2 = i := by omega
        have d2 : 2 * w / 2 = w := by omega
        rw [cj]; unfold cap; rw [if_neg (by omega), if_pos]
        exact .inl ⟨by omega, by omega, by omega, by omega, by rw [d1, d2]; exact aw⟩)
      refine ⟨⟨_, rfl⟩, _, S4, fun v hv => ⟨has_put.mpr (.inl (Q1 v hv).1), fun u a => has_put.mpr (.inl ((Q1 v hv).2 u a))⟩, has_put.mpr (.inl Q2), fun u hu => ?_⟩
      rcases List.mem_append.mp hu with hu | hu
      · exact has_put.mpr (.inl (Q3 u hu))
      · rw [List.mem_singleton.mp hu]
        exact has_put.mpr (.inr ⟨by omega, rfl⟩)
    · rintro σ2 H3 ⟨⟨v, rfl⟩, R3, S3, Q1, Q2, Q3⟩
      refine ⟨⟨_, _, rfl⟩, R3, S3, fun v hv => ?_⟩
      by_cases q : v = i
      · subst q
        exact ⟨Q2, fun u au => Q3 u ((mem_nb good).mpr au)⟩
      · exact Q1 v (by omega)
  rintro σ2 H2 ⟨⟨u, v, rfl⟩, R2, S2, P2⟩
  rw [Int.toNat_natCast] at P2
  have hfa2 := S2.sm _ _ hfa
  walk_at "go"
  refine for_ints hfa2 (fun pre σ2 H' => (∃ u v : Option V, σ2 = [some (.ref g), some (.ref fa), some (.ref fb), some (.int (2 * (n : Int))), some (.int (2 * (n : Int) + 1)), some (.int ((n : Int) + 1)), some (.ref a), u, v, none, none, none]) ∧
      ∃ R, RS n Es A B H a ls R H' ∧ (∀ v : Nat, v < n → Has R (2 * v) (2 * v + 1) ∧ ∀ u, Adj Es v u → Has R (2 * v + 1) (2 * u)) ∧ ∀ u ∈ pre, Has R (2 * n) (2 * u)) ?_ ?_ ?_ ?_
  · exact ⟨⟨_, _, rfl⟩, R2, S2, P2, by simp⟩
  · rintro pre σ' H' _ ⟨_, R3, S3, _⟩
    exact S3.sm _ _ hfa
  · rintro pre w post σ' H' ew ⟨⟨u, v, rfl⟩, R3, S3, Q1, Q2⟩
    have iw : w ∈ A := by rw [ew]; simp
    have rw' := inA w iw
    walk_at "go"
    refine g_drow S3.hr S3.d (by omega) (by omega) fun l2 hl2 hv2 => ?_
    walk_at "go"
    have z2 := S3.a.len (2 * (n : Int)).toNat
    refine g_rdput hv2 (by omega) ?_
    have cj : (((2 * (n : Int)).toNat : Nat) : Int) = 2 * n := by omega
    have S4 := S3.put hn hl2 (q := 2 * w) (x := (n : Int) + 1) (by rw [cj]; unfold AK; omega) (by
      have d2 : 2 * w / 2 = w := by omega
      rw [cj]; unfold cap; rw [if_neg (by omega), if_pos]
      exact .inr (.inl ⟨rfl, by omega, by omega, by rw [d2]; exact iw⟩))
    refine ⟨⟨_, _, rfl⟩, _, S4, fun v hv => ⟨has_put.mpr (.inl (Q1 v hv).1), fun u a => has_put.mpr (.inl ((Q1 v hv).2 u a))⟩, fun u hu => ?_⟩
    rcases List.mem_append.mp hu with hu | hu
    · exact has_put.mpr (.inl (Q2 u hu))
    · rw [List.mem_singleton.mp hu]
      exact has_put.mpr (.inr ⟨by omega, rfl⟩)
  clear S1 S2 P2
  rintro σ2 H3 ⟨⟨u, v, rfl⟩, R3, S3, P3, P4⟩
  have hfb3 := S3.sm _ _ hfb
  walk_at "go"
  refine for_ints hfb3 (fun pre σ2 H' => (∃ u v : Option V, σ2 = [some (.ref g), some (.ref fa), some (.ref fb), some (.int (2 * (n : Int))), some (.int (2 * (n : Int) + 1)), some (.int ((n : Int) + 1)), some (.ref a), u, v, none, none, none]) ∧
      ∃ R, RS n Es A B H a ls R H' ∧ (∀ v : Nat, v < n → Has R (2 * v) (2 * v + 1) ∧ ∀ u, Adj Es v u → Has R (2 * v + 1) (2 * u)) ∧ (∀ u ∈ A, Has R (2 * n) (2 * u)) ∧ ∀ u ∈ pre, Has R (2 * u + 1).toNat (2 * n + 1)) ?_ ?_ ?_ ?_
  · exact ⟨⟨_, _, rfl⟩, R3, S3, P3, P4, by simp⟩
  · rintro pre σ' H' _ ⟨_, R3, S3, _⟩
    exact S3.sm _ _ hfb
  · rintro pre w post σ' H' ew ⟨⟨u, v, rfl⟩, R4, S4, Q1, Q2, Q3⟩
    have iw : w ∈ B := by rw [ew]; simp
    have rw' := inB w iw
    walk_at "go"
    refine g_drow S4.hr S4.d (by omega) (by omega) fun l2 hl2 hv2 => ?_
    walk_at "go"
    have z2 := S4.a.len (2 * w + 1).toNat
    refine g_rdput hv2 (by omega) ?_
    have cj : (((2 * w + 1).toNat : Nat) : Int) = 2 * w + 1 := by omega
    have S5 := S4.put hn hl2 (q := 2 * n + 1) (x := (n : Int) + 1) (by rw [cj]; unfold AK; omega) (by
      have d2 : (2 * w + 1) / 2 = w := by omega
      rw [cj]; unfold cap; rw [if_neg (by omega), if_pos]
      exact .inr (.inr ⟨rfl, by omega, by omega, by rw [d2]; exact iw⟩))
    refine ⟨⟨_, _, rfl⟩, _, S5, fun v hv => ⟨has_put.mpr (.inl (Q1 v hv).1), fun u a => has_put.mpr (.inl ((Q1 v hv).2 u a))⟩, fun u hu => has_put.mpr (.inl (Q2 u hu)), fun u hu => ?_⟩
    rcases List.mem_append.mp hu with hu | hu
    · exact has_put.mpr (.inl (Q3 u hu))
    · rw [List.mem_singleton.mp hu]
      exact has_put.mpr (.inr ⟨rfl, rfl⟩)
  clear S3 P3 P4
  rintro σ2 H4 ⟨⟨u, v, rfl⟩, R4, S4, P4, P5, P6⟩
  have all4 : ∀ (p : Nat) (q : Int), AK n p q → cap n Es A B p q ≠ 0 → Has R4 p q := by
    intro p q ak c
    unfold cap at c
    split at c
    · rename_i h
      have := (P4 (p / 2) (by omega)).1
      have e1 : 2 * (p / 2) = p := by omega
      have e2 : (2 * ((p / 2 : Nat) : Int) + 1) = q := by omega
      rw [e1, e2] at this
      exact this
    · split at c
      · rename_i h
        rcases h with ⟨h1, h2, h3, h4, h5⟩ | ⟨h1, h2, h3, h4⟩ | ⟨h1, h2, h3, h4⟩
        · have e0 : ((p / 2 : Nat) : Int) = (p : Int) / 2 := by omega
          have := (P4 (p / 2) (by omega)).2 (q / 2) (by rw [e0]; exact h5)
          have e1 : 2 * (p / 2) + 1 = p := by omega
          have e2 : 2 * (q / 2) = q := by omega
          rw [e1, e2] at this
          exact this
        · have := P5 _ h4
          have e1 : 2 * n = p := by omega
          have e2 : 2 * (q / 2) = q := by omega
          rw [e1, e2] at this
          exact this
        · have := P6 _ h4
          have e1 : (2 * ((p : Int) / 2) + 1).toNat = p := by omega
          rw [e1] at this
          rw [h1]
          exact this
      · exact absurd rfl c
  clear P4 P5 P6
  have hr4 := S4.hr
  have dl := S4.d.1
  walk_at "go"
  refine for_rng1 (n := (ls.length : Nat)) (by omega) (by omega) (fun i σ' H' => (∃ x y u v : Option V, σ' = [some (.ref g), some (.ref fa), some (.ref fb), some (.int (2 * (n : Int))), some (.int (2 * (n : Int) + 1)), some (.int ((n : Int) + 1)), some (.ref a), x, y, u, v, none]) ∧
      ∃ R, RS n Es A B H a ls R H' ∧ (∀ (p : Nat) (q : Int), AK n p q → cap n Es A B p q ≠ 0 → Has R p q) ∧ ∀ p q : Nat, p < i → Has R p q → Has R q p) ?_ ?_ ?_
  · exact ⟨⟨_, _, _, _, rfl⟩, R4, S4, all4, fun p q h => by omega⟩
  · rintro i σ' H' hi ⟨⟨x, y, u, v, rfl⟩, R5, S5, Q1, Q2⟩
    have hi2 : i < 2 * n + 2 := by omega
    walk_at "go"
    refine g_drow S5.hr S5.d (by omega) (by omega) fun l1 hl1 hv1 => ?_
    walk_at "go"
    intro c nc
    rw [Int.toNat_natCast] at hv1 hl1 
    have S6 := S5.step (Same.new (o := .lst (((R5 i).map (·.1)).map V.int)) (Same.refl _) nc)
    rw [Int.toNat_natCast]
    have nc0 := S5.sm.free nc
    refine for_ints (ns := (R5 i).map (·.1)) upd_same (fun pre σ2 H2 => (∃ v : Option V, σ2 = [some (.ref g), some (.ref fa), some (.ref fb), some (.int (2 * (n : Int))), some (.int (2 * (n : Int) + 1)), some (.int ((n : Int) + 1)), some (.ref a), x, y, some (.int (i : Nat)), v, none]) ∧ H2 c = some (.lst (((R5 i).map (·.1)).map V.int)) ∧
      ∃ R, RS n Es A B H a ls R H2 ∧ (∀ (p : Nat) (q : Int), AK n p q → cap n Es A B p q ≠ 0 → Has R p q) ∧ (∀ p q : Nat, p < i → Has R p q → Has R q p) ∧ (∀ q, Has R i q ↔ Has R5 i q) ∧ ∀ q ∈ pre, Has R q.toNat i) ?_ ?_ ?_ ?_
    · exact ⟨⟨_, rfl⟩, upd_same, R5, S6, Q1, Q2, fun q => .rfl, by simp⟩
    · rintro pre σ2 H2 _ ⟨_, h, _⟩
      exact h
    · rintro pre w post σ2 H2 ew ⟨⟨v, rfl⟩, hc, R7, S7, T1, T2, T3, T4⟩
      have hw5 : Has R5 i w := has_key.mp (by rw [ew]; simp)
      have hw : Has R7 i w := (T3 w).mpr hw5
      have akw : AK n i w := by
        obtain ⟨x, hx⟩ := Option.ne_none_iff_exists'.mp hw
        exact (S7.a.cp i w x hx).2
      have rw' := akw.1
      walk_at "go"
      refine g_drow S7.hr S7.d (by omega) (by omega) fun l2 hl2 hv2 => ?_
      walk_at "go"
      have z2 := S7.a.len w.toNat
      have cw : ((w.toNat : Nat) : Int) = w := by omega
      refine g_rds2 hv2 (by omega) (fun x hx => ?_) fun hx => ?_
      · refine ⟨⟨_, rfl⟩, hc, R7, S7, T1, T2, T3, fun q hq => ?_⟩
        rcases List.mem_append.mp hq with hq | hq
        · exact T4 q hq
        · rw [List.mem_singleton.mp hq]
          unfold Has
          rw [hx]
          simp
      · have c0 : (0 : Int) = cap n Es A B (w.toNat : Nat) i := by
          refine Classical.byContradiction fun z => ?_
          have := T1 w.toNat i (by rw [cw]; exact akw.symm) (Ne.symm z)
          exact this hx
        have S8 := S7.put hn hl2 (q := i) (x := 0) (by rw [cw]; exact akw.symm) c0
        have nwi : i ≠ w.toNat := by unfold AK at akw; omega
        refine ⟨⟨_, rfl⟩, ?_, _, S8, fun p q a c => has_put.mpr (.inl (T1 p q a c)), fun p q hp h => ?_, fun q => ?_, fun q hq => ?_⟩
        · rw [upd_ne]
          · exact hc
          · rintro rfl
            exact absurd (hn _ (List.mem_of_getElem? hl2)) (fun z => by rw [hc] at hv2; cases hv2)
        · rcases has_put.mp h with h' | ⟨h1, h2⟩
          · exact has_put.mpr (.inl (T2 p q hp h'))
          · have e3 : q = i := by omega
            clear h
            subst e3
            refine has_put.mpr (.inl ?_)
            rw [h1, cw]
            exact hw
        · rw [has_put, T3 q]
          exact ⟨fun h => h.elim id fun h => absurd h.1 nwi, .inl⟩
        · rcases List.mem_append.mp hq with hq | hq
          · exact has_put.mpr (.inl (T4 q hq))
          · rw [List.mem_singleton.mp hq]
            exact has_put.mpr (.inr ⟨rfl, rfl⟩)
    · rintro σ2 H2 ⟨⟨v, rfl⟩, hc, R7, S7, T1, T2, T3, T4⟩
      refine ⟨⟨_, _, _, _, rfl⟩, R7, S7, T1, fun p q hp h => ?_⟩
      by_cases e : p = i
      · subst e
        have := T4 q (has_key.mpr ((T3 q).mp h))
        rw [Int.toNat_natCast] at this
        exact this
      · exact T2 p q (by omega) h
  · rintro σ' H' ⟨⟨x, y, u, v, rfl⟩, R5, S5, Q1, Q2⟩
    walk_at "go"
    refine k H' a ls R5 S5.sm S5.hr na hn S5.d ⟨S5.a, Q1, fun p q h => ?_⟩
    have ak : AK n p q := by
      obtain ⟨x, hx⟩ := Option.ne_none_iff_exists'.mp h
      exact (S5.a.cp p q x hx).2
    refine Q2 p q ?_ h
    have := ak.1
    omega

/-! ### found_from -/
def vl (R : Nat → List (Int × Int)) (p : Nat) (q : Int) : Int := (lkp (R p) q).getD 0
structure RWf (n : Nat) (R : Nat → List (Int × Int)) : Prop where
  nd : ∀ p, ((R p).map (·.1)).Nodup
  ak : ∀ (p : Nat) q, Has R p q → AK n p q
  sym : ∀ p q : Nat, Has R p q → Has R q p
theorem RWf.len {n : Nat} {R : Nat → List (Int × Int)} (h : RWf n R) (p : Nat) : (R p).length ≤ n + 1 := by
  have := keys_len (h.nd p) (n := n) (p := p) fun k hk => h.ak p k (has_key.mp hk)
  rw [List.length_map] at this
  exact this
theorem vl_has {R : Nat → List (Int × Int)} {p : Nat} {q : Int} (h : 0 < vl R p q) : Has R p q ∧ lkp (R p) q = some (vl R p q) := by
  unfold vl Has at *
  cases e : lkp (R p) q with
  | none => rw [e] at h; simp at h
  | some x => simp
/-- what a search from s has found -/
structure FF (n : Nat) (R : Nat → List (Int × Int)) (s : Int) (m : List (Int × Int)) (at_ : Nat) : Prop where
  nd : (m.map (·.1)).Nodup
  st : lkp m s = some s
  ok : ∀ k : Int, k ∈ m.map (·.1) → 0 ≤ k ∧ k ≤ 2 * n + 1
  pr : ∀ pre k b post, m = pre ++ (k, b) :: post → (pre = [] ∧ k = s ∧ b = s) ∨ (b ∈ pre.map (·.1) ∧ 0 < vl R b.toNat k)
  le : at_ ≤ m.length
  done : ∀ (i : Nat) (p : Int), i < at_ → (m.map (·.1))[i]? = some p → ∀ k, 0 < vl R p.toNat k → k ∈ m.map (·.1)
theorem FF.len {n : Nat} {R : Nat → List (Int × Int)} {s : Int} {m : List (Int × Int)} {a : Nat} (F : FF n R s m a) : m.length ≤ 2 * n + 2 := by
  have := nd_len (n := 2 * n + 2) F.nd fun x hx => by have := F.ok x hx; omega
  rw [List.length_map] at this
  exact this
theorem FF.start {n : Nat} {R : Nat → List (Int × Int)} {s : Int} (h0 : 0 ≤ s) (h1 : s ≤ 2 * n + 1) : FF n R s [(s, s)] 0 := by
  refine ⟨by simp, by simp [lkp], fun k hk => ?_, fun pre k b post e => ?_, Nat.zero_le _, fun i p hi => by omega⟩
  · simp at hk
    omega
  · cases pre with
    | nil =>
      simp at e
      exact .inl ⟨rfl, e.1.1.symm, e.1.2.symm⟩
    | cons c pre => simp at e
theorem lkp_in {m : List (Int × Int)} {k : Int} : k ∈ m.map (·.1) ↔ lkp m k ≠ none := by
  rw [Ne, lkp_none]
  exact ⟨fun h z => z h, fun h => Classical.byContradiction h⟩
theorem FF.push {n : Nat} {R : Nat → List (Int × Int)} {s : Int} {m : List (Int × Int)} {a : Nat} (F : FF n R s m a) {k b : Int} (hb : b ∈ m.map (·.1)) (hv : 0 < vl R b.toNat k) (hk : lkp m k = none) (rk : 0 ≤ k ∧ k ≤ 2 * n + 1) : FF n R s (m ++ [(k, b)]) a := by
  refine ⟨?_, ?_, fun x hx => ?_, fun pre x y post e => ?_, ?_, fun i p hi hp z hz => ?_⟩
  · rw [List.map_append]
    exact nd_snoc F.nd (lkp_none.mp hk)
  · rw [lkp_snoc m k b s hk, if_neg]
    · exact F.st
    · rintro rfl
      rw [F.st] at hk
      cases hk
  · rw [List.map_append] at hx
    rcases List.mem_append.mp hx with hx | hx
    · exact F.ok x hx
    · simp at hx
      rw [hx]
      exact rk
  · rcases List.eq_nil_or_concat post with rfl | ⟨post', z, rfl⟩
    · have e := List.append_inj' e rfl
      obtain ⟨e1, e2⟩ := e
      cases e2
      rw [← e1]
      exact .inr ⟨hb, hv⟩
    · rw [List.concat_eq_append] at e
      have e' : m ++ [(k, b)] = (pre ++ (x, y) :: post') ++ [z] := by simpa using e
      have e := List.append_inj' e' rfl
      exact F.pr pre x y post' e.1
  · have := F.le
    simp
    omega
  · rw [List.map_append] at hp ⊢
    have : i < (m.map (·.1)).length := by rw [List.length_map]; have := F.le; omega
    rw [List.getElem?_append_left this] at hp
    exact List.mem_append_left _ (F.done i p hi hp z hz)
def sp_found_from (K : PySem.W.Frag) : Sp := fun vs H Q _ => ∃ (a : Addr) (ls : List Addr) (n : Nat) (R : Nat → List (Int × Int)) (s : Int), vs = [.ref a, .int s] ∧ H a = some (.lst (ls.map V.ref)) ∧ DRows H ls (2 * n + 2) R ∧ RWf n R ∧ n ≤ 40 ∧ 0 ≤ s ∧ s ≤ 2 * n + 1 ∧
  ∀ H' d m, Same H H' → H d = none → H' d = some (.dK (dI m)) → FF n R s m m.length → Q (.ref d) H'
theorem sp_found_from.len {K : PySem.W.Frag} {vs : List V} {H : Hp} {Q : VK} {E : XK} (h : sp_found_from K vs H Q E) : vs.length = (["rows", "start"] : List Str).length := by
  obtain ⟨a, ls, n, R, s, rfl, _⟩ := h
  rfl
abbrev N_found_from : List Str := ["rows", "start", "before", "queue", "at", "point", "end"]
theorem sc_found_from : FnScope N_found_from ["rows", "start"] (defScope s_found_from) := ⟨rfl, rfl, rfl, by decide +kernel, rfl, by decide +kernel, by decide +kernel⟩
theorem ok_found_from {P : Program} {w : World} {K : PySem.W.Frag} {mg : Str → Option Value} {base : Heap} (W : Hd K mg) : OkD P w K mg base 1 "found_from" ["rows", "start"] (sp_found_from K) := by
  obtain ⟨fd, F⟩ := W.df_found_from
  refine okD_mk F W.mg_found_from (fun _ _ _ _ _ _ us hl => match us, hl with | [_, _], _ => rfl) ?_
  refine F.ok sc_found_from (fun vs H Q E h => sp_found_from.len h) (fun cdv A outer s H vs Q E hr h => ⟨_, PSs.nox ((pss_cons (ps_set (i := 2) sc_found_from.nd rfl (by first | exact .inl rfl | exact .inr rfl) (pe_disp (pps_cons (pv 1) (pv 1) pps_nil) rfl rfl (by simp) (by simp)))
  (pss_cons (ps_set (i := 3) sc_found_from.nd rfl (by first | exact .inl rfl | exact .inr rfl) (pe_lst (pa_cons (pv 1) pa_nil)))
  (pss_cons (ps_set (i := 4) sc_found_from.nd rfl (by first | exact .inl rfl | exact .inr rfl) pe_int)
  (pss_cons (ps_while PassesOwn.never (pt_cmpR op_lt (pv 4) (pe_callB (call_lenK K) (by rfl) (W.fr_len) PySem.boot_len (pa_cons (pv 3) pa_nil)) (nomark _))
  (pss_cons (ps_set (i := 5) sc_found_from.nd rfl (by first | exact .inl rfl | exact .inr rfl) (pe_ix (ix_listK K) (pv 3) (pv 4) (fun _ _ => rfl)))
  (pss_cons (ps_for PassesOwn.never rfl (pi_list (pe_callB (call_sortedDq rfl) (by rfl) (W.fr_sorted) (by decide +kernel) (pa_cons (pe_ix (ix_listK K) (pv 0) (pv 5) (fun _ _ => rfl)) pa_nil))) (pg_name (i := 6) sc_found_from.nd rfl (by first | exact .inl rfl | exact .inr rfl))
  (pss_one (ps_if (PW.pt (pw_and (pt_cmpR op_gt (pe_dget (hu_of hr) (pe_ix (ix_listK K) (pv 0) (pv 5) (fun _ _ => rfl)) (pv 6) (fun _ _ => rfl)) pe_int (nomark _)) (pw_and1 (pt_cmp (pc_dnotin (hu_of hr) (pv 6) (pv 2)) (by rfl)))))
  (pss_cons (ps_dput (hu_of hr) (pv 2) (pv 6) (pv 5) rfl)
  (pss_one (ps_expr (pe_bmK K PySem.F.plainAttrs_list PySem.F.slot_list_append PySem.F.type_list_append mt_append (pv 3) (pa_cons (pv 6) pa_nil)))))
  pss_nil)))
  (pss_one (ps_aug (i := 4) sc_found_from.nd rfl (by first | exact .inl rfl | exact .inr rfl) pe_int ip_add)))))
  (pss_one (ps_ret (pv 2)))))))), ?_⟩)
  try dsimp only [cxOf, Cx.nox, Cx.wish]
  obtain ⟨a, ls, n, R, s, rfl, hr, hd, wf, h40, s0, s1, k⟩ := h
  walk_at "go"
  intro d nd
  walk_at "go"
  intro D nD
  have ndD : d ≠ D := (new_ne nD).symm
  have nD0 := new_old nD
  walk_at "go"
  refine g_wh (fun m σ' H' => Same H H' ∧ ∃ (f : List (Int × Int)) (at_ : Nat) (w w2 : Option V), σ' = [some (.ref a), some (.int s), some (.ref d), some (.ref D), some (.int at_), w, w2] ∧ H' d = some (.dK (dI f)) ∧ H' D = some (.lst ((f.map (·.1)).map V.int)) ∧ FF n R s f at_ ∧ m = 2 * n + 2 - at_) ⟨2 * n + 2, ?_⟩ ?_
  · exact ⟨Same.new (Same.new (Same.refl _) nd) nD, [(s, s)], 0, none, none, rfl, by rw [upd_ne ndD]; exact upd_same, upd_same, FF.start s0 s1, rfl⟩
  · rintro m σ' H' ⟨sm, f, at_, w, w2, rfl, hd', hD, F, rfl⟩
    have hr' := sm _ _ hr
    walk_at "go"
    refine g_ite (fun lt => ?_) (fun nlt => ?_)
    · refine g_whN ?_
      have fl := F.len
      rw [List.length_map] at lt
      have lt : at_ < f.length := by omega
      obtain ⟨p, hp⟩ : ∃ p, (f.map (·.1))[at_]? = some p := ⟨(f.map (·.1))[at_]'(by rw [List.length_map]; exact lt), List.getElem?_eq_getElem _⟩
      have mp := List.mem_of_getElem? hp
      have rp := F.ok p mp
      walk_at "go"
      refine g_ixI hD (atI_at (by omega) (by rw [Int.toNat_natCast]; exact hp)) ?_
      walk_at "go"
      refine g_drow hr' (hd.same sm) (by omega) (by omega) fun l1 hl1 hv1 => ?_
      have z1 := wf.len p.toNat
      walk_at "go"
      refine g_sortD hv1 (by omega) fun c nc => ?_
      have nc0 := sm.free nc
      have hv0 := hd.2.2 _ _ hl1
      refine for_ints (ns := isort ((R p.toNat).map (·.1))) upd_same (fun pre σ2 H2 => Same H H2 ∧ H2 c = some (.lst ((isort ((R p.toNat).map (·.1))).map V.int)) ∧ ∃ (f2 : List (Int × Int)) (w : Option V), σ2 = [some (.ref a), some (.int s), some (.ref d), some (.ref D), some (.int at_), some (.int p), w] ∧
        H2 d = some (.dK (dI f2)) ∧ H2 D = some (.lst ((f2.map (·.1)).map V.int)) ∧ FF n R s f2 at_ ∧ (f2.map (·.1))[at_]? = some p ∧ ∀ q ∈ pre, 0 < vl R p.toNat q → q ∈ f2.map (·.1)) ?_ ?_ ?_ ?_
      · exact ⟨Same.new sm nc, upd_same, f, _, rfl, by rw [upd_ne (ne_of_none hd' nc)]; exact hd', by rw [upd_ne (ne_of_none hD nc)]; exact hD, F, hp, by simp⟩
      · rintro pre σ2 H2 _ ⟨_, h, _⟩
        exact h
      · rintro pre q post σ2 H2 eq ⟨sm2, hc2, f2, w, rfl, hd2, hD2, F2, hp2, T⟩
        have hq : Has R p.toNat q := has_key.mp (mem_isort.mp (by rw [eq]; simp))
        obtain ⟨x, hx⟩ := Option.ne_none_iff_exists'.mp hq
        have akq := wf.ak _ _ hq
        have hr2 := sm2 _ _ hr
        have vx : vl R p.toNat q = x := by unfold vl; rw [hx]; rfl
        have f2l := F2.len
        walk_at "go"
        refine g_drow hr2 (hd.same sm2) (by omega) (by omega) fun l2 hl2 hv2 => ?_
        walk_at "go"
        refine g_rdget hv2 hx ?_
        walk_at "go"
        refine g_ite (fun gt => ?_) (fun ngt => ?_)
        · walk_at "go"
          refine g_iteNS (fun v hv => ?_) (fun hv => ?_)
          · walk_at "go"
            refine ⟨sm2, hc2, f2, _, rfl, hd2, hD2, F2, hp2, fun y hy hp => ?_⟩
            rcases List.mem_append.mp hy with hy | hy
            · exact T y hy hp
            · rw [List.mem_singleton.mp hy, lkp_in, hv]
              simp
          · walk_at "go"
            have F3 := F2.push (b := p) (List.mem_of_getElem? hp2) (by rw [vx]; exact gt) hv ⟨akq.1.2.2.1, akq.1.2.2.2⟩
            refine g_rdput (by walk_at "hp") (by omega) ?_
            rw [putI_new p hv]
            have hD3 : upd H2 d (.dK (dI (f2 ++ [(q, p)]))) D = some (.lst ((f2.map (·.1)).map V.int)) := by rw [upd_ne ndD.symm]; exact hD2
            walk_at "go"
            refine g_appI hD3 (small_of (by rw [List.length_map]; omega)) ?_
            refine ⟨Same.mut (Same.mut sm2 nd) nD0, ?_, f2 ++ [(q, p)], _, rfl, ?_, ?_, F3, ?_, fun y hy hp => ?_⟩
            · have n1 : c ≠ d := fun z => by rw [z, hd2] at hc2; cases hc2
              have n2 : c ≠ D := fun z => by rw [z, hD] at nc; cases nc
              rw [upd_ne n2, upd_ne n1]
              exact hc2
            · rw [upd_ne ndD]
              exact upd_same
            · rw [upd_same]
              simp
            · rw [List.map_append]
              exact get_app hp2
            · rw [List.map_append]
              rcases List.mem_append.mp hy with hy | hy
              · exact List.mem_append_left _ (T y hy hp)
              · rw [List.mem_singleton.mp hy]
                simp
        · walk_at "go"
          refine ⟨sm2, hc2, f2, _, rfl, hd2, hD2, F2, hp2, fun y hy hp => ?_⟩
          rcases List.mem_append.mp hy with hy | hy
          · exact T y hy hp
          · rw [List.mem_singleton.mp hy, vx] at hp
            exact absurd hp (by omega)
      · rintro σ2 H2 ⟨sm2, hc2, f2, w, rfl, hd2, hD2, F2, hp2, T⟩
        walk_at "go"
        have lt2 := (List.getElem?_eq_some_iff.mp hp2).1
        rw [List.length_map] at lt2
        have f2l := F2.len
        refine ⟨2 * n + 2 - (at_ + 1), by omega, sm2, f2, at_ + 1, _, _, rfl, hd2, hD2, ⟨F2.nd, F2.st, F2.ok, F2.pr, lt2, fun i y hi hy z hz => ?_⟩, rfl⟩
        by_cases e : i = at_
        · subst e
          rw [hp2] at hy
          cases hy
          exact T z (mem_isort.mpr (has_key.mpr (vl_has hz).1)) hz
        · exact F2.done i y (by omega) hy z hz
    · walk_at "go"
      have e2 : at_ = f.length := by
        have := F.le
        rw [List.length_map] at nlt
        omega
      subst e2
      exact k H' d f sm nd hd' F

/-! ### push -/
theorem ne_mem {ls : List Addr} {l a : Addr} (m : l ∈ ls) (n : a ∉ ls) : a ≠ l := fun z => n (by rw [z]; exact m)
def upR (R : Nat → List (Int × Int)) (p : Nat) (q x : Int) : Nat → List (Int × Int) := fun j => if j = p then putI (R p) q x else R j
def rN (R : Nat → List (Int × Int)) (p q : Nat) : Int := vl R p q
theorem vl_upR {R : Nat → List (Int × Int)} {p a : Nat} {q x b : Int} : vl (upR R p q x) a b = if a = p ∧ b = q then x else vl R a b := by
  unfold vl upR
  by_cases e : a = p
  · subst e
    simp only [if_true]
    rw [lkp_putI]
    by_cases f : b = q <;> simp [f]
  · simp [e]
theorem has_upR {R : Nat → List (Int × Int)} {p a : Nat} {q x b : Int} (h : Has R p q) : Has (upR R p q x) a b ↔ Has R a b := by
  have := has_put (R := R) (p := p) (q := q) (x := x) (a := a) (b := b)
  unfold upR
  rw [this]
  exact ⟨fun z => z.elim id fun ⟨e, f⟩ => by rw [e, f]; exact h, .inl⟩
theorem RWf.upR {n : Nat} {R : Nat → List (Int × Int)} (W : RWf n R) {p : Nat} {q x : Int} (h : Has R p q) : RWf n (upR R p q x) := by
  refine ⟨fun a => ?_, fun a b z => W.ak a b ((has_upR h).mp z), fun a b z => (has_upR h).mpr (W.sym a b ((has_upR h).mp z))⟩
  unfold G3.upR
  split
  · exact keys_put (W.nd p)
  · exact W.nd a
/-- a unit pushed from s to t -/
structure Pushed (n : Nat) (R : Nat → List (Int × Int)) (s t : Nat) (R' : Nat → List (Int × Int)) : Prop where
  wf : RWf n R'
  con : ∀ p q, rN R' p q + rN R' q p = rN R p q + rN R q p
  nn : ∀ p q, 0 ≤ rN R' p q
  sum : ∀ p, p < 2 * n + 2 → sm (rN R' p) (2 * n + 2) = sm (rN R p) (2 * n + 2) + (if p = t then 1 else 0) - (if p = s then 1 else 0)
theorem Pushed.refl {n : Nat} {R : Nat → List (Int × Int)} (W : RWf n R) (nn : ∀ p q, 0 ≤ rN R p q) (t : Nat) : Pushed n R t t R := ⟨W, fun _ _ => rfl, nn, fun p _ => by split <;> omega⟩
/-- one arc, from b to k -/
theorem Pushed.step {n : Nat} {R Rc : Nat → List (Int × Int)} {k t : Nat} (P : Pushed n R k t Rc) {b : Nat} {x y : Int} (hx : lkp (Rc b) k = some x) (x0 : 0 < x) (hy : lkp (Rc k) b = some y) : Pushed n R b t (upR (upR Rc b k (x - 1)) k b (y + 1)) ∧ b ≠ k := by
  have h1 : Has Rc b k := by unfold Has; rw [hx]; simp
  have h2 : Has Rc k b := by unfold Has; rw [hy]; simp
  have ak := P.wf.ak b k h1
  have ne : b ≠ k := by unfold AK at ak; omega
  have hb : b < 2 * n + 2 := by unfold AK at ak; omega
  have hk : k < 2 * n + 2 := by unfold AK at ak; omega
  have ex : rN Rc b k = x := by unfold rN vl; rw [hx]; rfl
  have ey : rN Rc k b = y := by unfold rN vl; rw [hy]; rfl
  have val : ∀ p q, rN (upR (upR Rc b k (x - 1)) k b (y + 1)) p q = rN Rc p q + (if p = k then (if q = b then 1 else 0) else 0) + (if p = b then (if q = k then -1 else 0) else 0) := by
    intro p q
    unfold rN
    rw [vl_upR, vl_upR]
    by_cases e1 : p = k
    · subst e1
      by_cases e2 : q = b
      · subst e2
        rw [if_pos ⟨rfl, rfl⟩]
        simp [Ne.symm ne]
        exact ey.symm ▸ rfl
      · have : ¬ (q : Int) = b := by omega
        simp [this, Ne.symm ne, e2]
    · by_cases e3 : p = b
      · subst e3
        by_cases e4 : q = k
        · subst e4
          simp [e1]
          have : vl Rc p q = x := ex
          omega
        · have : ¬ (q : Int) = k := by omega
          simp [this, e1, e4]
      · simp [e1, e3]
  refine ⟨⟨(P.wf.upR h1).upR ((has_upR h1).mpr h2), fun p q => ?_, fun p q => ?_, fun p hp => ?_⟩, ne⟩
  · rw [← P.con p q, val p q, val q p]
    by_cases e1 : p = k <;> by_cases e2 : q = b <;> by_cases e3 : p = b <;> by_cases e4 : q = k <;> simp [e1, e2, e3, e4] <;> omega
  · have z := P.nn p q
    have y0 := P.nn k b
    rw [val]
    by_cases e1 : p = k
    · have e3 : ¬ p = b := fun q => ne (q ▸ e1)
      by_cases e2 : q = b <;> simp [e1, e2, Ne.symm ne] <;> (rw [e1] at z) <;> omega
    · by_cases e3 : p = b
      · by_cases e4 : q = k
        · rw [e3, e4, ex]
          simp [ne]
          omega
        · simp [e1, e3, e4, ne]
          rw [e3] at z
          omega
      · simp [e1, e3]
        exact z
  · have s0 := P.sum p hp
    have e := sm_congr (n := 2 * n + 2) fun q _ => val p q
    have e' : sm (rN (upR (upR Rc b k (x - 1)) k b (y + 1)) p) (2 * n + 2) = sm (fun q => rN Rc p q + (if p = k then (if q = b then 1 else 0) else 0) + (if p = b then (if q = k then -1 else 0) else 0)) (2 * n + 2) := e
    rw [e', sm_add, sm_add]
    have t1 : sm (fun q => if p = k then (if q = b then (1 : Int) else 0) else 0) (2 * n + 2) = if p = k then 1 else 0 := by
      by_cases e1 : p = k
      · simp only [e1, if_true]
        rw [sm_single (a := b) hb fun i _ z => by simp [z]]
        simp
      · simp only [e1, if_false]
        exact sm_zero _
    have t2 : sm (fun q => if p = b then (if q = k then (-1 : Int) else 0) else 0) (2 * n + 2) = if p = b then -1 else 0 := by
      by_cases e1 : p = b
      · simp only [e1, if_true]
        rw [sm_single (a := k) hk fun i _ z => by simp [z]]
        simp
      · simp only [e1, if_false]
        exact sm_zero _
    rw [t1, t2]
    have s1 : sm (fun q => rN Rc p q) (2 * n + 2) = sm (rN Rc p) (2 * n + 2) := rfl
    rw [s1, s0]
    by_cases e1 : p = k <;> by_cases e2 : p = b <;> by_cases e3 : p = t <;> simp [e1, e2, e3] <;> omega
def sp_push (K : PySem.W.Frag) : Sp := fun vs H Q _ => ∃ (a d : Addr) (ls : List Addr) (n : Nat) (R : Nat → List (Int × Int)) (s t : Nat) (m : List (Int × Int)), vs = [.ref a, .ref d, .int s, .int t] ∧ H a = some (.lst (ls.map V.ref)) ∧ DRows H ls (2 * n + 2) R ∧ d ∉ ls ∧ H d = some (.dK (dI m)) ∧ FF n R s m m.length ∧
  lkp m t ≠ none ∧ RWf n R ∧ (∀ p q, 0 ≤ rN R p q) ∧ n ≤ 40 ∧ ∀ H' R', KeepX ls H H' → DRows H' ls (2 * n + 2) R' → Pushed n R s t R' → Q .non H'
theorem sp_push.len {K : PySem.W.Frag} {vs : List V} {H : Hp} {Q : VK} {E : XK} (h : sp_push K vs H Q E) : vs.length = (["rows", "before", "source", "sink"] : List Str).length := by
  obtain ⟨a, d, ls, n, R, s, t, m, rfl, _⟩ := h
  rfl
theorem split_of {m : List (Int × Int)} {k : Int} (h : k ∈ m.map (·.1)) : ∃ pre b post, m = pre ++ (k, b) :: post := by
  obtain ⟨⟨k', b⟩, hm, rfl⟩ := List.mem_map.mp h
  obtain ⟨pre, post, e⟩ := List.append_of_mem hm
  exact ⟨pre, b, post, e⟩
theorem lkp_split {pre post : List (Int × Int)} {k b : Int} (n : ((pre ++ (k, b) :: post).map (·.1)).Nodup) : lkp (pre ++ (k, b) :: post) k = some b := lkp_of_mem n (by simp)
abbrev N_push : List Str := ["rows", "before", "source", "sink", "point"]
theorem sc_push : FnScope N_push ["rows", "before", "source", "sink"] (defScope s_push) := ⟨rfl, rfl, rfl, by decide +kernel, rfl, by decide +kernel, by decide +kernel⟩
theorem ok_push {P : Program} {w : World} {K : PySem.W.Frag} {mg : Str → Option Value} {base : Heap} (W : Hd K mg) : OkD P w K mg base 1 "push" ["rows", "before", "source", "sink"] (sp_push K) := by
  obtain ⟨fd, F⟩ := W.df_push
  refine okD_mk F W.mg_push (fun _ _ _ _ _ _ us hl => match us, hl with | [_, _, _, _], _ => rfl) ?_
  refine F.ok sc_push (fun vs H Q E h => sp_push.len h) (fun cdv A outer s H vs Q E hr h => ⟨_, PSs.nox ((pss_cons (ps_set (i := 4) sc_push.nd rfl (by first | exact .inl rfl | exact .inr rfl) (pv 3))
  (pss_one (ps_while PassesOwn.never (pt_cmpR op_ne (pv 4) (pv 2) (nomark _))
  (pss_cons (ps_daug (hu_of hr) (pe_ix (ix_listK K) (pv 0) (pe_dget (hu_of hr) (pv 1) (pv 4) (fun _ _ => rfl)) (fun _ _ => rfl)) (pv 4) pe_int in_sub (fun _ _ _ => rfl))
  (pss_cons (ps_daug (hu_of hr) (pe_ix (ix_listK K) (pv 0) (pv 4) (fun _ _ => rfl)) (pe_dget (hu_of hr) (pv 1) (pv 4) (fun _ _ => rfl)) pe_int in_add (fun _ _ _ => rfl))
  (pss_one (ps_set (i := 4) sc_push.nd rfl (by first | exact .inl rfl | exact .inr rfl) (pe_dget (hu_of hr) (pv 1) (pv 4) (fun _ _ => rfl)))))))))), ?_⟩)
  try dsimp only [cxOf, Cx.nox, Cx.wish]
  obtain ⟨a, d, ls, n, R, s, t, m, rfl, hr, hd, ndl, hm, F, ht, wf, nn, h40, k⟩ := h
  walk_at "go"
  refine g_wh (fun μ σ' H' => ∃ (p : Nat) (pre : List (Int × Int)) (b : Int) (post : List (Int × Int)) (Rc : Nat → List (Int × Int)), σ' = [some (.ref a), some (.ref d), some (.int s), some (.int t), some (.int p)] ∧ KeepX ls H H' ∧ DRows H' ls (2 * n + 2) Rc ∧ Pushed n R p t Rc ∧
    m = pre ++ ((p : Int), b) :: post ∧ (∀ pre1 k1 b1 post1, pre ++ [((p : Int), b)] = pre1 ++ (k1, b1) :: post1 → pre1 = [] ∨ 0 < vl Rc b1.toNat k1) ∧ μ = pre.length) ?_ ?_
  · obtain ⟨pre, b, post, e⟩ := split_of (lkp_in.mpr ht)
    refine ⟨pre.length, t, pre, b, post, R, rfl, fun b o _ h => h, hd, Pushed.refl wf nn t, e, fun pre1 k1 b1 post1 e1 => ?_, rfl⟩
    have e2 : m = pre1 ++ (k1, b1) :: (post1 ++ post) := by
      rw [e]
      have : pre ++ ((t : Int), b) :: post = (pre ++ [((t : Int), b)]) ++ post := by simp
      rw [this, e1]
      simp
    rcases F.pr _ _ _ _ e2 with h | h
    · exact .inl h.1
    · exact .inr h.2
  · rintro μ σ' H' ⟨p, pre, b, post, Rc, rfl, kx, hd', P, e, pos, rfl⟩
    have nal : a ∉ ls := fun z => by
      obtain ⟨r, hr2⟩ := hd.isD z
      rw [hr] at hr2
      cases hr2
    have hr' := kx _ _ nal hr
    have hm' := kx _ _ ndl hm
    have rp := F.ok p (by rw [e]; simp)
    walk_at "go"
    refine g_ite (fun ne => ?_) (fun eq => ?_)
    · refine g_whN ?_
      have fn := F.nd
      rw [e] at fn
      obtain ⟨hb, _⟩ : b ∈ pre.map (·.1) ∧ 0 < vl R b.toNat p := by
        rcases F.pr _ _ _ _ e with ⟨_, h, _⟩ | h
        · exact absurd h ne
        · exact h
      have hv : 0 < vl Rc b.toNat p := by
        rcases pos pre p b [] rfl with h | h
        · rw [h] at hb
          simp at hb
        · exact h
      have rb := F.ok b (by rw [e, List.map_append]; exact List.mem_append_left _ hb)
      obtain ⟨b', rfl⟩ : ∃ b' : Nat, b = b' := ⟨b.toNat, by omega⟩
      rw [Int.toNat_natCast] at hv
      obtain ⟨hh, hx⟩ := vl_has hv
      have hy0 := P.wf.sym b' p hh
      obtain ⟨y, hy⟩ := Option.ne_none_iff_exists'.mp hy0
      have lk : lkp m p = some (b' : Int) := by rw [e]; exact lkp_split fn
      obtain ⟨P2, nbp⟩ := P.step hx hv hy
      have lb := P.wf.len b'
      have lp := P.wf.len p
      walk_at "go"
      refine g_rdget hm' lk ?_
      refine g_drow hr' hd' (by omega) (by omega) fun l1 hl1 hv1 => ?_
      rw [Int.toNat_natCast] at hl1 hv1
      walk_at "go"
      refine g_rda hv1 hx ?_
      walk_at "go"
      refine g_rdb hv1 (by omega) ?_
      have d1 := hd'.put hl1 (putI (Rc b') p (vl Rc b' p - 1))
      have m1 := List.mem_of_getElem? hl1
      have hr1 : upd H' l1 (.dK (dI (putI (Rc b') p (vl Rc b' p - 1)))) a = some (.lst (ls.map V.ref)) := by rw [upd_ne (ne_mem m1 nal)]; exact hr'
      have hm1 : upd H' l1 (.dK (dI (putI (Rc b') p (vl Rc b' p - 1)))) d = some (.dK (dI m)) := by rw [upd_ne (ne_mem m1 ndl)]; exact hm'
      have k1 : KeepX ls H (upd H' l1 (.dK (dI (putI (Rc b') p (vl Rc b' p - 1))))) := fun c o nc h => by rw [upd_ne (ne_mem m1 nc)]; exact kx c o nc h
      generalize upd H' l1 (.dK (dI (putI (Rc b') p (vl Rc b' p - 1)))) = H1 at d1 hr1 hm1 k1 ⊢
      walk_at "go"
      refine g_drow hr1 d1 (by omega) (by omega) fun l2 hl2 hv2 => ?_
      rw [Int.toNat_natCast] at hl2 hv2
      have npb : ¬ p = b' := Ne.symm nbp
      simp only [npb, if_false] at hv2
      walk_at "go"
      refine g_rdget hm1 lk ?_
      refine g_rda hv2 hy ?_
      walk_at "go"
      refine g_rdb hv2 (by omega) ?_
      have d2 := d1.put hl2 (putI (Rc p) b' (y + 1))
      have m2 := List.mem_of_getElem? hl2
      have hr2 : upd H1 l2 (.dK (dI (putI (Rc p) b' (y + 1)))) a = some (.lst (ls.map V.ref)) := by rw [upd_ne (ne_mem m2 nal)]; exact hr1
      have hm2 : upd H1 l2 (.dK (dI (putI (Rc p) b' (y + 1)))) d = some (.dK (dI m)) := by rw [upd_ne (ne_mem m2 ndl)]; exact hm1
      have k2 : KeepX ls H (upd H1 l2 (.dK (dI (putI (Rc p) b' (y + 1))))) := fun c o nc h => by rw [upd_ne (ne_mem m2 nc)]; exact k1 c o nc h
      generalize upd H1 l2 (.dK (dI (putI (Rc p) b' (y + 1)))) = H2 at d2 hr2 hm2 k2 ⊢
      walk_at "go"
      refine g_rdget hm2 lk ?_
      obtain ⟨pre', c, post', e'⟩ := split_of hb
      refine ⟨pre'.length, by rw [e']; simp, b', pre', c, post' ++ ((p : Int), (b' : Int)) :: post, _, rfl, k2, ?_, P2, ?_, fun pre1 k1' b1 post1 e1 => ?_, rfl⟩
      · have ef : (fun j => if j = p then putI (Rc p) b' (y + 1) else if j = b' then putI (Rc b') p (vl Rc b' p - 1) else Rc j) = upR (upR Rc b' p (vl Rc b' p - 1)) p b' (y + 1) := by
          funext j
          unfold upR
          by_cases q1 : j = p
          · subst q1
            simp [npb]
          · simp [q1]
        rw [← ef]
        exact d2
      · rw [e, e']
        simp
      · have e2 : pre ++ [((p : Int), (b' : Int))] = pre1 ++ (k1', b1) :: (post1 ++ post' ++ [((p : Int), (b' : Int))]) := by
          rw [e']
          have : pre' ++ ((b' : Int), c) :: post' = (pre' ++ [((b' : Int), c)]) ++ post' := by simp
          rw [this, e1]
          simp
        rcases pos _ _ _ _ e2 with h | h
        · exact .inl h
        · refine .inr ?_
          rw [vl_upR, vl_upR]
          have nk : k1' ≠ p := by
            rintro rfl
            have hin : (p : Int) ∈ pre.map (·.1) := by
              have : pre = pre1 ++ ((p : Int), b1) :: (post1 ++ post') := by
                have e3 : pre ++ [((p : Int), (b' : Int))] = (pre1 ++ ((p : Int), b1) :: (post1 ++ post')) ++ [((p : Int), (b' : Int))] := by rw [e2]; simp
                exact (List.append_inj' e3 rfl).1
              rw [this]
              simp
            rw [List.map_append] at fn
            exact (List.nodup_append.mp fn).2.2 _ hin _ (by simp) rfl
          by_cases q1 : b1.toNat = p ∧ k1' = b'
          · rw [if_pos q1]
            have := P.nn p b'
            have : rN Rc p b' = y := by unfold rN vl; rw [hy]; rfl
            omega
          · rw [if_neg q1, if_neg fun z => nk z.2]
            exact h
    · walk_at "go"
      have e2 : p = s := by omega
      subst e2
      exact k H' Rc kx hd' P

/-! ### greatest_flow -/
theorem cap_ak {n : Nat} {Es : List (Int × Int)} {A B : List Int} {p q : Int} (h : cap n Es A B p q ≠ 0) : AK n p q := by
  unfold cap at h
  split at h
  · unfold AK; omega
  · split at h
    · rename_i h1
      rcases h1 with ⟨a1, a2, a3, a4, a5⟩ | ⟨a1, a2, a3, a4⟩ | ⟨a1, a2, a3, a4⟩ <;> (unfold AK; omega)
    · exact absurd rfl h
theorem Arcs.wf {n : Nat} {Es : List (Int × Int)} {A B : List Int} {R : Nat → List (Int × Int)} (h : Arcs n Es A B R) : RWf n R := ⟨h.a.nd, fun p q z => by
  obtain ⟨x, hx⟩ := Option.ne_none_iff_exists'.mp z
  exact (h.a.cp p q x hx).2, h.sym⟩
theorem Arcs.val {n : Nat} {Es : List (Int × Int)} {A B : List Int} {R : Nat → List (Int × Int)} (h : Arcs n Es A B R) (p q : Nat) : rN R p q = cap n Es A B p q := by
  unfold rN vl
  cases e : lkp (R p) q with
  | some x => exact (h.a.cp p q x e).1
  | none =>
    refine Classical.byContradiction fun z => ?_
    have z : cap n Es A B p q ≠ 0 := fun y => z (by rw [y]; rfl)
    exact h.all p q (cap_ak z) z e
theorem Arcs.fl {n : Nat} {Es : List (Int × Int)} {A B : List Int} {R : Nat → List (Int × Int)} (h : Arcs n Es A B R) : Fl n Es A B (rN R) :=
  ⟨fun p q => by rw [h.val]; exact cap_nn p q, fun p q => by rw [h.val, h.val], fun p _ => sm_congr fun q _ => h.val p q⟩
theorem Pushed.fl {n : Nat} {Es : List (Int × Int)} {A B : List Int} {R R' : Nat → List (Int × Int)} (P : Pushed n R (2 * n) (2 * n + 1) R') (F : Fl n Es A B (rN R)) : Fl n Es A B (rN R') :=
  ⟨P.nn, fun p q => by rw [P.con, F.con], fun p hp => by
    rw [P.sum p (by omega), if_neg (by omega), if_neg (by omega), F.bal p hp]
    omega⟩
def sp_greatest_flow (K : PySem.W.Frag) : Sp := fun vs H Q _ => ∃ (g la lb : V) (n : Nat) (Es : List (Int × Int)) (A B : List Int), vs = [g, la, lb] ∧ rGraph K No H g (n, Es) ∧ rInts No H la A ∧ rInts No H lb B ∧ GoodE n Es ∧ n ≤ 40 ∧ (∀ x ∈ A, 0 ≤ x ∧ x < n) ∧ (∀ x ∈ B, 0 ≤ x ∧ x < n) ∧
  ∀ H' a ls R, Same H H' → H' a = some (.lst (ls.map V.ref)) → H a = none → (∀ l ∈ ls, H l = none) → DRows H' ls (2 * n + 2) R → RWf n R → Fl n Es A B (rN R) → (∃ m, FF n R (2 * n : Nat) m m.length ∧ lkp m (2 * n + 1 : Nat) = none) → Q (.ref a) H'
theorem sp_greatest_flow.len {K : PySem.W.Frag} {vs : List V} {H : Hp} {Q : VK} {E : XK} (h : sp_greatest_flow K vs H Q E) : vs.length = (["graph", "first", "second"] : List Str).length := by
  obtain ⟨g, la, lb, n, Es, A, B, rfl, _⟩ := h
  rfl
abbrev N_greatest_flow : List Str := ["graph", "first", "second", "source", "sink", "rows", "before"]
theorem sc_greatest_flow : FnScope N_greatest_flow ["graph", "first", "second"] (defScope s_greatest_flow) := ⟨rfl, rfl, rfl, by decide +kernel, rfl, by decide +kernel, by decide +kernel⟩
theorem ok_greatest_flow {P : Program} {w : World} {K : PySem.W.Frag} {mg : Str → Option Value} {base : Heap} (W : Hd K mg) : OkD P w K mg base 2 "greatest_flow" ["graph", "first", "second"] (sp_greatest_flow K) := by
  obtain ⟨fd, F⟩ := W.df_greatest_flow
  refine okD_mk F W.mg_greatest_flow (fun _ _ _ _ _ _ us hl => match us, hl with | [_, _, _], _ => rfl) ?_
  refine F.ok sc_greatest_flow (fun vs H Q E h => sp_greatest_flow.len h) (fun cdv A outer s H vs Q E hr h => ⟨_, PSs.nox ((pss_cons (ps_par (i := 3) (j := 4) rfl sc_greatest_flow.nd rfl rfl (by decide) rfl rfl (pa_cons (pe_op op_mul pe_int (pe_fld (pv 0) rfl)) (pa_cons (pe_op op_add (pe_op op_mul pe_int (pe_fld (pv 0) rfl)) pe_int) pa_nil)) (by rfl))
  (pss_cons (ps_set (i := 5) sc_greatest_flow.nd rfl (by first | exact .inl rfl | exact .inr rfl) (pe_callD (ok_arcs_of W) (hr.mono (by decide)) (pa_cons (pv 0) (pa_cons (pv 1) (pa_cons (pv 2) pa_nil)))))
  (pss_cons (ps_set (i := 6) sc_greatest_flow.nd rfl (by first | exact .inl rfl | exact .inr rfl) (pe_callD (ok_found_from W) (hr.mono (by decide)) (pa_cons (pv 5) (pa_cons (pv 3) pa_nil))))
  (pss_cons (ps_while PassesOwn.never (pt_cmp (pc_din (hu_of hr) (pv 4) (pv 6)) (by rfl))
  (pss_cons (ps_expr (pe_callD (ok_push W) (hr.mono (by decide)) (pa_cons (pv 5) (pa_cons (pv 6) (pa_cons (pv 3) (pa_cons (pv 4) pa_nil))))))
  (pss_one (ps_set (i := 6) sc_greatest_flow.nd rfl (by first | exact .inl rfl | exact .inr rfl) (pe_callD (ok_found_from W) (hr.mono (by decide)) (pa_cons (pv 5) (pa_cons (pv 3) pa_nil)))))))
  (pss_one (ps_ret (pv 5)))))))), ?_⟩)
  try dsimp only [cxOf, Cx.nox, Cx.wish]
  obtain ⟨gv, av, bv, n, Es, A, B, rfl, rg, ra, rb, good, h40, inA, inB, k⟩ := h
  obtain ⟨g, dx, e, l, rfl, _, hg, re, rl⟩ := id rg
  obtain ⟨fa, rfl, _, hfa⟩ := id ra
  obtain ⟨fb, rfl, _, hfb⟩ := id rb
  walk_at "go"
  refine ⟨.ref g, .ref fa, .ref fb, n, Es, A, B, rfl, rg, ra, rb, good, h40, inA, inB, fun H1 a ls R s1 hr na nl hd ar => ?_⟩
  have c1 : 2 * (n : Int) = ((2 * n : Nat) : Int) := by omega
  have c2 : ((2 * n : Nat) : Int) + 1 = ((2 * n + 1 : Nat) : Int) := by omega
  rw [c1, c2]
  walk_at "go"
  refine ⟨a, ls, n, R, (2 * n : Nat), rfl, hr, hd, ar.wf, h40, by omega, by omega, fun H2 d m s2 nd hm F => ?_⟩
  walk_at "go"
  have ndl : d ∉ ls := fun z => by
    obtain ⟨r, h⟩ := hd.isD z
    rw [nd] at h
    cases h
  refine g_wh (fun μ σ' H' => ∃ (R : Nat → List (Int × Int)) (d : Addr) (m : List (Int × Int)), σ' = [some (.ref g), some (.ref fa), some (.ref fb), some (.int (2 * n : Nat)), some (.int (2 * n + 1 : Nat)), some (.ref a), some (.ref d)] ∧ Same H H' ∧ H' a = some (.lst (ls.map V.ref)) ∧
    DRows H' ls (2 * n + 2) R ∧ RWf n R ∧ Fl n Es A B (rN R) ∧ d ∉ ls ∧ H' d = some (.dK (dI m)) ∧ FF n R (2 * n : Nat) m m.length ∧ μ = (sm (rN R (2 * n)) (2 * n + 2)).toNat) ⟨_, R, d, m, rfl, Same.trans s1 s2, s2 _ _ hr, hd.same s2, ar.wf, ar.fl, ndl, hm, F, rfl⟩ ?_
  rintro μ σ' H' ⟨R, d, m, rfl, sm1, hr', hd', wf, fl, ndl, hm', F, rfl⟩
  walk_at "go"
  refine g_iteS (fun v hv => ?_) (fun hv => ?_)
  · refine g_whN ?_
    walk_at "go"
    refine ⟨a, d, ls, n, R, 2 * n, 2 * n + 1, m, rfl, hr', hd', ndl, hm', F, by rw [hv]; simp, wf, fl.nn, h40, fun H3 R' kx hd3 P => ?_⟩
    have nal : a ∉ ls := fun z => by
      obtain ⟨r, h⟩ := hd'.isD z
      rw [hr'] at h
      cases h
    have s3 := KeepX.same sm1 kx nl
    have hr3 := kx _ _ nal hr'
    walk_at "go"
    refine ⟨a, ls, n, R', (2 * n : Nat), rfl, hr3, hd3, P.wf, h40, by omega, by omega, fun H4 d4 m4 s4 nd4 hm4 F4 => ?_⟩
    walk_at "go"
    have dec := P.sum (2 * n) (by omega)
    rw [if_neg (by omega), if_pos rfl] at dec
    have n1 := sm_nn (f := rN R' (2 * n)) (n := 2 * n + 2) fun i _ => P.nn _ i
    refine ⟨_, ?_, R', d4, m4, rfl, Same.trans s3 s4, s4 _ _ hr3, hd3.same s4, P.wf, P.fl fl, fun z => ?_, hm4, F4, rfl⟩
    · omega
    · obtain ⟨r, h⟩ := hd3.isD z
      rw [nd4] at h
      cases h
  · walk_at "go"
    exact k H' a ls R sm1 hr' na nl hd' wf fl ⟨m, F, hv⟩
/-! ### used, walk -/
def sp_used (K : PySem.W.Frag) : Sp := fun vs H Q _ => ∃ (a : Addr) (ls : List Addr) (n : Nat) (R : Nat → List (Int × Int)) (u v : Nat), vs = [.ref a, .int u, .int v] ∧ H a = some (.lst (ls.map V.ref)) ∧ DRows H ls (2 * n + 2) R ∧ v < n ∧ n ≤ 40 ∧ Q (.bl (decide (0 < rN R (2 * v) (2 * u + 1)))) H
theorem sp_used.len {K : PySem.W.Frag} {vs : List V} {H : Hp} {Q : VK} {E : XK} (h : sp_used K vs H Q E) : vs.length = (["rows", "node", "other"] : List Str).length := by
  obtain ⟨a, ls, n, R, u, v, rfl, _⟩ := h
  rfl
abbrev N_used : List Str := ["rows", "node", "other"]
theorem sc_used : FnScope N_used ["rows", "node", "other"] (defScope s_used) := ⟨rfl, rfl, rfl, by decide +kernel, rfl, by decide +kernel, by decide +kernel⟩
theorem ok_used {P : Program} {w : World} {K : PySem.W.Frag} {mg : Str → Option Value} {base : Heap} (W : Hd K mg) : OkD P w K mg base 1 "used" ["rows", "node", "other"] (sp_used K) := by
  obtain ⟨fd, F⟩ := W.df_used
  refine okD_mk F W.mg_used (fun _ _ _ _ _ _ us hl => match us, hl with | [_, _, _], _ => rfl) ?_
  refine F.ok sc_used (fun vs H Q E h => sp_used.len h) (fun cdv A outer s H vs Q E hr h => ⟨_, PSs.nox ((pss_one (ps_ret (pe_cmpR op_gt (pe_dget2 (hu_of hr) (pe_ix (ix_listK K) (pv 0) (pe_op op_mul pe_int (pv 2)) (fun _ _ => rfl)) (pe_op op_add (pe_op op_mul pe_int (pv 1)) pe_int) pe_int ⟨rfl, rfl, rfl, rfl⟩) pe_int (nomark _))))), ?_⟩)
  try dsimp only [cxOf, Cx.nox, Cx.wish]
  obtain ⟨a, ls, n, R, u, v, rfl, hr, hd, hv, h40, k⟩ := h
  walk_at "go"
  refine g_drow hr hd (by omega) (by omega) fun l1 hl1 hv1 => ?_
  walk_at "go"
  have e1 : (2 * (v : Int)).toNat = 2 * v := by omega
  have e2 : 2 * (u : Int) + 1 = ((2 * u + 1 : Nat) : Int) := by omega
  rw [e1, e2]
  have e3 : decide ((lkp (R (2 * v)) ((2 * u + 1 : Nat) : Int)).getD 0 > 0) = decide (0 < rN R (2 * v) (2 * u + 1)) := rfl
  rw [e3]
  exact k
/-- neighbours in the list keep P -/
def Chain (P : Int → Int → Prop) (l : List Int) : Prop := ∀ (i : Nat) x y, l[i]? = some x → l[i + 1]? = some y → P x y
/-- a walk along the flow -/
structure Wk (n : Nat) (Es : List (Int × Int)) (R : Nat → List (Int × Int)) (v : Int) (l : List Int) : Prop where
  hd : l[0]? = some v
  rg : ∀ x ∈ l, 0 ≤ x ∧ x < n
  nd : l.Nodup
  ch : Chain (fun x y => Adj Es x y ∧ 0 < rN R (2 * y.toNat) (2 * x.toNat + 1)) l
/-- one unit runs into a node at most -/
theorem Fl.uniq {n : Nat} {Es : List (Int × Int)} {A B : List Int} {r : Nat → Nat → Int} (F : Fl n Es A B r) {v : Nat} (hv : v < n) {q q' : Nat} (h1 : q < 2 * n + 2) (h2 : q' < 2 * n + 2) (n1 : q ≠ 2 * v + 1) (n2 : q' ≠ 2 * v + 1) (g1 : 0 < r (2 * v) q) (g2 : 0 < r (2 * v) q') : q = q' := by
  refine Classical.byContradiction fun ne => ?_
  have a := (F.inn hv).2 q q' h1 h2 n1 n2 ne
  have b := F.thr hv
  have c1 := F.anti q (2 * v)
  have c2 := F.anti q' (2 * v)
  have d1 : flw n Es A B r (2 * v) q = - r (2 * v) q := by unfold flw; rw [cap_in hv n1]; omega
  have d2 : flw n Es A B r (2 * v) q' = - r (2 * v) q' := by unfold flw; rw [cap_in hv n2]; omega
  omega
/-- what runs in runs on -/
theorem Fl.go {n : Nat} {Es : List (Int × Int)} {A B : List Int} {r : Nat → Nat → Int} (F : Fl n Es A B r) {v : Nat} (hv : v < n) {q : Nat} (h1 : q < 2 * n + 2) (n1 : q ≠ 2 * v + 1) (g1 : 0 < r (2 * v) q) : 0 < r (2 * n + 1) (2 * v + 1) ∨ ∃ w : Nat, w < n ∧ Adj Es v w ∧ 0 < r (2 * w) (2 * v + 1) := by
  have a := (F.inn hv).1 q h1 n1
  have c1 := F.anti q (2 * v)
  have d1 : flw n Es A B r (2 * v) q = - r (2 * v) q := by unfold flw; rw [cap_in hv n1]; omega
  obtain ⟨p, hp, np, gp⟩ := F.on hv (by omega)
  have le := F.le (2 * v + 1) p
  have e2 := F.anti p (2 * v + 1)
  have e3 : flw n Es A B r p (2 * v + 1) = - r p (2 * v + 1) := by unfold flw; rw [cap_out hv np]; omega
  rcases cap_kind (n := n) (Es := Es) (A := A) (B := B) (2 * v + 1) p with c | ⟨u, hu, eu, _⟩ | ⟨c, k⟩
  · omega
  · omega
  · rcases k with ⟨u, w, hu, hw, eu, ew, ad⟩ | ⟨u, hu, eu, _⟩ | ⟨u, hu, eu, ew, m⟩
    · have : u = v := by omega
      subst this
      exact .inr ⟨w, hw, ad, by rw [← ew]; omega⟩
    · omega
    · exact .inl (by rw [← ew]; omega)
theorem Fl.snk {n : Nat} {Es : List (Int × Int)} {A B : List Int} {r : Nat → Nat → Int} (F : Fl n Es A B r) {v : Nat} (hv : v < n) (h : 0 < r (2 * n + 1) (2 * v + 1)) : (v : Int) ∈ B := by
  have c := F.con (2 * n + 1) (2 * v + 1)
  rw [cap_fromsnk] at c
  have := F.nn (2 * v + 1) (2 * n + 1)
  rcases cap_kind (n := n) (Es := Es) (A := A) (B := B) (2 * v + 1) (2 * n + 1) with c' | ⟨u, hu, eu, _⟩ | ⟨c', k⟩
  · omega
  · omega
  · rcases k with ⟨u, w, hu, hw, eu, ew, a⟩ | ⟨u, hu, eu, _⟩ | ⟨u, hu, eu, ew, m⟩
    · omega
    · omega
    · have : u = v := by omega
      subst this
      exact m
theorem Wk.grow {n : Nat} {Es : List (Int × Int)} {A B : List Int} {R : Nat → List (Int × Int)} (F : Fl n Es A B (rN R)) (good : GoodE n Es) {v : Int} {ys : List Int} {x w : Int} (W : Wk n Es R v (ys ++ [x])) (hs : 0 < rN R (2 * v.toNat) (2 * n)) (aw : Adj Es x w) (hu : 0 < rN R (2 * w.toNat) (2 * x.toNat + 1)) : Wk n Es R v (ys ++ [x] ++ [w]) := by
  have rx := W.rg x (by simp)
  have rw' := good.at aw.symm
  have nx : x ≠ w := good.ne aw
  have hl : (ys ++ [x])[ys.length]? = some x := by simp
  refine ⟨get_app W.hd, fun y hy => ?_, nd_snoc W.nd fun hw => ?_, fun i y z hy hz => ?_⟩
  · rcases List.mem_append.mp hy with hy | hy
    · exact W.rg y hy
    · rw [List.mem_singleton.mp hy]
      exact rw'
  · obtain ⟨i, hi, e⟩ := List.mem_iff_getElem.mp hw
    have hi' : (ys ++ [x])[i]? = some w := by rw [List.getElem?_eq_getElem hi, e]
    cases i with
    | zero =>
      rw [W.hd] at hi'
      cases hi'
      have := F.uniq (v := v.toNat) (by omega) (q := 2 * n) (q' := 2 * x.toNat + 1) (by omega) (by omega) (by omega) (by omega) hs hu
      omega
    | succ j =>
      have hj : j < (ys ++ [x]).length := by omega
      have ej : (ys ++ [x])[j]? = some (ys ++ [x])[j] := List.getElem?_eq_getElem hj
      obtain ⟨a1, a2⟩ := W.ch j _ w ej hi'
      have rj := W.rg _ (List.getElem_mem hj)
      have ne2 := good.ne a1
      have := F.uniq (v := w.toNat) (by omega) (q := 2 * (ys ++ [x])[j].toNat + 1) (q' := 2 * x.toNat + 1) (by omega) (by omega) (by omega) (by omega) a2 hu
      have e3 : (ys ++ [x])[j] = x := by omega
      have hx : (ys ++ [x])[ys.length]'(by simp) = x := by simp
      have := (List.getElem_inj W.nd).mp (e3.trans hx.symm)
      simp at hi
      omega
  · by_cases q : i + 1 < (ys ++ [x]).length
    · rw [List.getElem?_append_left (by omega)] at hy
      rw [List.getElem?_append_left q] at hz
      exact W.ch i y z hy hz
    · have h1 := (List.getElem?_eq_some_iff.mp hz).1
      have e : i = ys.length := by simp at q h1; omega
      subst e
      rw [get_app hl] at hy
      cases hy
      have : (ys ++ [x] ++ [w])[ys.length + 1]? = some w := by simp
      rw [this] at hz
      cases hz
      exact ⟨aw, hu⟩
def sp_walk (K : PySem.W.Frag) : Sp := fun vs H Q _ => ∃ (g : V) (a : Addr) (ls : List Addr) (n : Nat) (Es : List (Int × Int)) (A B : List Int) (R : Nat → List (Int × Int)) (v : Nat), vs = [g, .ref a, .int v, .int (2 * n + 1 : Nat)] ∧ rGraph K No H g (n, Es) ∧ H a = some (.lst (ls.map V.ref)) ∧ DRows H ls (2 * n + 2) R ∧ GoodE n Es ∧ n ≤ 40 ∧ v < n ∧
  Fl n Es A B (rN R) ∧ 0 < rN R (2 * v) (2 * n) ∧ ∀ H' u l x, Same H H' → Wk n Es R v (l ++ [x]) → 0 < rN R (2 * n + 1) (2 * x.toNat + 1) → rInts (Trk H) H' u (l ++ [x]) → Q u H'
theorem sp_walk.len {K : PySem.W.Frag} {vs : List V} {H : Hp} {Q : VK} {E : XK} (h : sp_walk K vs H Q E) : vs.length = (["graph", "rows", "start", "sink"] : List Str).length := by
  obtain ⟨g, a, ls, n, Es, A, B, R, v, rfl, _⟩ := h
  rfl
abbrev N_walk : List Str := ["graph", "rows", "start", "sink", "path", "here", "other"]
theorem sc_walk : FnScope N_walk ["graph", "rows", "start", "sink"] (defScope s_walk) := ⟨rfl, rfl, rfl, by decide +kernel, rfl, by decide +kernel, by decide +kernel⟩
theorem ok_walk {P : Program} {w : World} {K : PySem.W.Frag} {mg : Str → Option Value} {base : Heap} (W : Hd K mg) : OkD P w K mg base 2 "walk" ["graph", "rows", "start", "sink"] (sp_walk K) := by
  obtain ⟨fd, F⟩ := W.df_walk
  refine okD_mk F W.mg_walk (fun _ _ _ _ _ _ us hl => match us, hl with | [_, _, _, _], _ => rfl) ?_
  refine F.ok sc_walk (fun vs H Q E h => sp_walk.len h) (fun cdv A outer s H vs Q E hr h => ⟨_, PSs.nox ((pss_cons (ps_set (i := 4) sc_walk.nd rfl (by first | exact .inl rfl | exact .inr rfl) (pe_lst (pa_cons (pv 2) pa_nil)))
  (pss_cons (ps_while PassesOwn.never (pt_cmpR op_eq (pe_dget2 (hu_of hr) (pe_ix (ix_listK K) (pv 1) (pv 3) (fun _ _ => rfl)) (pe_op op_add (pe_op op_mul pe_int (pe_ix (ix_listK K) (pv 4) (pe_un un_neg pe_int) (fun _ _ => rfl))) pe_int) pe_int ⟨rfl, rfl, rfl, rfl⟩) pe_int (nomark _))
  (pss_cons (ps_set (i := 5) sc_walk.nd rfl (by first | exact .inl rfl | exact .inr rfl) (pe_ix (ix_listK K) (pv 4) (pe_un un_neg pe_int) (fun _ _ => rfl)))
  (pss_one (ps_for PassesOwn.never rfl (pi_list (pe_ix (ix_listK K) (pe_fld (pv 0) rfl) (pv 5) (fun _ _ => rfl))) (pg_name (i := 6) sc_walk.nd rfl (by first | exact .inl rfl | exact .inr rfl))
  (pss_one (ps_if (pt_val (pe_callD (ok_used W) (hr.mono (by decide)) (pa_cons (pv 1) (pa_cons (pv 5) (pa_cons (pv 6) pa_nil)))))
  (pss_cons (ps_expr (pe_bmK K PySem.F.plainAttrs_list PySem.F.slot_list_append PySem.F.type_list_append mt_append (pv 4) (pa_cons (pv 6) pa_nil)))
  (pss_one ps_break))
  pss_nil))))))
  (pss_one (ps_ret (pv 4)))))), ?_⟩)
  try dsimp only [cxOf, Cx.nox, Cx.wish]
  obtain ⟨gv, a, ls, n, Es, A, B, R, v, rfl, rg, hr, hd, good, h40, hv, F, hs, k⟩ := h
  obtain ⟨g, dx, e, l, rfl, _, hg, re, rl⟩ := id rg
  obtain ⟨lk, ⟨la, rfl, _, hla⟩, pl⟩ := rl
  walk_at "go"
  intro P nP
  walk_at "go"
  refine g_wh (fun μ σ' H' => Same H H' ∧ ∃ (ys : List Int) (x : Int) (w w2 : Option V), σ' = [some (.ref g), some (.ref a), some (.int v), some (.int (2 * n + 1 : Nat)), some (.ref P), w, w2] ∧ H' P = some (.lst ((ys ++ [x]).map V.int)) ∧ Wk n Es R v (ys ++ [x]) ∧ μ = n - ys.length) ⟨n, ?_⟩ ?_
  · exact ⟨Same.new (Same.refl _) nP, [], v, none, none, rfl, upd_same, ⟨rfl, by simp; omega, by simp, fun i x y _ h2 => by simp at h2⟩, rfl⟩
  rintro μ σ' H' ⟨sm, ys, x, w, w2, rfl, hP, W, rfl⟩
  have hr' := sm _ _ hr
  have hg' := sm _ _ hg
  have hla' := sm _ _ hla
  have rx := W.rg x (by simp)
  obtain ⟨x, rfl⟩ : ∃ x' : Nat, x = x' := ⟨x.toNat, by omega⟩
  have yl : (ys ++ [(x : Int)]).length ≤ n := nd_len W.nd W.rg
  rw [List.length_append] at yl
  simp at yl
  walk_at "go"
  refine g_drow hr' (hd.same sm) (by omega) (by omega) fun l1 hl1 hv1 => ?_
  walk_at "go"
  refine g_last hP ?_
  walk_at "go"
  have e1 : (((2 * n + 1 : Nat) : Int)).toNat = 2 * n + 1 := by omega
  have e2 : 2 * (x : Int) + 1 = ((2 * x + 1 : Nat) : Int) := by omega
  rw [e1, e2]
  have nn := F.nn (2 * n + 1) (2 * x + 1)
  have e3 : (lkp (R (2 * n + 1)) ((2 * x + 1 : Nat) : Int)).getD 0 = rN R (2 * n + 1) (2 * x + 1) := rfl
  rw [e3]
  refine g_ite (fun z => ?_) (fun nz => ?_)
  · refine g_whN ?_
    walk_at "go"
    refine g_last hP ?_
    walk_at "go"
    obtain ⟨y, hy, ⟨b, rfl, _, hb⟩⟩ := Paired.get' pl (links_get (n := n) (E := Es) (v := x) (by omega))
    refine g_ix hla' (atI_at (by omega) (by rw [Int.toNat_natCast]; exact hy)) ?_
    refine for_ints (sm _ _ hb) (fun pre σ2 H2 => H2 = H' ∧ (∃ w : Option V, σ2 = [some (.ref g), some (.ref a), some (.int v), some (.int (2 * n + 1 : Nat)), some (.ref P), some (.int x), w]) ∧ ∀ u ∈ pre, ¬ 0 < rN R (2 * u.toNat) (2 * x + 1)) ?_ ?_ ?_ ?_
    · exact ⟨rfl, ⟨_, rfl⟩, by simp⟩
    · rintro pre σ2 H2 _ ⟨rfl, _⟩
      exact sm _ _ hb
    · rintro pre u post σ2 H2 eu ⟨rfl, ⟨w, rfl⟩, T⟩
      have au : Adj Es x u := (mem_nb good).mp (by rw [eu]; simp)
      have ru := good.at au.symm
      obtain ⟨u, rfl⟩ : ∃ u' : Nat, u = u' := ⟨u.toNat, by omega⟩
      walk_at "go"
      refine ⟨a, ls, n, R, x, u, rfl, hr', hd.same sm, by omega, h40, ?_⟩
      walk_at "go"
      refine g_ite (fun us => ?_) (fun nus => ?_)
      · walk_at "go"
        refine g_appI hP (small_of (by simp; omega)) ?_
        have W2 := W.grow F good hs au us
        exact ⟨n - (ys ++ [(x : Int)]).length, by simp; omega, Same.mut sm nP, _, _, _, _, rfl, upd_same, W2, rfl⟩
      · walk_at "go"
        refine ⟨rfl, ⟨_, rfl⟩, fun y hy => ?_⟩
        rcases List.mem_append.mp hy with hy | hy
        · exact T y hy
        · rw [List.mem_singleton.mp hy]
          exact nus
    · rintro σ2 H2 ⟨rfl, ⟨w, rfl⟩, T⟩
      exfalso
      have key : ∃ q, q < 2 * n + 2 ∧ q ≠ 2 * x + 1 ∧ 0 < rN R (2 * x) q := by
        rcases List.eq_nil_or_concat ys with rfl | ⟨zs, z, rfl⟩
        · have h := W.hd
          simp at h
          have : x = v := by omega
          subst this
          exact ⟨2 * n, by omega, by omega, hs⟩
        · rw [List.concat_eq_append] at W
          obtain ⟨a1, a2⟩ := W.ch zs.length z x (by simp) (by simp)
          have rz := W.rg z (by simp)
          have ne := good.ne a1
          rw [Int.toNat_natCast] at a2
          exact ⟨2 * z.toNat + 1, by omega, by omega, a2⟩
      obtain ⟨q, h1, h2, h3⟩ := key
      rcases F.go (by omega) h1 h2 h3 with h | ⟨u, hu, au, h⟩
      · omega
      · exact T u ((mem_nb good).mpr au) (by rw [Int.toNat_natCast]; exact h)
  · walk_at "go"
    exact k H' (.ref P) ys x sm W (by rw [Int.toNat_natCast]; omega) ⟨P, rfl, fun z => z nP, hP⟩

/-! ### shortened -/
/-- w is the short of l -/
structure SH (A B : List Int) (l w : List Int) : Prop where
  sub : ∃ pre post, l = pre ++ w ++ post
  fst : ∃ x r, w = x :: r ∧ x ∈ A ∧ ∀ y ∈ r, y ∉ A
  lst : ∃ ys z, w = ys ++ [z] ∧ z ∈ B ∧ ∀ y ∈ ys, y ∉ B
def sp_shortened (K : PySem.W.Frag) : Sp := fun vs H Q _ => ∃ (p fa fb : Addr) (l A B : List Int), vs = [.ref p, .ref fa, .ref fb] ∧ H p = some (.lst (l.map V.int)) ∧ H fa = some (.lst (A.map V.int)) ∧ H fb = some (.lst (B.map V.int)) ∧ (∃ x, l[0]? = some x ∧ x ∈ A) ∧ (∃ x, l[l.length - 1]? = some x ∧ x ∈ B) ∧ l.length ≤ 1000 ∧
  ∀ H' v w, Same H H' → SH A B l w → rInts (Trk H) H' v w → Q v H'
theorem sp_shortened.len {K : PySem.W.Frag} {vs : List V} {H : Hp} {Q : VK} {E : XK} (h : sp_shortened K vs H Q E) : vs.length = (["path", "first", "second"] : List Str).length := by
  obtain ⟨p, fa, fb, l, A, B, rfl, _⟩ := h
  rfl
abbrev N_shortened : List Str := ["path", "first", "second", "begin", "at", "node"]
theorem sc_shortened : FnScope N_shortened ["path", "first", "second"] (defScope s_shortened) := ⟨rfl, rfl, rfl, by decide +kernel, rfl, by decide +kernel, by decide +kernel⟩
theorem ok_shortened {P : Program} {w : World} {K : PySem.W.Frag} {mg : Str → Option Value} {base : Heap} (W : Hd K mg) : OkD P w K mg base 1 "shortened" ["path", "first", "second"] (sp_shortened K) := by
  obtain ⟨fd, F⟩ := W.df_shortened
  refine okD_mk F W.mg_shortened (fun _ _ _ _ _ _ us hl => match us, hl with | [_, _, _], _ => rfl) ?_
  refine F.ok sc_shortened (fun vs H Q E h => sp_shortened.len h) (fun cdv A outer s H vs Q E hr h => ⟨_, PSs.nox ((pss_cons (ps_set (i := 3) sc_shortened.nd rfl (by first | exact .inl rfl | exact .inr rfl) pe_int)
  (pss_cons (ps_for PassesOwn.never rfl (pi_enum (by rfl) (W.fr_enumerate) (pa_cons (pv 0) pa_nil)) (pg_tupK K (n := 2) rfl (pgs_cons (pg_name (i := 4) sc_shortened.nd rfl (by first | exact .inl rfl | exact .inr rfl)) (pgs_cons (pg_name (i := 5) sc_shortened.nd rfl (by first | exact .inl rfl | exact .inr rfl)) pgs_nil)))
  (pss_one (ps_if (pt_cmpR (op_inK K) (pv 5) (pv 1) (by rfl))
  (pss_one (ps_set (i := 3) sc_shortened.nd rfl (by first | exact .inl rfl | exact .inr rfl) (pv 4)))
  pss_nil)))
  (pss_cons (ps_for PassesOwn.never rfl (pi_range2 (by rfl) (W.fr_range) (pa_cons (pv 3) (pa_cons (pe_callB (call_lenK K) (by rfl) (W.fr_len) PySem.boot_len (pa_cons (pv 0) pa_nil)) pa_nil))) (pg_name (i := 4) sc_shortened.nd rfl (by first | exact .inl rfl | exact .inr rfl))
  (pss_one (ps_if (pt_cmpR (op_inK K) (pe_ix (ix_listK K) (pv 0) (pv 4) (fun _ _ => rfl)) (pv 2) (by rfl))
  (pss_one (ps_ret (pe_slice (sl_listK K) (pv 0) (po_some (pv 3)) (po_some (pe_op op_add (pv 4) pe_int)))))
  pss_nil)))
  (pss_one (ps_ret (pe_slice (sl_listK K) (pv 0) (po_some (pv 3)) po_none))))))), ?_⟩)
  try dsimp only [cxOf, Cx.nox, Cx.wish]
  obtain ⟨p, fa, fb, l, A, B, rfl, hp, ha, hb, ⟨x0, hx0, mx0⟩, ⟨x1, hx1, mx1⟩, hl, k⟩ := h
  walk_at "go"
  refine for_enum (R := fun x (i : Int) => x = .int i) (h := hp) (pr := paired_map l) (fun pre σ' H' => Same H H' ∧ ∃ (b : Nat) (u v : Option V), σ' = [some (.ref p), some (.ref fa), some (.ref fb), some (.int b), u, v] ∧ (pre ≠ [] → b < pre.length ∧ ∃ x, l[b]? = some x ∧ x ∈ A) ∧ (pre = [] → b = 0) ∧ ∀ j x, b < j → j < pre.length → l[j]? = some x → x ∉ A) ?_ ?_ ?_ ?_
  · exact ⟨Same.refl _, 0, _, _, rfl, fun z => absurd rfl z, fun _ => rfl, fun j x _ h => by simp at h⟩
  · rintro pre σ' H' _ ⟨sm, _⟩
    exact sm _ _ hp
  · rintro pre x v post σ' H' T e rfl ⟨sm, b, u, v', rfl, h1, h2, h3⟩ nT
    have ha' := (Same.new (o := .tup [.int (pre.length : Nat), .int v]) sm nT) _ _ ha
    have hv : l[pre.length]? = some v := by rw [e]; simp
    walk_at "go"
    refine g_ite (fun i1 => ?_) (fun i1 => ?_)
    · walk_at "go"
      refine ⟨Same.new sm nT, pre.length, _, _, rfl, fun _ => ⟨by simp, v, hv, i1⟩, fun z => by simp at z, fun j x a1 a2 => ?_⟩
      simp at a2
      omega
    · walk_at "go"
      have np : pre ≠ [] := by
        rintro rfl
        rw [List.length_nil, hx0] at hv
        cases hv
        exact i1 mx0
      refine ⟨Same.new sm nT, b, _, _, rfl, fun _ => ⟨by have := (h1 np).1; simp; omega, (h1 np).2⟩, fun z => by simp at z, fun j x a1 a2 hj => ?_⟩
      by_cases q : j = pre.length
      · subst q
        rw [hv] at hj
        cases hj
        exact i1
      · exact h3 j x a1 (by simp at a2; omega) hj
  · rintro σ' H1 ⟨sm, b, u, v', rfl, h1, h2, h3⟩
    have nl : l ≠ [] := by
      rintro rfl
      simp at hx0
    obtain ⟨bl, x, hx, xA⟩ := h1 nl
    have hp1 := sm _ _ hp
    walk_at "go"
    refine for_rng2 (by omega) (by omega) (by omega) (fun i σ' H' => (b : Int) ≤ i ∧ H' = H1 ∧ (∃ u v : Option V, σ' = [some (.ref p), some (.ref fa), some (.ref fb), some (.int b), u, v]) ∧ ∀ j x, b ≤ j → (j : Nat) < i → l[j]? = some x → x ∉ B) ?_ ?_ ?_
    · exact ⟨Int.le_refl _, rfl, ⟨_, _, rfl⟩, fun j x _ _ => by omega⟩
    · rintro i σ' H' hi0 hi1 ⟨_, rfl, ⟨u, v, rfl⟩, T⟩
      obtain ⟨i, rfl⟩ : ∃ i' : Nat, i = i' := ⟨i.toNat, by omega⟩
      have il : i < l.length := by omega
      obtain ⟨y, hy⟩ : ∃ y, l[i]? = some y := ⟨l[i], List.getElem?_eq_getElem il⟩
      have hb' := sm _ _ hb
      walk_at "go"
      refine g_ixI hp1 (atI_at (by omega) (by rw [Int.toNat_natCast]; exact hy)) ?_
      walk_at "go"
      refine g_ite (fun i1 => ?_) (fun i1 => ?_)
      · walk_at "go"
        intro c nc
        have e1 : l = l.take b ++ (l.drop b).take (i + 1 - b) ++ l.drop (i + 1) := by
          have a1 : l.drop (i + 1) = (l.drop b).drop (i + 1 - b) := by rw [List.drop_drop]; congr 1; omega
          rw [a1, List.append_assoc, List.take_append_drop, List.take_append_drop]
        have ln1 : (l.take b).length = b := by rw [List.length_take]; omega
        have ln2 : ((l.drop b).take (i + 1 - b)).length = i + 1 - b := by rw [List.length_take, List.length_drop]; omega
        have cut : cutV (l.map V.int) (some (b : Int)) (some ((i : Int) + 1)) = ((l.drop b).take (i + 1 - b)).map V.int := by
          have := cut_mid (pre := (l.take b).map V.int) (mid := ((l.drop b).take (i + 1 - b)).map V.int) (post := (l.drop (i + 1)).map V.int)
          rw [← List.map_append, ← List.map_append, ← e1, List.length_map, List.length_map, ln1, ln2] at this
          have e2 : ((b + (i + 1 - b) : Nat) : Int) = (i : Int) + 1 := by omega
          rw [e2] at this
          exact this
        rw [cut]
        refine k _ _ _ (Same.new sm nc) ⟨⟨_, _, e1⟩, ?_, ?_⟩ ⟨c, rfl, fun z => z (sm.free nc), upd_same⟩
        · have e3 : l.drop b = x :: l.drop (b + 1) := by
            obtain ⟨hb1, hb2⟩ := List.getElem?_eq_some_iff.mp hx
            rw [← List.getElem_cons_drop hb1, hb2]
          refine ⟨x, (l.drop (b + 1)).take (i - b), ?_, xA, fun y hy => ?_⟩
          · rw [e3, show i + 1 - b = i - b + 1 by omega, List.take_succ_cons]
          · obtain ⟨j, hj, ej⟩ := List.mem_iff_getElem.mp hy
            have hj2 : ((l.drop (b + 1)).take (i - b))[j]? = some y := by rw [List.getElem?_eq_getElem hj, ej]
            rw [List.length_take, List.length_drop] at hj
            rw [List.getElem?_take_of_lt (by omega), List.getElem?_drop] at hj2
            exact h3 (b + 1 + j) y (by omega) (by omega) hj2
        · refine ⟨(l.drop b).take (i - b), y, ?_, i1, fun z hz => ?_⟩
          · rw [show i + 1 - b = i - b + 1 by omega, List.take_add_one, List.getElem?_drop, show b + (i - b) = i by omega, hy]
            rfl
          · obtain ⟨j, hj, ej⟩ := List.mem_iff_getElem.mp hz
            have hj2 : ((l.drop b).take (i - b))[j]? = some z := by rw [List.getElem?_eq_getElem hj, ej]
            rw [List.length_take, List.length_drop] at hj
            rw [List.getElem?_take_of_lt (by omega), List.getElem?_drop] at hj2
            exact T (b + j) z (by omega) (by omega) hj2
      · walk_at "go"
        refine ⟨by omega, rfl, ⟨_, _, rfl⟩, fun j x a1 a2 hj => ?_⟩
        by_cases q : j = i
        · subst q
          rw [hy] at hj
          cases hj
          exact i1
        · exact T j x a1 (by omega) hj
    · rintro σ' H' ⟨_, rfl, ⟨u, v, rfl⟩, T⟩
      exact absurd mx1 (T (l.length - 1) x1 (by omega) (by omega) hx1)

/-! ### ways_of -/
/-- a way from A to B -/
structure Way (n : Nat) (Es : List (Int × Int)) (A B w : List Int) : Prop where
  rg : ∀ x ∈ w, 0 ≤ x ∧ x < n
  nd : w.Nodup
  ch : Chain (Adj Es) w
  fst : ∃ x r, w = x :: r ∧ x ∈ A ∧ ∀ y ∈ r, y ∉ A
  lst : ∃ ys z, w = ys ++ [z] ∧ z ∈ B ∧ ∀ y ∈ ys, y ∉ B
abbrev Off (w w' : List Int) : Prop := ∀ y ∈ w, y ∉ w'
theorem Off.symm {w w' : List Int} (h : Off w w') : Off w' w := fun y h1 h2 => h y h2 h1
theorem Wk.meet {n : Nat} {Es : List (Int × Int)} {A B : List Int} {R : Nat → List (Int × Int)} (F : Fl n Es A B (rN R)) (good : GoodE n Es) {v v' : Int} {l l' : List Int} (W : Wk n Es R v l) (W' : Wk n Es R v' l') (hs : 0 < rN R (2 * v.toNat) (2 * n)) (hs' : 0 < rN R (2 * v'.toNat) (2 * n)) :
    ∀ (i j : Nat) x, l[i]? = some x → l'[j]? = some x → v = v'
  | 0, 0, x, h, h' => by
    rw [W.hd] at h
    rw [W'.hd] at h'
    cases h
    cases h'
    rfl
  | 0, j + 1, x, h, h' => by
    rw [W.hd] at h
    cases h
    obtain ⟨y, hy⟩ : ∃ y, l'[j]? = some y := ⟨l'[j]'(by have := (List.getElem?_eq_some_iff.mp h').1; omega), List.getElem?_eq_getElem _⟩
    obtain ⟨a1, a2⟩ := W'.ch j y _ hy h'
    have r1 := good.at a1
    have r2 := good.at a1.symm
    have ne := good.ne a1
    have := F.uniq (v := v.toNat) (by omega) (q := 2 * n) (q' := 2 * y.toNat + 1) (by omega) (by omega) (by omega) (by omega) hs a2
    omega
  | i + 1, 0, x, h, h' => by
    rw [W'.hd] at h'
    cases h'
    obtain ⟨y, hy⟩ : ∃ y, l[i]? = some y := ⟨l[i]'(by have := (List.getElem?_eq_some_iff.mp h).1; omega), List.getElem?_eq_getElem _⟩
    obtain ⟨a1, a2⟩ := W.ch i y _ hy h
    have r1 := good.at a1
    have r2 := good.at a1.symm
    have ne := good.ne a1
    have := F.uniq (v := v'.toNat) (by omega) (q := 2 * n) (q' := 2 * y.toNat + 1) (by omega) (by omega) (by omega) (by omega) hs' a2
    omega
  | i + 1, j + 1, x, h, h' => by
    obtain ⟨y, hy⟩ : ∃ y, l[i]? = some y := ⟨l[i]'(by have := (List.getElem?_eq_some_iff.mp h).1; omega), List.getElem?_eq_getElem _⟩
    obtain ⟨y', hy'⟩ : ∃ y, l'[j]? = some y := ⟨l'[j]'(by have := (List.getElem?_eq_some_iff.mp h').1; omega), List.getElem?_eq_getElem _⟩
    obtain ⟨a1, a2⟩ := W.ch i y _ hy h
    obtain ⟨b1, b2⟩ := W'.ch j y' _ hy' h'
    have r1 := good.at a1
    have r2 := good.at a1.symm
    have r3 := good.at b1
    have ne := good.ne a1
    have ne' := good.ne b1
    have := F.uniq (v := x.toNat) (by omega) (q := 2 * y.toNat + 1) (q' := 2 * y'.toNat + 1) (by omega) (by omega) (by omega) (by omega) a2 b2
    have e : y = y' := by omega
    exact Wk.meet F good W W' hs hs' i j y hy (by rw [e]; exact hy')
theorem Wk.way {n : Nat} {Es : List (Int × Int)} {A B : List Int} {R : Nat → List (Int × Int)} {v : Int} {l w : List Int} (W : Wk n Es R v l) (S : SH A B l w) : Way n Es A B w := by
  obtain ⟨pre, post, e⟩ := S.sub
  refine ⟨fun x hx => W.rg x (by rw [e]; simp [hx]), ?_, fun i x y h1 h2 => ?_, S.fst, S.lst⟩
  · have := W.nd
    rw [e, List.append_assoc] at this
    exact (List.nodup_append.mp (List.nodup_append.mp this).2.1).1
  · have l1 := (List.getElem?_eq_some_iff.mp h1).1
    have l2 := (List.getElem?_eq_some_iff.mp h2).1
    refine (W.ch (pre.length + i) x y ?_ ?_).1
    · rw [e, List.append_assoc, List.getElem?_append_right (by omega), List.getElem?_append_left (by omega), show pre.length + i - pre.length = i by omega, h1]
    · rw [e, List.append_assoc, List.getElem?_append_right (by omega), List.getElem?_append_left (by omega), show pre.length + i + 1 - pre.length = i + 1 by omega, h2]
/-- how the ways stand to the starts -/
structure WO (n : Nat) (Es : List (Int × Int)) (A B : List Int) (R : Nat → List (Int × Int)) (pre : List Int) (ws : List (List Int)) : Prop where
  len : ws.length = (pre.filter fun v => decide (0 < rN R (2 * v.toNat) (2 * n))).length
  src : ∀ w ∈ ws, ∃ v ∈ pre, ∃ l, Wk n Es R v l ∧ 0 < rN R (2 * v.toNat) (2 * n) ∧ SH A B l w
  apart : ws.Pairwise Off
theorem Fl.has {n : Nat} {Es : List (Int × Int)} {A B : List Int} {R : Nat → List (Int × Int)} (F : Fl n Es A B (rN R)) (wf : RWf n R) {v : Nat} (hv : v < n) (m : (v : Int) ∈ A) : Has R (2 * v) (2 * n : Nat) := by
  refine Classical.byContradiction fun z => ?_
  have z2 : ¬ Has R (2 * n) (2 * v : Nat) := fun h => z (wf.sym _ _ h)
  have h1 : rN R (2 * v) (2 * n) = 0 := by
    unfold Has at z
    have := Classical.byContradiction fun y => z y
    unfold rN vl
    rw [this]
    rfl
  have h2 : rN R (2 * n) (2 * v) = 0 := by
    unfold Has at z2
    have := Classical.byContradiction fun y => z2 y
    unfold rN vl
    rw [this]
    rfl
  have := F.con (2 * v) (2 * n)
  rw [cap_tosrc, cap_src hv m, h1, h2] at this
  omega
def sp_ways_of (K : PySem.W.Frag) : Sp := fun vs H Q _ => ∃ (g : V) (a fa fb : Addr) (ls : List Addr) (n : Nat) (Es : List (Int × Int)) (A B : List Int) (R : Nat → List (Int × Int)), vs = [g, .ref a, .ref fa, .ref fb] ∧ rGraph K No H g (n, Es) ∧ H fa = some (.lst (A.map V.int)) ∧ H fb = some (.lst (B.map V.int)) ∧ H a = some (.lst (ls.map V.ref)) ∧ DRows H ls (2 * n + 2) R ∧ GoodE n Es ∧ n ≤ 40 ∧
  RWf n R ∧ Fl n Es A B (rN R) ∧ Rising n A ∧ ∀ H' u ws, Same H H' → WO n Es A B R A ws → rLst rInts (Trk H) H' u ws → Q u H'
theorem sp_ways_of.len {K : PySem.W.Frag} {vs : List V} {H : Hp} {Q : VK} {E : XK} (h : sp_ways_of K vs H Q E) : vs.length = (["graph", "rows", "first", "second"] : List Str).length := by
  obtain ⟨g, a, fa, fb, ls, n, Es, A, B, R, rfl, _⟩ := h
  rfl
abbrev N_ways_of : List Str := ["graph", "rows", "first", "second", "source", "sink", "found", "node", "path"]
theorem sc_ways_of : FnScope N_ways_of ["graph", "rows", "first", "second"] (defScope s_ways_of) := ⟨rfl, rfl, rfl, by decide +kernel, rfl, by decide +kernel, by decide +kernel⟩
theorem ok_ways_of {P : Program} {w : World} {K : PySem.W.Frag} {mg : Str → Option Value} {base : Heap} (W : Hd K mg) : OkD P w K mg base 3 "ways_of" ["graph", "rows", "first", "second"] (sp_ways_of K) := by
  obtain ⟨fd, F⟩ := W.df_ways_of
  refine okD_mk F W.mg_ways_of (fun _ _ _ _ _ _ us hl => match us, hl with | [_, _, _, _], _ => rfl) ?_
  refine F.ok sc_ways_of (fun vs H Q E h => sp_ways_of.len h) (fun cdv A outer s H vs Q E hr h => ⟨_, PSs.nox ((pss_cons (ps_par (i := 4) (j := 5) rfl sc_ways_of.nd rfl rfl (by decide) rfl rfl (pa_cons (pe_op op_mul pe_int (pe_fld (pv 0) rfl)) (pa_cons (pe_op op_add (pe_op op_mul pe_int (pe_fld (pv 0) rfl)) pe_int) pa_nil)) (by rfl))
  (pss_cons (ps_set (i := 6) sc_ways_of.nd rfl (by first | exact .inl rfl | exact .inr rfl) (pe_lst pa_nil))
  (pss_cons (ps_for PassesOwn.never rfl (pi_list (pv 2)) (pg_name (i := 7) sc_ways_of.nd rfl (by first | exact .inl rfl | exact .inr rfl))
  (pss_one (ps_if (pt_cmpR op_gt (pe_dget (hu_of hr) (pe_ix (ix_listK K) (pv 1) (pe_op op_mul pe_int (pv 7)) (fun _ _ => rfl)) (pv 4) (fun _ _ => rfl)) pe_int (nomark _))
  (pss_cons (ps_set (i := 8) sc_ways_of.nd rfl (by first | exact .inl rfl | exact .inr rfl) (pe_callD (ok_walk W) (hr.mono (by decide)) (pa_cons (pv 0) (pa_cons (pv 1) (pa_cons (pv 7) (pa_cons (pv 5) pa_nil))))))
  (pss_one (ps_expr (pe_bmK K PySem.F.plainAttrs_list PySem.F.slot_list_append PySem.F.type_list_append mt_append (pv 6) (pa_cons (pe_callD (ok_shortened W) (hr.mono (by decide)) (pa_cons (pv 8) (pa_cons (pv 2) (pa_cons (pv 3) pa_nil)))) pa_nil)))))
  pss_nil)))
  (pss_one (ps_ret (pv 6))))))), ?_⟩)
  try dsimp only [cxOf, Cx.nox, Cx.wish]
  obtain ⟨gv, a, fa, fb, ls, n, Es, A, B, R, rfl, rg, ha, hb, hr, hd, good, h40, wf, F, riA, k⟩ := h
  obtain ⟨g, dx, e, l, rfl, _, hg, re, rl⟩ := id rg
  walk_at "go"
  intro D nD
  have c1 : 2 * (n : Int) = ((2 * n : Nat) : Int) := by omega
  have c2 : ((2 * n : Nat) : Int) + 1 = ((2 * n + 1 : Nat) : Int) := by omega
  rw [c1, c2]
  walk_at "go"
  refine for_ints (h := (Same.new (Same.refl H) nD) _ _ ha) (fun pre σ' H' => (∃ u v : Option V, σ' = [some (.ref g), some (.ref a), some (.ref fa), some (.ref fb), some (.int (2 * n : Nat)), some (.int (2 * n + 1 : Nat)), some (.ref D), u, v]) ∧ ∃ ws, Col rInts (Trk H) H D H' ws ∧ WO n Es A B R pre ws) ?_ ?_ ?_ ?_
  · exact ⟨⟨_, _, rfl⟩, [], Col.nil nD, ⟨rfl, by simp, List.Pairwise.nil⟩⟩
  · rintro pre σ' H' _ ⟨_, ws, c, _⟩
    exact c.same _ _ ha
  · rintro pre v post σ' H' e ⟨⟨u, u2, rfl⟩, ws, c, O⟩
    have sm := c.same
    have hr' := sm _ _ hr
    have mv : v ∈ A := by rw [e]; simp
    have rv := riA.2 v mv
    have riA' := riA
    rw [e] at riA'
    have nv : v ∉ pre := fun z => by
      have := (List.pairwise_append.mp riA'.1).2.2 v z v List.mem_cons_self
      omega
    have lA := riA.len
    rw [e] at lA
    simp at lA
    obtain ⟨v, rfl⟩ : ∃ v' : Nat, v = v' := ⟨v.toNat, by omega⟩
    obtain ⟨x, hx⟩ := Option.ne_none_iff_exists'.mp (F.has wf (v := v) (by omega) mv)
    have ex : rN R (2 * v) (2 * n) = x := by unfold rN vl; rw [hx]; rfl
    obtain ⟨_, vs, hv, _⟩ := id c
    have vl := c.len hv
    have wl : ws.length ≤ pre.length := by rw [O.len]; exact List.length_filter_le _ _
    walk_at "go"
    refine g_drow hr' (hd.same sm) (by omega) (by omega) fun l1 hl1 hv1 => ?_
    have e1 : (2 * (v : Int)).toNat = 2 * v := by omega
    rw [e1] at hv1
    walk_at "go"
    refine g_rdget hv1 hx ?_
    walk_at "go"
    refine g_ite (fun gt => ?_) (fun ngt => ?_)
    · walk_at "go"
      refine ⟨.ref g, a, ls, n, Es, A, B, R, v, rfl, rGraph.frm.mv (.same sm) rg, hr', hd.same sm, good, h40, by omega, F, by omega, fun H2 u l x' s2 W hk hl => ?_⟩
      obtain ⟨p, rfl, np, hp⟩ := hl
      have sm2 := Same.trans sm s2
      have rx := W.rg x' (by simp)
      have inB : x' ∈ B := by
        have := F.snk (v := x'.toNat) (by omega) hk
        have e2 : ((x'.toNat : Nat) : Int) = x' := by omega
        rw [e2] at this
        exact this
      have hvD2 := s2 _ _ hv
      walk_at "go"
      have ln := nd_len W.nd W.rg
      refine ⟨p, fa, fb, l ++ [x'], A, B, rfl, hp, sm2 _ _ ha, sm2 _ _ hb, ⟨v, W.hd, mv⟩, ⟨x', by simp, inB⟩, by omega, fun H3 u3 w s3 S r3 => ?_⟩
      obtain ⟨q, rfl, nq, hq⟩ := r3
      have cF2 := c.step rInts.frm (Same.trans s2 s3)
      have hv2 := (Same.trans s2 s3) _ _ hv
      walk_at "go"
      refine g_app hv2 (small_of (by omega)) ?_
      have nq' : H2 q = none := Classical.byContradiction fun z => nq z
      have cF3 := cF2.app rInts.frm nD hv2 (v := .ref q) (d := w) ⟨q, rfl, fun z => by
        rcases z with z | z
        · rw [z, s2 _ _ hv] at nq'; cases nq'
        · exact z (sm2.free nq'), hq⟩
      refine ⟨⟨_, _, rfl⟩, ws ++ [w], cF3, ⟨?_, fun w' hw' => ?_, List.pairwise_append.mpr ⟨O.apart, by simp, fun w' hw' w2 hw2 y hy hy2 => ?_⟩⟩⟩
      · rw [List.length_append, O.len, List.filter_append, List.length_append]
        congr 1
        have : decide (0 < rN R (2 * (v : Int).toNat) (2 * n)) = true := by rw [Int.toNat_natCast, ex]; exact decide_eq_true gt
        simp only [List.filter_cons, this, if_true]
        rfl
      · rcases List.mem_append.mp hw' with hw' | hw'
        · obtain ⟨v', hv', r⟩ := O.src w' hw'
          exact ⟨v', List.mem_append_left _ hv', r⟩
        · rw [List.mem_singleton.mp hw']
          exact ⟨v, by simp, _, W, by rw [Int.toNat_natCast]; omega, S⟩
      · rw [List.mem_singleton.mp hw2] at hy2
        obtain ⟨v', hv', l', W', hs', S'⟩ := O.src w' hw'
        obtain ⟨p1, p2, e4⟩ := S'.sub
        obtain ⟨p3, p4, e5⟩ := S.sub
        obtain ⟨i, hi, ei⟩ := List.mem_iff_getElem.mp (show y ∈ l' by rw [e4]; simp [hy])
        obtain ⟨j, hj, ej⟩ := List.mem_iff_getElem.mp (show y ∈ l ++ [x'] by rw [e5]; simp [hy2])
        have := Wk.meet F good W' W hs' (by rw [Int.toNat_natCast]; omega) i j y (by rw [List.getElem?_eq_getElem hi, ei]) (by rw [List.getElem?_eq_getElem hj, ej])
        exact nv (this ▸ hv')
    · walk_at "go"
      refine ⟨⟨_, _, rfl⟩, ws, c, ⟨?_, fun w' hw' => ?_, O.apart⟩⟩
      · have : decide (0 < rN R (2 * (v : Int).toNat) (2 * n)) = false := by rw [Int.toNat_natCast, ex]; exact decide_eq_false ngt
        rw [O.len, List.filter_append]
        simp only [List.filter_cons, this]
        simp
      · obtain ⟨v', hv', r⟩ := O.src w' hw'
        exact ⟨v', List.mem_append_left _ hv', r⟩
  · rintro σ' H' ⟨⟨u, v, rfl⟩, ws, c, O⟩
    walk_at "go"
    exact k H' (.ref D) ws c.same O (c.done rInts.frm fun z => z nD)

/-! ### near_cut, disjoint_ways -/
theorem FF.sub {n : Nat} {R : Nat → List (Int × Int)} {s : Int} {m m' : List (Int × Int)} (F : FF n R s m m.length) (F' : FF n R s m' m'.length) : ∀ k, k ∈ m.map (·.1) → k ∈ m'.map (·.1) := by
  have key : ∀ (c : Nat) (pre post : List (Int × Int)), pre.length = c → m = pre ++ post → ∀ k, k ∈ pre.map (·.1) → k ∈ m'.map (·.1) := by
    intro c
    induction c with
    | zero =>
      intro pre post hl _ k hk
      rw [List.length_eq_zero_iff.mp hl] at hk
      simp at hk
    | succ c ih =>
      intro pre post hl e k hk
      rcases List.eq_nil_or_concat pre with rfl | ⟨pre', ⟨x, b⟩, rfl⟩
      · simp at hk
      · rw [List.concat_eq_append] at e hk hl
        have e2 : m = pre' ++ (x, b) :: post := by rw [e]; simp
        have ih' := ih pre' ((x, b) :: post) (by simpa using hl) e2
        rw [List.map_append] at hk
        rcases List.mem_append.mp hk with hk | hk
        · exact ih' k hk
        · simp at hk
          subst hk
          rcases F.pr _ _ _ _ e2 with ⟨_, rfl, _⟩ | ⟨hb, hv⟩
          · exact lkp_in.mpr (by rw [F'.st]; simp)
          · obtain ⟨i, hi, ei⟩ := List.mem_iff_getElem.mp (ih' b hb)
            exact F'.done i b (by rw [List.length_map] at hi; exact hi) (by rw [List.getElem?_eq_getElem hi, ei]) k hv
  intro k hk
  exact key m.length m [] rfl (by simp) k hk
def nearL (n : Nat) (m : List (Int × Int)) : List Int := ((List.range n).map fun (i : Nat) => (i : Int)).filter fun v => decide (lkp m (2 * v) ≠ none ∧ lkp m (2 * v + 1) = none)
theorem mem_nearL {n : Nat} {m : List (Int × Int)} {v : Int} : v ∈ nearL n m ↔ (0 ≤ v ∧ v < n) ∧ lkp m (2 * v) ≠ none ∧ lkp m (2 * v + 1) = none := by
  unfold nearL
  rw [List.mem_filter, List.mem_map]
  simp only [List.mem_range, decide_eq_true_eq]
  constructor
  · rintro ⟨⟨i, hi, rfl⟩, h⟩
    exact ⟨⟨by omega, by omega⟩, h⟩
  · rintro ⟨⟨h0, h1⟩, h⟩
    exact ⟨⟨v.toNat, by omega, by omega⟩, h⟩
theorem nearL_snoc (i : Nat) (m : List (Int × Int)) : nearL (i + 1) m = nearL i m ++ (if lkp m (2 * i) ≠ none ∧ lkp m (2 * i + 1) = none then [(i : Int)] else []) := by
  unfold nearL
  rw [List.range_succ, List.map_append, List.filter_append]
  congr 1
  by_cases h : lkp m (2 * (i : Int)) ≠ none ∧ lkp m (2 * (i : Int) + 1) = none
  · simp [h]
  · rw [if_neg h]
    simp only [List.map_cons, List.map_nil, List.filter_cons, decide_eq_false h]
    simp
def sp_near_cut (K : PySem.W.Frag) : Sp := fun vs H Q _ => ∃ (g : V) (a : Addr) (ls : List Addr) (n : Nat) (Es : List (Int × Int)) (R : Nat → List (Int × Int)), vs = [g, .ref a] ∧ rGraph K No H g (n, Es) ∧ H a = some (.lst (ls.map V.ref)) ∧ DRows H ls (2 * n + 2) R ∧ RWf n R ∧ n ≤ 40 ∧
  ∀ H' u m, Same H H' → FF n R (2 * n : Nat) m m.length → rInts (Trk H) H' u (nearL n m) → Q u H'
theorem sp_near_cut.len {K : PySem.W.Frag} {vs : List V} {H : Hp} {Q : VK} {E : XK} (h : sp_near_cut K vs H Q E) : vs.length = (["graph", "rows"] : List Str).length := by
  obtain ⟨g, a, ls, n, Es, R, rfl, _⟩ := h
  rfl
theorem nearL_len (i : Nat) (m : List (Int × Int)) : (nearL i m).length ≤ i := by
  unfold nearL
  refine Nat.le_trans (List.length_filter_le _ _) ?_
  simp
abbrev N_near_cut : List Str := ["graph", "rows", "before", "node"]
theorem sc_near_cut : FnScope N_near_cut ["graph", "rows"] (defScope s_near_cut) := ⟨rfl, rfl, rfl, by decide +kernel, rfl, by decide +kernel, by decide +kernel⟩
theorem ok_near_cut {P : Program} {w : World} {K : PySem.W.Frag} {mg : Str → Option Value} {base : Heap} (W : Hd K mg) : OkD P w K mg base 2 "near_cut" ["graph", "rows"] (sp_near_cut K) := by
  obtain ⟨fd, F⟩ := W.df_near_cut
  refine okD_mk F W.mg_near_cut (fun _ _ _ _ _ _ us hl => match us, hl with | [_, _], _ => rfl) ?_
  refine F.ok sc_near_cut (fun vs H Q E h => sp_near_cut.len h) (fun cdv A outer s H vs Q E hr h => ⟨_, PSs.nox ((pss_cons (ps_set (i := 2) sc_near_cut.nd rfl (by first | exact .inl rfl | exact .inr rfl) (pe_callD (ok_found_from W) (hr.mono (by decide)) (pa_cons (pv 1) (pa_cons (pe_op op_mul pe_int (pe_fld (pv 0) rfl)) pa_nil))))
  (pss_one (ps_ret (pe_lc (own := [("node", 3)]) (g := gName 3) (tt := _) rfl sc_near_cut.nd (pi_range1 (by rfl) (W.fr_range) (pa_cons (pe_fld (pv 0) rfl) pa_nil)) (blkOk_by (N := N_near_cut) (sc := defScope s_near_cut) (by decide +kernel)) (fun _ _ _ _ _ => pg_name (i := 3) sc_near_cut.nd rfl (Or.inl rfl)) (fun _ _ _ _ _ => pts_one (PW.pt (pw_and (pt_cmp (pc_din (hu_of hr) (pe_op op_mul pe_int (pv 3)) (pv 2)) (by rfl)) (pw_and1 (pt_cmp (pc_dnotin (hu_of hr) (pe_op op_add (pe_op op_mul pe_int (pv 3)) pe_int) (pv 2)) (by rfl)))))) (fun _ _ _ _ _ => (pv 3))))))), ?_⟩)
  try dsimp only [cxOf, Cx.nox, Cx.wish]
  obtain ⟨gv, a, ls, n, Es, R, rfl, rg, hr, hd, wf, h40, k⟩ := h
  obtain ⟨g, dx, e, l, rfl, _, hg, re, rl⟩ := id rg
  walk_at "go"
  have c1 : 2 * (n : Int) = ((2 * n : Nat) : Int) := by omega
  rw [c1]
  refine ⟨a, ls, n, R, (2 * n : Nat), rfl, hr, hd, wf, h40, by omega, by omega, fun H2 d m s2 nd hm F => ?_⟩
  have hg2 := s2 _ _ hg
  walk_at "go"
  refine lc_rng1 (n := (n : Int)) (by omega) (by omega) (fun D i H' => Same H2 H' ∧ H' D = some (.lst ((nearL i m).map V.int))) ?_ ?_ ?_
  · intro D nD
    exact ⟨Same.new (Same.refl _) nD, upd_same⟩
  · rintro D i H' nD hi ⟨sm, hD⟩
    have hm' := sm _ _ hm
    have ln := nearL_len i m
    walk_at "go"
    refine g_iteS (fun v hv => ?_) (fun hv => ?_)
    · walk_at "go"
      refine g_iteNS (fun v' hv' => ?_) (fun hv' => ?_)
      · walk_at "go"
        refine ⟨sm, ?_⟩
        rw [nearL_snoc, if_neg (by rw [hv']; simp), List.append_nil]
        exact hD
      · walk_at "go"
        refine ⟨_, hD, small_of (by rw [List.length_map]; omega), Same.mut sm nD, ?_⟩
        rw [nearL_snoc, if_pos ⟨by rw [hv]; simp, hv'⟩, List.map_append]
        exact upd_same
    · walk_at "go"
      refine ⟨sm, ?_⟩
      rw [nearL_snoc, if_neg (by rw [hv]; simp), List.append_nil]
      exact hD
  · rintro D H' nD ⟨sm, hD⟩
    rw [Int.toNat_natCast] at hD
    walk_at "go"
    exact k H' (.ref D) m (Same.trans s2 sm) F ⟨D, rfl, fun z => z (s2.free nD), hD⟩
/-- disjoint ways, and as many nodes that part A and B -/
structure DW (n : Nat) (Es : List (Int × Int)) (A B : List Int) (ws : List (List Int)) (X : List Int) : Prop where
  way : ∀ w ∈ ws, Way n Es A B w
  apart : ws.Pairwise Off
  rise : Rising n X
  sep : ∀ a ∈ A, a ∉ X → ∀ b, Conn (fun u v => Adj Es u v ∧ v ∉ X) a b → b ∉ B
  len : ws.length = X.length
  on : ∀ x ∈ X, x ∈ A ∨ ∃ u, Adj Es u x
theorem nd_len_eq {l m : List Int} (h1 : l.Nodup) (h2 : m.Nodup) (e : ∀ x, x ∈ l ↔ x ∈ m) : l.length = m.length := ((List.perm_ext_iff_of_nodup h1 h2).mpr e).length_eq
theorem sm_count {P : Nat → Prop} [DecidablePred P] : ∀ n, sm (fun v => if P v then 1 else 0) n = (((List.range n).filter fun v => decide (P v)).length : Nat)
  | 0 => rfl
  | n + 1 => by
    rw [sm, sm_count n, List.range_succ, List.filter_append, List.length_append]
    by_cases h : P n <;> simp [h]
theorem rng_cast {n : Nat} {P : Nat → Bool} : (((List.range n).filter P).map fun (i : Nat) => (i : Int)).Nodup := by
  refine List.pairwise_map.mpr (((List.nodup_range (n := n)).sublist List.filter_sublist).imp fun {a b} ne => ?_)
  omega
theorem DW.mk' {n : Nat} {Es : List (Int × Int)} {A B : List Int} {R : Nat → List (Int × Int)} {ws : List (List Int)} {m : List (Int × Int)} (good : GoodE n Es) (rA : Rising n A) (rB : Rising n B) (fl : Fl n Es A B (rN R)) (F : FF n R (2 * n : Nat) m m.length) (ns : lkp m (2 * n + 1 : Nat) = none) (O : WO n Es A B R A ws) : DW n Es A B ws (nearL n m) := by
  have sl : ∀ u, ¬ Adj Es u u := fun u a => good.ne a rfl
  let Z : Nat → Prop := fun p => lkp m (p : Int) ≠ none
  haveI : DecidablePred Z := fun p => inferInstanceAs (Decidable (¬ _))
  have zs : Z (2 * n) := by show lkp m ((2 * n : Nat) : Int) ≠ none; rw [F.st]; simp
  have zt : ¬ Z (2 * n + 1) := fun h => h ns
  have zc : ∀ p q : Nat, Z p → 0 < rN R p q → Z q := fun p q zp h => by
    obtain ⟨i, hi, ei⟩ := List.mem_iff_getElem.mp (lkp_in.mpr zp)
    exact lkp_in.mp (F.done i p (by rw [List.length_map] at hi; exact hi) (by rw [List.getElem?_eq_getElem hi, ei]) q (by rw [Int.toNat_natCast]; exact h))
  have cut := fl.cut sl Z zs zt fun p q _ _ => zc p q
  obtain ⟨sv, sv2⟩ := fl.srcv
  rw [sv] at cut
  have e1 : sm (fun v => rN R (2 * v) (2 * n)) n = sm (fun v => if 0 < rN R (2 * v) (2 * n) then 1 else 0) n := sm_congr fun v hv => by
    have h1 := (sv2 v hv).1
    have h2 := fl.nn (2 * v) (2 * n)
    by_cases h : 0 < rN R (2 * v) (2 * n)
    · rw [if_pos h]; omega
    · rw [if_neg h]; omega
  rw [e1, sm_count, sm_count] at cut
  have l1 : (A.filter fun v => decide (0 < rN R (2 * v.toNat) (2 * n))).length = ((List.range n).filter fun v => decide (0 < rN R (2 * v) (2 * n))).length := by
    rw [← List.length_map (as := (List.range n).filter fun v => decide (0 < rN R (2 * v) (2 * n))) (fun (i : Nat) => (i : Int))]
    refine nd_len_eq ((rise_nd rA.1).sublist List.filter_sublist) rng_cast fun x => ?_
    simp only [List.mem_filter, List.mem_map, List.mem_range, decide_eq_true_eq]
    constructor
    · rintro ⟨h1, h2⟩
      have := rA.2 x h1
      exact ⟨x.toNat, ⟨by omega, h2⟩, by omega⟩
    · rintro ⟨i, ⟨hi, h2⟩, rfl⟩
      exact ⟨(sv2 i hi).2 h2, by rw [Int.toNat_natCast]; exact h2⟩
  have l2 : (nearL n m).length = ((List.range n).filter fun v => decide (Z (2 * v) ∧ ¬ Z (2 * v + 1))).length := by
    rw [← List.length_map (as := (List.range n).filter fun v => decide (Z (2 * v) ∧ ¬ Z (2 * v + 1))) (fun (i : Nat) => (i : Int))]
    refine nd_len_eq (rise_nd ((range_rise n).sublist List.filter_sublist)) rng_cast fun x => ?_
    rw [mem_nearL]
    simp only [List.mem_filter, List.mem_map, List.mem_range, decide_eq_true_eq]
    constructor
    · rintro ⟨h1, h2, h3⟩
      refine ⟨x.toNat, ⟨by omega, ?_, ?_⟩, by omega⟩
      · show lkp m ((2 * x.toNat : Nat) : Int) ≠ none
        have e : ((2 * x.toNat : Nat) : Int) = 2 * x := by omega
        rw [e]
        exact h2
      · show ¬ lkp m ((2 * x.toNat + 1 : Nat) : Int) ≠ none
        have e : ((2 * x.toNat + 1 : Nat) : Int) = 2 * x + 1 := by omega
        rw [e]
        exact fun z => z h3
    · rintro ⟨i, ⟨hi, h2, h3⟩, rfl⟩
      have e : ((2 * i : Nat) : Int) = 2 * i := by omega
      have e' : ((2 * i + 1 : Nat) : Int) = 2 * i + 1 := by omega
      refine ⟨by omega, ?_, ?_⟩
      · rw [← e]
        exact h2
      · rw [← e']
        exact Classical.byContradiction h3
  refine ⟨fun w hw => ?_, O.apart, ⟨(range_rise n).sublist List.filter_sublist, fun x hx => (mem_nearL.mp hx).1⟩, fun a ha na b c => ?_, ?_, fun x hx => ?_⟩
  · obtain ⟨v, _, l, W, _, S⟩ := O.src w hw
    exact W.way S
  · have inX : ∀ x : Nat, x < n → (x : Int) ∉ nearL n m → Z (2 * x) → Z (2 * x + 1) := fun x hx nx z => Classical.byContradiction fun y => nx (mem_nearL.mpr ⟨by omega, by
      have e : ((2 * x : Nat) : Int) = 2 * x := by omega
      rw [← e]
      exact z, by
      have e : ((2 * x + 1 : Nat) : Int) = 2 * x + 1 := by omega
      rw [← e]
      exact Classical.byContradiction y⟩)
    have key : ∀ b, Conn (fun u v => Adj Es u v ∧ v ∉ nearL n m) a b → (0 ≤ b ∧ b < n) ∧ b ∉ nearL n m ∧ Z (2 * b.toNat) := by
      intro b c
      induction c with
      | refl =>
        have ra := rA.2 a ha
        refine ⟨ra, na, zc (2 * n) _ zs ?_⟩
        have e : ((a.toNat : Nat) : Int) = a := by omega
        have ha' : ((a.toNat : Nat) : Int) ∈ A := by rw [e]; exact ha
        exact fl.free (cap_src (by omega) ha') (by omega) (.inr (.inl ⟨a.toNat, by omega, rfl, rfl, ha'⟩)) sl
      | @step u v _ ad ih =>
        obtain ⟨ru, nu, zu⟩ := ih
        have rv := good.at ad.1.symm
        have eu : ((u.toNat : Nat) : Int) = u := by omega
        have ev : ((v.toNat : Nat) : Int) = v := by omega
        have zu' := inX u.toNat (by omega) (by rw [eu]; exact nu) zu
        have ad' : Adj Es (u.toNat : Nat) (v.toNat : Nat) := by rw [eu, ev]; exact ad.1
        exact ⟨rv, ad.2, zc _ _ zu' (fl.free (cap_wide (by omega) (by omega) ad') (by omega) (.inl ⟨u.toNat, v.toNat, by omega, by omega, rfl, rfl, ad'⟩) sl)⟩
    obtain ⟨rb, nb, zb⟩ := key b c
    intro hb
    have eb : ((b.toNat : Nat) : Int) = b := by omega
    have zb' := inX b.toNat (by omega) (by rw [eb]; exact nb) zb
    have hb' : ((b.toNat : Nat) : Int) ∈ B := by rw [eb]; exact hb
    exact zt (zc _ _ zb' (fl.free (cap_snk (by omega) hb') (by omega) (.inr (.inr ⟨b.toNat, by omega, rfl, rfl, hb'⟩)) sl))
  · rw [O.len, l1, l2]
    omega
  · obtain ⟨rx, z1, z2⟩ := mem_nearL.mp hx
    obtain ⟨pre, b, post, e⟩ := split_of (lkp_in.mpr z1)
    rcases F.pr _ _ _ _ e with ⟨_, h, _⟩ | ⟨hb, hv⟩
    · omega
    · have mb : b ∈ m.map (·.1) := by rw [e, List.map_append]; exact List.mem_append_left _ hb
      have rb := F.ok b mb
      have nb : b ≠ 2 * x + 1 := fun z => by rw [z, lkp_in, z2] at mb; exact mb rfl
      have ex : ((2 * x.toNat : Nat) : Int) = 2 * x := by omega
      have hv' : 0 < rN R b.toNat (2 * x.toNat) := by unfold rN; rw [ex]; exact hv
      have c := fl.con b.toNat (2 * x.toNat)
      have nn := fl.nn (2 * x.toNat) b.toNat
      have z := cap_in (n := n) (Es := Es) (A := A) (B := B) (v := x.toNat) (q := b.toNat) (by omega) (by omega)
      rw [z] at c
      rcases cap_kind (n := n) (Es := Es) (A := A) (B := B) b.toNat (2 * x.toNat) with c' | ⟨u, hu, eu, ew⟩ | ⟨c', k⟩
      · omega
      · omega
      · rcases k with ⟨u, w, hu, hw, eu, ew, ad⟩ | ⟨u, hu, eu, ew, md⟩ | ⟨u, hu, eu, ew, md⟩
        · have : (w : Int) = x := by omega
          rw [this] at ad
          exact .inr ⟨_, ad⟩
        · have : (u : Int) = x := by omega
          rw [this] at md
          exact .inl md
        · omega
def sp_disjoint_ways (K : PySem.W.Frag) : Sp := fun vs H Q _ => ∃ (g la lb : V) (n : Nat) (Es : List (Int × Int)) (A B : List Int), vs = [g, la, lb] ∧ rGraph K No H g (n, Es) ∧ rInts No H la A ∧ rInts No H lb B ∧ GoodE n Es ∧ n ≤ 40 ∧ Rising n A ∧ Rising n B ∧
  ∀ H' v ws X, Same H H' → DW n Es A B ws X → rTup (rLst rInts) rInts (Trk H) H' v (ws, X) → Q v H'
theorem sp_disjoint_ways.len {K : PySem.W.Frag} {vs : List V} {H : Hp} {Q : VK} {E : XK} (h : sp_disjoint_ways K vs H Q E) : vs.length = (["graph", "first", "second"] : List Str).length := by
  obtain ⟨g, la, lb, n, Es, A, B, rfl, _⟩ := h
  rfl
theorem Trk.weak {H H' : Hp} (s : Same H H') {b : Addr} (h : Trk H b) : Trk H' b := fun z => by
  cases q : H b with
  | none => exact h q
  | some o => rw [s _ _ q] at z; cases z
theorem Mov.old {H H' H2 : Hp} (s : Same H H') : Mov (Trk H') H2 (Trk H) H2 := .weak fun _ h => Trk.weak s h
abbrev N_disjoint_ways : List Str := ["graph", "first", "second", "rows"]
theorem sc_disjoint_ways : FnScope N_disjoint_ways ["graph", "first", "second"] (defScope s_disjoint_ways) := ⟨rfl, rfl, rfl, by decide +kernel, rfl, by decide +kernel, by decide +kernel⟩
theorem ok_disjoint_ways {P : Program} {w : World} {K : PySem.W.Frag} {mg : Str → Option Value} {base : Heap} (W : Hd K mg) : OkD P w K mg base 6 "disjoint_ways" ["graph", "first", "second"] (sp_disjoint_ways K) := by
  obtain ⟨fd, F⟩ := W.df_disjoint_ways
  refine okD_mk F W.mg_disjoint_ways (fun _ _ _ _ _ _ us hl => match us, hl with | [_, _, _], _ => rfl) ?_
  refine F.ok sc_disjoint_ways (fun vs H Q E h => sp_disjoint_ways.len h) (fun cdv A outer s H vs Q E hr h => ⟨_, PSs.nox ((pss_cons (ps_expr (pe_callD (ok_check_list W) (hr.mono (by decide)) (pa_cons (pv 0) (pa_cons (pv 1) pa_nil))))
  (pss_cons (ps_expr (pe_callD (ok_check_list W) (hr.mono (by decide)) (pa_cons (pv 0) (pa_cons (pv 2) pa_nil))))
  (pss_cons (ps_set (i := 3) sc_disjoint_ways.nd rfl (by first | exact .inl rfl | exact .inr rfl) (pe_callD (ok_greatest_flow W) (hr.mono (by decide)) (pa_cons (pv 0) (pa_cons (pv 1) (pa_cons (pv 2) pa_nil)))))
  (pss_one (ps_ret (pe_tup (pa_cons (pe_callD (ok_ways_of W) (hr.mono (by decide)) (pa_cons (pv 0) (pa_cons (pv 3) (pa_cons (pv 1) (pa_cons (pv 2) pa_nil))))) (pa_cons (pe_callD (ok_near_cut W) (hr.mono (by decide)) (pa_cons (pv 0) (pa_cons (pv 3) pa_nil))) pa_nil))))))))), ?_⟩)
  try dsimp only [cxOf, Cx.nox, Cx.wish]
  obtain ⟨gv, av, bv, n, Es, A, B, rfl, rg, ra, rb, good, h40, rA, rB, k⟩ := h
  obtain ⟨g, dx, e, l, rfl, _, hg, re, rl⟩ := id rg
  obtain ⟨fa, rfl, _, hfa⟩ := id ra
  obtain ⟨fb, rfl, _, hfb⟩ := id rb
  walk_at "go"
  refine ⟨g, dx, fa, n, e, l, A, rfl, hg, hfa, rA, ?_⟩
  walk_at "go"
  refine ⟨g, dx, fb, n, e, l, B, rfl, hg, hfb, rB, ?_⟩
  walk_at "go"
  refine ⟨.ref g, .ref fa, .ref fb, n, Es, A, B, rfl, rg, ra, rb, good, h40, rA.2, rB.2, fun H1 a ls R s1 hr na nl hd wf fl ⟨m0, F0, n0⟩ => ?_⟩
  walk_at "go"
  refine ⟨.ref g, a, fa, fb, ls, n, Es, A, B, R, rfl, rGraph.frm.mv (.same s1) rg, s1 _ _ hfa, s1 _ _ hfb, hr, hd, good, h40, wf, fl, rA, fun H2 u ws s2 O rw2 => ?_⟩
  walk_at "go"
  refine ⟨.ref g, a, ls, n, Es, R, rfl, rGraph.frm.mv (.same (Same.trans s1 s2)) rg, s2 _ _ hr, hd.same s2, wf, h40, fun H3 u3 m s3 F r3 => ?_⟩
  walk_at "go"
  intro p np
  have s13 := Same.trans s1 (Same.trans s2 s3)
  have s4 : Same H3 (upd H3 p (.tup [u, u3])) := Same.new (Same.refl _) np
  have nm : lkp m (2 * n + 1 : Nat) = none := Classical.byContradiction fun z => by
    have := F.sub F0 _ (lkp_in.mpr z)
    rw [lkp_in, n0] at this
    exact this rfl
  refine k _ _ ws (nearL n m) (Same.trans s13 s4) (DW.mk' good rA rB fl F nm O) ⟨u, u3, ⟨p, rfl, fun z => z (s13.free np), upd_same⟩, ?_, ?_⟩
  · exact (rLst.frm rInts.frm).mv (Mov.trans (.same (Same.trans s3 s4)) (Mov.old s1)) rw2
  · exact rInts.frm.mv (Mov.trans (.same s4) (Mov.old (Same.trans s1 s2))) r3

/-! ### is_path, is_way, are_ways: of what is right -/
structure PathL (n : Nat) (Es : List (Int × Int)) (w : List Int) : Prop where
  rg : ∀ x ∈ w, 0 ≤ x ∧ x < n
  nd : w.Nodup
  ch : Chain (Adj Es) w
  ne : w ≠ []
theorem Way.path {n : Nat} {Es : List (Int × Int)} {A B w : List Int} (W : Way n Es A B w) : PathL n Es w := ⟨W.rg, W.nd, W.ch, by obtain ⟨x, r, rfl, _⟩ := W.fst; simp⟩
theorem PathL.len {n : Nat} {Es : List (Int × Int)} {w : List Int} (W : PathL n Es w) : w.length ≤ n := nd_len W.nd W.rg
def sp_is_path (K : PySem.W.Frag) : Sp := fun vs H Q _ => ∃ (g : V) (p : Addr) (n : Nat) (Es : List (Int × Int)) (w : List Int), vs = [g, .ref p] ∧ rGraph K No H g (n, Es) ∧ H p = some (.lst (w.map V.int)) ∧ GoodE n Es ∧ n ≤ 40 ∧ PathL n Es w ∧ ∀ H', Same H H' → Q (.bl true) H'
theorem sp_is_path.len {K : PySem.W.Frag} {vs : List V} {H : Hp} {Q : VK} {E : XK} (h : sp_is_path K vs H Q E) : vs.length = (["graph", "nodes"] : List Str).length := by
  obtain ⟨g, p, n, Es, w, rfl, _⟩ := h
  rfl
abbrev N_is_path : List Str := ["graph", "nodes", "at", "node"]
theorem sc_is_path : FnScope N_is_path ["graph", "nodes"] (defScope s_is_path) := ⟨rfl, rfl, rfl, by decide +kernel, rfl, by decide +kernel, by decide +kernel⟩
theorem ok_is_path {P : Program} {w : World} {K : PySem.W.Frag} {mg : Str → Option Value} {base : Heap} (W : Hd K mg) : OkD P w K mg base 3 "is_path" ["graph", "nodes"] (sp_is_path K) := by
  obtain ⟨fd, F⟩ := W.df_is_path
  refine okD_mk F W.mg_is_path (fun _ _ _ _ _ _ us hl => match us, hl with | [_, _], _ => rfl) ?_
  refine F.ok sc_is_path (fun vs H Q E h => sp_is_path.len h) (fun cdv A outer s H vs Q E hr h => ⟨_, PSs.nox ((pss_cons (ps_if (PW.pt (pw_or (pt_not (pt_val (pe_callB (call_isiK K) (by rfl) (W.fr_isinstance) (by decide +kernel) (pa_cons (pv 1) (pa_cons (pe_bltn (v := .ty "list") (by rfl) (W.fr_list) (by decide +kernel) rfl) pa_nil))))) (pw_or1 (pt_not (pt_truth (pv 1) (by intro _; rfl))))))
  (pss_one (ps_ret pe_bl))
  pss_nil)
  (pss_cons (ps_for PassesOwn.never rfl (pi_enum (by rfl) (W.fr_enumerate) (pa_cons (pv 1) pa_nil)) (pg_tupK K (n := 2) rfl (pgs_cons (pg_name (i := 2) sc_is_path.nd rfl (by first | exact .inl rfl | exact .inr rfl)) (pgs_cons (pg_name (i := 3) sc_is_path.nd rfl (by first | exact .inl rfl | exact .inr rfl)) pgs_nil)))
  (pss_cons (ps_if (PW.pt (pw_or (pt_not (pt_val (pe_callD (ok_is_index W) (hr.mono (by decide)) (pa_cons (pv 3) (pa_cons (pe_fld (pv 0) rfl) pa_nil))))) (pw_or1 (pt_cmpR (op_inK K) (pv 3) (pe_slice (sl_listK K) (pv 1) po_none (po_some (pv 2))) (by rfl)))))
  (pss_one (ps_ret pe_bl))
  pss_nil)
  (pss_one (ps_if (PW.pt (pw_and (pt_cmpR op_gt (pv 2) pe_int (nomark _)) (pw_and1 (pt_cmpR (op_ninK K) (pv 3) (pe_ix (ix_listK K) (pe_fld (pv 0) rfl) (pe_ix (ix_listK K) (pv 1) (pe_op op_sub (pv 2) pe_int) (fun _ _ => rfl)) (fun _ _ => rfl)) (by rfl)))))
  (pss_one (ps_ret pe_bl))
  pss_nil))))
  (pss_one (ps_ret pe_bl))))), ?_⟩)
  try dsimp only [cxOf, Cx.nox, Cx.wish]
  obtain ⟨gv, p, n, Es, w, rfl, rg, hp, good, h40, W', k⟩ := h
  obtain ⟨g, dx, e, l, rfl, _, hg, re, rl⟩ := id rg
  obtain ⟨lk, ⟨la, rfl, _, hla⟩, pl⟩ := rl
  have wl := W'.len
  walk_at "go"
  refine ⟨true, .inl ⟨_, sq_of hp, by have := W'.ne; cases w with | nil => exact absurd rfl this | cons x r => rfl⟩, ?_⟩
  walk_at "go"
  refine for_enum (R := fun x (i : Int) => x = .int i) (h := hp) (pr := paired_map w) (fun pre σ' H' => Same H H' ∧ ∃ u v : Option V, σ' = [some (.ref g), some (.ref p), u, v]) ?_ ?_ ?_ ?_
  · exact ⟨Same.refl _, _, _, rfl⟩
  · rintro pre σ' H' _ ⟨sm, _⟩
    exact sm _ _ hp
  · rintro pre x v post σ' H' T e rfl ⟨sm, u, u2, rfl⟩ nT
    have s1 := Same.new (o := .tup [.int (pre.length : Nat), .int v]) sm nT
    have hg1 := s1 _ _ hg
    have hp1 := s1 _ _ hp
    have hv : w[pre.length]? = some v := by rw [e]; simp
    have rv := W'.rg v (by rw [e]; simp)
    walk_at "go"
    refine ⟨v, n, rfl, ?_⟩
    walk_at "go"
    refine g_iteNP rv ?_
    walk_at "go"
    intro c nc
    have lt : pre.length ≤ w.length := by rw [e]; simp
    have cut : cutV (w.map V.int) none (some (pre.length : Nat)) = pre.map V.int := by
      rw [cut_to (by rw [List.length_map]; exact lt), ← List.map_take, e, List.take_left]
    rw [cut]
    have hg2 : upd (upd H' T (.tup [.int (pre.length : Nat), .int v])) c (.lst (pre.map V.int)) g = _ := hp_new hg1 nc
    have hp2 : upd (upd H' T (.tup [.int (pre.length : Nat), .int v])) c (.lst (pre.map V.int)) p = _ := hp_new hp1 nc
    have hla2 : upd (upd H' T (.tup [.int (pre.length : Nat), .int v])) c (.lst (pre.map V.int)) la = _ := hp_new (s1 _ _ hla) nc
    have s2 := Same.new (o := .lst (pre.map V.int)) s1 nc
    have hc : upd (upd H' T (.tup [.int (pre.length : Nat), .int v])) c (.lst (pre.map V.int)) c = some (.lst (pre.map V.int)) := upd_same
    generalize upd (upd H' T (.tup [.int (pre.length : Nat), .int v])) c (.lst (pre.map V.int)) = H2 at hg2 hp2 hla2 s2 hc ⊢
    walk_at "go"
    have nin : v ∉ pre := fun z => by
      have := W'.nd
      rw [e] at this
      exact (List.nodup_append.mp this).2.2 v z v (by simp) rfl
    refine g_iteQ nin ?_
    walk_at "go"
    refine g_ite (fun gt => ?_) (fun ngt => ?_)
    · obtain ⟨q, hq⟩ : ∃ q, w[pre.length - 1]? = some q := ⟨w[pre.length - 1]'(by omega), List.getElem?_eq_getElem _⟩
      have aq : Adj Es q v := W'.ch (pre.length - 1) q v hq (by rw [show pre.length - 1 + 1 = pre.length by omega]; exact hv)
      have rq := good.at aq
      obtain ⟨y, hy, ⟨b, rfl, _, hb⟩⟩ := Paired.get' pl (links_get (n := n) (E := Es) (v := q.toNat) (by omega))
      have cq : ((q.toNat : Nat) : Int) = q := by omega
      rw [cq] at hb
      have hb2 := s2 _ _ hb
      walk_at "go"
      refine g_ixI hp2 (atI_at (by omega) (by rw [show ((pre.length : Int) - 1).toNat = pre.length - 1 by omega]; exact hq)) ?_
      refine g_ix hla2 (atI_at rq.1 hy) ?_
      walk_at "go"
      refine g_iteQ (fun z => z ((mem_nb good).mpr aq)) ?_
      exact ⟨s2, _, _, rfl⟩
    · walk_at "go"
      exact ⟨s2, _, _, rfl⟩
  · rintro σ' H' ⟨sm, u, v, rfl⟩
    walk_at "go"
    exact k H' sm
def sp_is_way (K : PySem.W.Frag) : Sp := fun vs H Q _ => ∃ (g : V) (fa fb p : Addr) (n : Nat) (Es : List (Int × Int)) (A B w : List Int), vs = [g, .ref fa, .ref fb, .ref p] ∧ rGraph K No H g (n, Es) ∧ H fa = some (.lst (A.map V.int)) ∧ H fb = some (.lst (B.map V.int)) ∧ H p = some (.lst (w.map V.int)) ∧ GoodE n Es ∧ n ≤ 40 ∧ Way n Es A B w ∧ ∀ H', Same H H' → Q (.bl true) H'
theorem sp_is_way.len {K : PySem.W.Frag} {vs : List V} {H : Hp} {Q : VK} {E : XK} (h : sp_is_way K vs H Q E) : vs.length = (["graph", "first", "second", "nodes"] : List Str).length := by
  obtain ⟨g, fa, fb, p, n, Es, A, B, w, rfl, _⟩ := h
  rfl
abbrev N_is_way : List Str := ["graph", "first", "second", "nodes", "node"]
theorem sc_is_way : FnScope N_is_way ["graph", "first", "second", "nodes"] (defScope s_is_way) := ⟨rfl, rfl, rfl, by decide +kernel, rfl, by decide +kernel, by decide +kernel⟩
theorem ok_is_way {P : Program} {w : World} {K : PySem.W.Frag} {mg : Str → Option Value} {base : Heap} (W : Hd K mg) : OkD P w K mg base 4 "is_way" ["graph", "first", "second", "nodes"] (sp_is_way K) := by
  obtain ⟨fd, F⟩ := W.df_is_way
  refine okD_mk F W.mg_is_way (fun _ _ _ _ _ _ us hl => match us, hl with | [_, _, _, _], _ => rfl) ?_
  refine F.ok sc_is_way (fun vs H Q E h => sp_is_way.len h) (fun cdv A outer s H vs Q E hr h => ⟨_, PSs.nox ((pss_cons (ps_if (PW.pt (pw_or (pt_not (pt_val (pe_callD (ok_is_path W) (hr.mono (by decide)) (pa_cons (pv 0) (pa_cons (pv 3) pa_nil))))) (pw_or (pt_cmpR (op_ninK K) (pe_ix (ix_listK K) (pv 3) pe_int (fun _ _ => rfl)) (pv 1) (by rfl)) (pw_or1 (pt_cmpR (op_ninK K) (pe_ix (ix_listK K) (pv 3) (pe_un un_neg pe_int) (fun _ _ => rfl)) (pv 2) (by rfl))))))
  (pss_one (ps_ret pe_bl))
  pss_nil)
  (pss_cons (ps_for PassesOwn.never rfl (pi_list (pe_slice (sl_listK K) (pv 3) (po_some pe_int) po_none)) (pg_name (i := 4) sc_is_way.nd rfl (by first | exact .inl rfl | exact .inr rfl))
  (pss_one (ps_if (pt_cmpR (op_inK K) (pv 4) (pv 1) (by rfl))
  (pss_one (ps_ret pe_bl))
  pss_nil)))
  (pss_cons (ps_for PassesOwn.never rfl (pi_list (pe_slice (sl_listK K) (pv 3) po_none (po_some (pe_un un_neg pe_int)))) (pg_name (i := 4) sc_is_way.nd rfl (by first | exact .inl rfl | exact .inr rfl))
  (pss_one (ps_if (pt_cmpR (op_inK K) (pv 4) (pv 2) (by rfl))
  (pss_one (ps_ret pe_bl))
  pss_nil)))
  (pss_one (ps_ret pe_bl)))))), ?_⟩)
  try dsimp only [cxOf, Cx.nox, Cx.wish]
  obtain ⟨gv, fa, fb, p, n, Es, A, B, w, rfl, rg, ha, hb, hp, good, h40, W', k⟩ := h
  have wl := W'.path.len
  walk_at "go"
  refine ⟨gv, p, n, Es, w, rfl, rg, hp, good, h40, W'.path, fun H1 s1 => ?_⟩
  have hp1 := s1 _ _ hp
  have ha1 := s1 _ _ ha
  have hb1 := s1 _ _ hb
  obtain ⟨x, r, e1, xA, nA⟩ := W'.fst
  obtain ⟨ys, z, e2, zB, nB⟩ := W'.lst
  walk_at "go"
  refine g_ixI hp1 (atI_at (by omega) (by rw [e1]; rfl)) ?_
  walk_at "go"
  refine g_iteQ (fun z => z xA) ?_
  walk_at "go"
  refine g_last (ys := ys) (x := z) (by rw [← e2]; exact hp1) ?_
  walk_at "go"
  refine g_iteQ (fun y => y zB) ?_
  walk_at "go"
  intro c nc
  have cut : cutV (w.map V.int) (some 1) none = r.map V.int := by
    have := cut_from (xs := w.map V.int) (k := 1) (by rw [e1]; simp)
    rw [e1] at this ⊢
    exact this
  rw [cut]
  refine for_ints (ns := r) upd_same (fun pre σ' H' => Same H1 H' ∧ H' c = some (.lst (r.map V.int)) ∧ ∃ u : Option V, σ' = [some gv, some (.ref fa), some (.ref fb), some (.ref p), u]) ?_ ?_ ?_ ?_
  · exact ⟨Same.new (Same.refl _) nc, upd_same, _, rfl⟩
  · rintro pre σ' H' _ ⟨_, h, _⟩
    exact h
  · rintro pre y post σ' H' e ⟨sm, hc, u, rfl⟩
    have ha2 := sm _ _ ha1
    walk_at "go"
    refine g_iteQ (nA y (by rw [e]; simp)) ?_
    exact ⟨sm, hc, _, rfl⟩
  · rintro σ' H' ⟨sm, hc, u, rfl⟩
    have hp2 := sm _ _ hp1
    walk_at "go"
    intro c2 nc2
    have cut2 : cutV (w.map V.int) none (some (-1)) = ys.map V.int := by
      rw [e2, List.map_append]
      exact cut_last
    rw [cut2]
    refine for_ints (ns := ys) upd_same (fun pre σ' H3 => Same H' H3 ∧ H3 c2 = some (.lst (ys.map V.int)) ∧ ∃ u : Option V, σ' = [some gv, some (.ref fa), some (.ref fb), some (.ref p), u]) ?_ ?_ ?_ ?_
    · exact ⟨Same.new (Same.refl _) nc2, upd_same, _, rfl⟩
    · rintro pre σ' H' _ ⟨_, h, _⟩
      exact h
    · rintro pre y post σ' H3 e ⟨sm3, hc3, u, rfl⟩
      have hb3 := sm3 _ _ (sm _ _ hb1)
      walk_at "go"
      refine g_iteQ (nB y (by rw [e]; simp)) ?_
      exact ⟨sm3, hc3, _, rfl⟩
    · rintro σ' H3 ⟨sm3, hc3, u, rfl⟩
      walk_at "go"
      exact k H3 (Same.trans s1 (Same.trans sm sm3))
def sp_are_ways (K : PySem.W.Frag) : Sp := fun vs H Q _ => ∃ (g wl : V) (fa fb : Addr) (n : Nat) (Es : List (Int × Int)) (A B : List Int) (ws : List (List Int)), vs = [g, .ref fa, .ref fb, wl] ∧ rGraph K No H g (n, Es) ∧ H fa = some (.lst (A.map V.int)) ∧ H fb = some (.lst (B.map V.int)) ∧ rLst rInts No H wl ws ∧ GoodE n Es ∧ n ≤ 40 ∧ Rising n A ∧ Rising n B ∧
  (∀ w ∈ ws, Way n Es A B w) ∧ ws.Pairwise Off ∧ ws.length ≤ 40 ∧ ∀ H', Same H H' → Q (.bl true) H'
theorem sp_are_ways.len {K : PySem.W.Frag} {vs : List V} {H : Hp} {Q : VK} {E : XK} (h : sp_are_ways K vs H Q E) : vs.length = (["graph", "first", "second", "ways"] : List Str).length := by
  obtain ⟨g, wl, fa, fb, n, Es, A, B, ws, rfl, _⟩ := h
  rfl
abbrev N_are_ways : List Str := ["graph", "first", "second", "ways", "seen", "way", "node"]
theorem sc_are_ways : FnScope N_are_ways ["graph", "first", "second", "ways"] (defScope s_are_ways) := ⟨rfl, rfl, rfl, by decide +kernel, rfl, by decide +kernel, by decide +kernel⟩
theorem ok_are_ways {P : Program} {w : World} {K : PySem.W.Frag} {mg : Str → Option Value} {base : Heap} (W : Hd K mg) : OkD P w K mg base 5 "are_ways" ["graph", "first", "second", "ways"] (sp_are_ways K) := by
  obtain ⟨fd, F⟩ := W.df_are_ways
  refine okD_mk F W.mg_are_ways (fun _ _ _ _ _ _ us hl => match us, hl with | [_, _, _, _], _ => rfl) ?_
  refine F.ok sc_are_ways (fun vs H Q E h => sp_are_ways.len h) (fun cdv A outer s H vs Q E hr h => ⟨_, PSs.nox ((pss_cons (ps_if (PW.pt (pw_or (pt_not (pt_val (pe_callD (ok_is_list W) (hr.mono (by decide)) (pa_cons (pv 0) (pa_cons (pv 1) pa_nil))))) (pw_or (pt_not (pt_val (pe_callD (ok_is_list W) (hr.mono (by decide)) (pa_cons (pv 0) (pa_cons (pv 2) pa_nil))))) (pw_or1 (pt_not (pt_val (pe_callB (call_isiK K) (by rfl) (W.fr_isinstance) (by decide +kernel) (pa_cons (pv 3) (pa_cons (pe_bltn (v := .ty "list") (by rfl) (W.fr_list) (by decide +kernel) rfl) pa_nil)))))))))
  (pss_one (ps_ret pe_bl))
  pss_nil)
  (pss_cons (ps_set (i := 4) sc_are_ways.nd rfl (by first | exact .inl rfl | exact .inr rfl) (pe_lst pa_nil))
  (pss_cons (ps_for PassesOwn.never rfl (pi_list (pv 3)) (pg_name (i := 5) sc_are_ways.nd rfl (by first | exact .inl rfl | exact .inr rfl))
  (pss_cons (ps_if (pt_not (pt_val (pe_callD (ok_is_way W) (hr.mono (by decide)) (pa_cons (pv 0) (pa_cons (pv 1) (pa_cons (pv 2) (pa_cons (pv 5) pa_nil)))))))
  (pss_one (ps_ret pe_bl))
  pss_nil)
  (pss_cons (ps_for PassesOwn.never rfl (pi_list (pv 5)) (pg_name (i := 6) sc_are_ways.nd rfl (by first | exact .inl rfl | exact .inr rfl))
  (pss_one (ps_if (pt_cmpR (op_inK K) (pv 6) (pv 4) (by rfl))
  (pss_one (ps_ret pe_bl))
  pss_nil)))
  (pss_one (ps_expr (pe_bmK K PySem.F.plainAttrs_list PySem.F.slot_list_extend PySem.F.type_list_extend mt_extend (pv 4) (pa_cons (pv 5) pa_nil)))))))
  (pss_one (ps_ret pe_bl)))))), ?_⟩)
  try dsimp only [cxOf, Cx.nox, Cx.wish]
  obtain ⟨gv, wv, fa, fb, n, Es, A, B, ws, rfl, rg, ha, hb, ⟨vs, ⟨q, rfl, _, hq⟩, pw⟩, good, h40, rA, rB, Wy, ap, l40, k⟩ := h
  obtain ⟨g, dx, e, l, rfl, _, hg, re, rl⟩ := id rg
  walk_at "go"
  refine ⟨g, dx, fa, n, e, l, A, rfl, hg, ha, ?_⟩
  walk_at "go"
  refine g_iteNP rA ?_
  walk_at "go"
  refine ⟨g, dx, fb, n, e, l, B, rfl, hg, hb, ?_⟩
  walk_at "go"
  refine g_iteNP rB ?_
  walk_at "go"
  intro S nS
  walk_at "go"
  refine for_rep (R := rInts No H) (h := (Same.new (Same.refl H) nS) _ _ hq) (pr := pw) (fun pre σ' H' => Same H H' ∧ (∃ u v : Option V, σ' = [some (.ref g), some (.ref fa), some (.ref fb), some (.ref q), some (.ref S), u, v]) ∧ H' S = some (.lst (pre.flatten.map V.int))) ?_ ?_ ?_ ?_
  · exact ⟨Same.new (Same.refl _) nS, ⟨_, _, rfl⟩, upd_same⟩
  · rintro pre σ' H' _ ⟨sm, _⟩
    exact sm _ _ hq
  · rintro pre x w post σ' H' ew ⟨p, rfl, _, hp⟩ ⟨sm, ⟨u, v, rfl⟩, hS⟩
    have Ww := Wy w (by rw [ew]; simp)
    walk_at "go"
    refine ⟨.ref g, fa, fb, p, n, Es, A, B, w, rfl, rGraph.frm.mv (.same sm) rg, sm _ _ ha, sm _ _ hb, sm _ _ hp, good, h40, Ww, fun H2 s2 => ?_⟩
    have hS2 := s2 _ _ hS
    have hp2 := s2 _ _ (sm _ _ hp)
    walk_at "go"
    refine for_ints (ns := w) hp2 (fun pre2 σ' H3 => H3 = H2 ∧ ∃ u : Option V, σ' = [some (.ref g), some (.ref fa), some (.ref fb), some (.ref q), some (.ref S), some (.ref p), u]) ?_ ?_ ?_ ?_
    · exact ⟨rfl, _, rfl⟩
    · rintro pre2 σ' H3 _ ⟨rfl, _⟩
      exact hp2
    · rintro pre2 y post2 σ' H3 e3 ⟨rfl, u, rfl⟩
      walk_at "go"
      refine g_iteQ (fun z => ?_) ⟨rfl, _, rfl⟩
      obtain ⟨w', hw', hy⟩ := List.mem_flatten.mp z
      rw [ew] at ap
      exact (List.pairwise_append.mp ap).2.2 w' hw' w List.mem_cons_self y hy (by rw [e3]; simp)
    · rintro σ' H3 ⟨rfl, u, rfl⟩
      walk_at "go"
      have fl := flat_len (ps := ws) (m := 40) fun w hw => Nat.le_trans (Wy w hw).path.len h40
      have fl2 : (pre ++ [w]).flatten.length ≤ ws.flatten.length := by
        rw [ew]
        simp
      rw [List.flatten_append, List.length_append] at fl2
      simp only [List.flatten_cons, List.flatten_nil, List.append_nil] at fl2
      have : ws.length * 40 ≤ 40 * 40 := Nat.mul_le_mul_right 40 l40
      refine g_ext hS2 hp2 (size_le (by rw [List.length_map, List.length_map]; omega)) ?_
      refine ⟨Same.mut (Same.trans sm s2) nS, ⟨_, _, rfl⟩, ?_⟩
      rw [List.flatten_append]
      simp
      exact upd_same
  · rintro σ' H' ⟨sm, ⟨u, v, rfl⟩, hS⟩
    walk_at "go"
    exact k H' sm

/-! ### the graph without, and the graph outside -/
theorem out_mem {n : Nat} {Es : List (Int × Int)} {ns : List Int} (good : GoodE n Es) {u v : Int} (h : Adj (outE Es ns) u v) : u ∈ outside n ns ∧ v ∈ outside n ns := by
  obtain ⟨a, b, c⟩ := outE_adj.mp h
  exact ⟨mem_outside.mpr ⟨good.at a, b⟩, mem_outside.mpr ⟨good.at a.symm, c⟩⟩
theorem ind_at {n : Nat} {Es : List (Int × Int)} {ns : List Int} (good : GoodE n Es) {i j : Int} (h : Adj (indE Es (outside n ns)) i j) : ∃ u v, Adj (outE Es ns) u v ∧ i = pos (outside n ns) u ∧ j = pos (outside n ns) v := by
  rcases h with h | h <;> obtain ⟨p, hp, h1, h2, e⟩ := mem_indE.mp h
  · exact ⟨p.1, p.2, outE_adj.mpr ⟨.inl hp, (mem_outside.mp h1).2, (mem_outside.mp h2).2⟩, congrArg Prod.fst e, congrArg Prod.snd e⟩
  · exact ⟨p.2, p.1, outE_adj.mpr ⟨.inr hp, (mem_outside.mp h2).2, (mem_outside.mp h1).2⟩, congrArg Prod.snd e, congrArg Prod.fst e⟩
theorem ind_adj {n : Nat} {Es : List (Int × Int)} {ns : List Int} (good : GoodE n Es) {u v : Int} (h : Adj (outE Es ns) u v) : Adj (indE Es (outside n ns)) (pos (outside n ns) u) (pos (outside n ns) v) := by
  obtain ⟨mu, mv⟩ := out_mem good h
  rcases (outE_adj.mp h).1 with a | a
  · exact .inl (mem_indE.mpr ⟨_, a, mu, mv, rfl⟩)
  · exact .inr (mem_indE.mpr ⟨_, a, mv, mu, rfl⟩)
theorem bip_ind {n : Nat} {Es : List (Int × Int)} {ns : List Int} (good : GoodE n Es) : Bip (Adj (indE Es (outside n ns))) ↔ Bip (Adj (outE Es ns)) := by
  constructor
  · rintro ⟨c, hc⟩
    exact ⟨fun v => c (pos (outside n ns) v), fun u v a => hc _ _ (ind_adj good a)⟩
  · rintro ⟨c, hc⟩
    refine ⟨fun i => c ((outside n ns)[i.toNat]?.getD 0), fun i j a => ?_⟩
    obtain ⟨u, v, ad, rfl, rfl⟩ := ind_at good a
    obtain ⟨mu, mv⟩ := out_mem good ad
    show c ((outside n ns)[(pos (outside n ns) u).toNat]?.getD 0) ≠ c ((outside n ns)[(pos (outside n ns) v).toNat]?.getD 0)
    rw [pos_get mu, pos_get mv]
    exact hc u v ad
theorem canon_ind {n : Nat} {Es : List (Int × Int)} {ns : List Int} (good : GoodE n Es) {c : Int → Int} (C : Canon (Adj (indE Es (outside n ns))) (Nd (outside n ns).length) c) : Canon (Adj (outE Es ns)) (fun v => v ∈ outside n ns) (fun v => c (pos (outside n ns) v)) := by
  have down : ∀ {r j : Int}, r ∈ outside n ns → Conn (Adj (indE Es (outside n ns))) (pos (outside n ns) r) j → ∃ w, w ∈ outside n ns ∧ j = pos (outside n ns) w ∧ Conn (Adj (outE Es ns)) r w := by
    intro r j hr h
    induction h with
    | refl => exact ⟨r, hr, rfl, .refl⟩
    | step _ a ih =>
      obtain ⟨w, hw, e, cw⟩ := ih
      obtain ⟨u, v, ad, e1, e2⟩ := ind_at good a
      obtain ⟨mu, mv⟩ := out_mem good ad
      have : u = w := pos_inj mu hw (e1.symm.trans e)
      subst this
      exact ⟨v, mv, e2, .step cw ad⟩
  have up : ∀ {r v : Int}, Conn (Adj (outE Es ns)) r v → Conn (Adj (indE Es (outside n ns))) (pos (outside n ns) r) (pos (outside n ns) v) := by
    intro r v h
    induction h with
    | refl => exact .refl
    | step _ a ih => exact .step ih (ind_adj good a)
  refine ⟨fun u v a => C.ok _ _ (ind_adj good a), fun v hv => C.two _ (pos_range hv), fun v hv => ?_⟩
  obtain ⟨r', hr', cn, c0, mn⟩ := C.root _ (pos_range hv)
  obtain ⟨r, hr⟩ : ∃ r, (outside n ns)[r'.toNat]? = some r := ⟨_, List.getElem?_eq_getElem (by have := hr'.1; have := hr'.2; omega)⟩
  have mr := List.mem_of_getElem? hr
  have er : pos (outside n ns) r = r' := by
    have := pos_of_get (rise_nd (outside_rising n ns).1) hr
    have := hr'.1
    omega
  subst er
  obtain ⟨w, hw, ew, cw⟩ := down mr cn
  have : v = w := pos_inj hv hw ew
  subst this
  refine ⟨r, mr, cw, c0, fun u hu => ?_⟩
  have mu : u ∈ outside n ns := by
    cases hu with
    | refl => exact mr
    | step _ a => exact (out_mem good a).2
  have := mn _ (up hu)
  refine Classical.byContradiction fun z => ?_
  have := (pos_lt (outside_rising n ns).1 mu mr).mpr (by omega)
  omega
theorem Canon.bipO {n : Nat} {Es : List (Int × Int)} {ns : List Int} (good : GoodE n Es) {c : Int → Int} (C : Canon (Adj (outE Es ns)) (fun v => v ∈ outside n ns) c) : Bip (Adj (outE Es ns)) := C.bip (fun u v a => (out_mem good a).1) fun u v a => a.symm
/-! ### is_odd_set, is_small -/
def sp_is_odd_set (K : PySem.W.Frag) : Sp := fun vs H Q _ => ∃ (g l : V) (n : Nat) (Es : List (Int × Int)) (ns : List Int), vs = [g, l] ∧ rGraph K No H g (n, Es) ∧ rInts No H l ns ∧ GoodE n Es ∧ n ≤ 40 ∧ ∀ H' b, Same H H' → (b = true ↔ Rising n ns ∧ Bip (Adj (outE Es ns))) → Q (.bl b) H'
theorem sp_is_odd_set.len {K : PySem.W.Frag} {vs : List V} {H : Hp} {Q : VK} {E : XK} (h : sp_is_odd_set K vs H Q E) : vs.length = (["graph", "nodes"] : List Str).length := by
  obtain ⟨g, l, n, Es, ns, rfl, _⟩ := h
  rfl
abbrev N_is_odd_set : List Str := ["graph", "nodes"]
theorem sc_is_odd_set : FnScope N_is_odd_set ["graph", "nodes"] (defScope s_is_odd_set) := ⟨rfl, rfl, rfl, by decide +kernel, rfl, by decide +kernel, by decide +kernel⟩
theorem ok_is_odd_set {P : Program} {w : World} {K : PySem.W.Frag} {mg : Str → Option Value} {base : Heap} (W : Hd K mg) : OkD P w K mg base 8 "is_odd_set" ["graph", "nodes"] (sp_is_odd_set K) := by
  obtain ⟨fd, F⟩ := W.df_is_odd_set
  refine okD_mk F W.mg_is_odd_set (fun _ _ _ _ _ _ us hl => match us, hl with | [_, _], _ => rfl) ?_
  refine F.ok sc_is_odd_set (fun vs H Q E h => sp_is_odd_set.len h) (fun cdv A outer s H vs Q E hr h => ⟨_, PSs.nox ((pss_one (ps_ret (pe_and (pe_callD (ok_is_list W) (hr.mono (by decide)) (pa_cons (pv 0) (pa_cons (pv 1) pa_nil))) (pe_one (pe_cmpR op_notNq (pe_ix (ix_tupK K) (pe_callD (ok_two_colours W) (hr.mono (by decide)) (pa_cons (pe_methG W (ok_Graph_without W) W.me_without (pv 0) (hr.mono (by decide)) (pa_cons (pv 1) pa_nil)) pa_nil)) pe_int (fun _ _ => rfl)) pe_non (nomark _))))))), ?_⟩)
  try dsimp only [cxOf, Cx.nox, Cx.wish]
  obtain ⟨gv, lv, n, Es, ns, rfl, rg, rl', good, h40, k⟩ := h
  obtain ⟨g, dx, e, l, rfl, _, hg, re, rl⟩ := id rg
  obtain ⟨a, rfl, _, ha⟩ := id rl'
  walk_at "go"
  refine ⟨g, dx, a, n, e, l, ns, rfl, hg, ha, ?_⟩
  walk_at "go"
  refine g_ite (fun ri => ?_) (fun nri => k H false (Same.refl _) ⟨fun z => (Bool.false_ne_true z).elim, fun z => absurd z.1 nri⟩)
  walk_at "go"
  refine ⟨g, dx, _, rfl, hg, gfs_no (by decide +kernel) (by decide +kernel) (by decide +kernel), ?_⟩
  walk_at "go"
  refine ⟨.ref g, .ref a, n, Es, ns, rfl, rg, rl', good, h40, ri, fun H1 v1 s1 r1 => ?_⟩
  have r1' := rGraph.frm.mv Mov.drop r1
  walk_at "go"
  have gi := indE_good (E := Es) (l := outside n ns) (outside_rising n ns).1 good
  have li := (outside_rising n ns).len
  refine ⟨v1, _, _, rfl, r1', gi, by omega, fun H2 v2 s2 t => ?_⟩
  rcases t with ⟨col, C, x, ⟨t, rfl, _, ht⟩, ⟨y, rfl, _, hy⟩⟩ | ⟨nb, x, ⟨t, rfl, _, ht⟩⟩
  · walk_at "go"
    exact k H2 true (Same.trans s1 s2) ⟨fun _ => ⟨ri, Canon.bipO good (canon_ind good C)⟩, fun _ => rfl⟩
  · walk_at "go"
    exact k H2 false (Same.trans s1 s2) ⟨fun z => (Bool.false_ne_true z).elim, fun z => absurd ((bip_ind good).mpr z.2) nb⟩
def sp_is_small (K : PySem.W.Frag) : Sp := fun vs H Q _ => ∃ (g l : V) (n : Nat) (Es : List (Int × Int)) (ns : List Int), vs = [g, l] ∧ rGraph K No H g (n, Es) ∧ rInts No H l ns ∧ GoodE n Es ∧ n ≤ 40 ∧ ∀ H' b, Same H H' → (b = true ↔ Rising n ns ∧ Bip (Adj (outE Es ns)) ∧ ns.length ≤ 5) → Q (.bl b) H'
theorem sp_is_small.len {K : PySem.W.Frag} {vs : List V} {H : Hp} {Q : VK} {E : XK} (h : sp_is_small K vs H Q E) : vs.length = (["graph", "nodes"] : List Str).length := by
  obtain ⟨g, l, n, Es, ns, rfl, _⟩ := h
  rfl
abbrev N_is_small : List Str := ["graph", "nodes"]
theorem sc_is_small : FnScope N_is_small ["graph", "nodes"] (defScope s_is_small) := ⟨rfl, rfl, rfl, by decide +kernel, rfl, by decide +kernel, by decide +kernel⟩
theorem ok_is_small {P : Program} {w : World} {K : PySem.W.Frag} {mg : Str → Option Value} {base : Heap} (W : Hd K mg) : OkD P w K mg base 9 "is_small" ["graph", "nodes"] (sp_is_small K) := by
  obtain ⟨fd, F⟩ := W.df_is_small
  refine okD_mk F W.mg_is_small (fun _ _ _ _ _ _ us hl => match us, hl with | [_, _], _ => rfl) ?_
  refine F.ok sc_is_small (fun vs H Q E h => sp_is_small.len h) (fun cdv A outer s H vs Q E hr h => ⟨_, PSs.nox ((pss_one (ps_ret (pe_and (pe_callD (ok_is_odd_set W) (hr.mono (by decide)) (pa_cons (pv 0) (pa_cons (pv 1) pa_nil))) (pe_one (pe_cmpR op_le (pe_callB (call_lenK K) (by rfl) (W.fr_len) PySem.boot_len (pa_cons (pv 1) pa_nil)) (pe_globI rfl W.mg_SMALL) (nomark _))))))), ?_⟩)
  try dsimp only [cxOf, Cx.nox, Cx.wish]
  obtain ⟨gv, lv, n, Es, ns, rfl, rg, rl', good, h40, k⟩ := h
  obtain ⟨a, rfl, _, ha⟩ := id rl'
  walk_at "go"
  refine ⟨gv, .ref a, n, Es, ns, rfl, rg, rl', good, h40, fun H1 b s1 hb => ?_⟩
  have ha1 := s1 _ _ ha
  walk_at "go"
  cases b with
  | false =>
    walk_at "go"
    exact k H1 false s1 ⟨fun z => (Bool.false_ne_true z).elim, fun z => hb.mpr ⟨z.1, z.2.1⟩⟩
  | true =>
    obtain ⟨b1, b2⟩ := hb.mp rfl
    walk_at "go"
    refine k H1 _ s1 ⟨fun z => ⟨b1, b2, by have := of_decide_eq_true z; omega⟩, fun z => decide_eq_true (by have := z.2.2; omega)⟩
/-! ### colours_without -/
def sp_colours_without (K : PySem.W.Frag) : Sp := fun vs H Q _ => ∃ (g l : V) (n : Nat) (Es : List (Int × Int)) (ns : List Int), vs = [g, l] ∧ rGraph K No H g (n, Es) ∧ rInts No H l ns ∧ GoodE n Es ∧ n ≤ 40 ∧ Rising n ns ∧ Bip (Adj (outE Es ns)) ∧
  ∀ H' d col, Same H H' → Canon (Adj (outE Es ns)) (fun v => v ∈ outside n ns) col → H d = none → H' d = some (.dK (dI ((outside n ns).map fun v => (v, col v)))) → Q (.ref d) H'
theorem sp_colours_without.len {K : PySem.W.Frag} {vs : List V} {H : Hp} {Q : VK} {E : XK} (h : sp_colours_without K vs H Q E) : vs.length = (["graph", "nodes"] : List Str).length := by
  obtain ⟨g, l, n, Es, ns, rfl, _⟩ := h
  rfl
abbrev N_colours_without : List Str := ["graph", "nodes", "left", "colours", "found", "node", "colour"]
theorem sc_colours_without : FnScope N_colours_without ["graph", "nodes"] (defScope s_colours_without) := ⟨rfl, rfl, rfl, by decide +kernel, rfl, by decide +kernel, by decide +kernel⟩
theorem ok_colours_without {P : Program} {w : World} {K : PySem.W.Frag} {mg : Str → Option Value} {base : Heap} (W : Hd K mg) : OkD P w K mg base 8 "colours_without" ["graph", "nodes"] (sp_colours_without K) := by
  obtain ⟨fd, F⟩ := W.df_colours_without
  refine okD_mk F W.mg_colours_without (fun _ _ _ _ _ _ us hl => match us, hl with | [_, _], _ => rfl) ?_
  refine F.ok sc_colours_without (fun vs H Q E h => sp_colours_without.len h) (fun cdv A outer s H vs Q E hr h => ⟨_, PSs.nox ((pss_cons (ps_setLc (i := 2) (own := [("node", 5)]) (g := gName 5) rfl sc_colours_without.nd rfl rfl (sw_true rfl rfl rfl (by decide +kernel)) (pi_range1 (by rfl) (W.fr_range) (pa_cons (pe_fld (pv 0) rfl) pa_nil)) (blkOk_by (N := N_colours_without) (sc := defScope s_colours_without) (by decide +kernel)) (fun _ _ _ _ _ => pg_name (i := 5) sc_colours_without.nd rfl (Or.inl rfl)) (fun _ _ _ _ _ => pts_one (pt_cmpR (op_ninK K) (pv 5) (pv 1) (by rfl))) (fun _ _ _ _ _ => (pv 5)))
  (pss_cons (ps_set (i := 3) sc_colours_without.nd rfl (by first | exact .inl rfl | exact .inr rfl) (pe_ix (ix_tupK K) (pe_callD (ok_two_colours W) (hr.mono (by decide)) (pa_cons (pe_methG W (ok_Graph_without W) W.me_without (pv 0) (hr.mono (by decide)) (pa_cons (pv 1) pa_nil)) pa_nil)) pe_int (fun _ _ => rfl)))
  (pss_cons (ps_set (i := 4) sc_colours_without.nd rfl (by first | exact .inl rfl | exact .inr rfl) pe_dnewK)
  (pss_cons (ps_for PassesOwn.never rfl (pi_zip (by rfl) (W.fr_zip) (pa_cons (pv 2) (pa_cons (pv 3) pa_nil))) (pg_tupK K (n := 2) rfl (pgs_cons (pg_name (i := 5) sc_colours_without.nd rfl (by first | exact .inl rfl | exact .inr rfl)) (pgs_cons (pg_name (i := 6) sc_colours_without.nd rfl (by first | exact .inl rfl | exact .inr rfl)) pgs_nil)))
  (pss_one (ps_dput (hu_of hr) (pv 4) (pv 5) (pv 6) rfl)))
  (pss_one (ps_ret (pv 4)))))))), ?_⟩)
  try dsimp only [cxOf, Cx.nox, Cx.wish]
  obtain ⟨gv, lv, n, Es, ns, rfl, rg, ⟨a, rfl, _, ha⟩, good, h40, ri, bp, k⟩ := h
  obtain ⟨g, dx, e, l, rfl, _, hg, re, rl⟩ := id rg
  walk_at "go"
  refine lc_rng1 (n := (n : Int)) (by omega) (by omega) (fun D i H' => Same H H' ∧ H' D = some (.lst ((outside i ns).map V.int)) ∧ (outside i ns).length ≤ i) ?_ ?_ ?_
  · intro D nD
    exact ⟨Same.new (Same.refl _) nD, upd_same, Nat.le_refl _⟩
  · rintro D i H' nD hi ⟨sm, hD, hl⟩
    have ha' := sm _ _ ha
    walk_at "go"
    refine g_ite (fun h => ?_) (fun h => ?_)
    · walk_at "go"
      refine ⟨_, hD, small_of (by rw [List.length_map]; omega), Same.mut sm nD, ?_, ?_⟩
      · rw [range_snoc, if_neg h, List.map_append]
        exact upd_same
      · rw [range_snoc, if_neg h, List.length_append]
        simp
        omega
    · walk_at "go"
      have h : (i : Int) ∈ ns := Classical.byContradiction fun z => h z
      refine ⟨sm, ?_, ?_⟩
      · rw [range_snoc, if_pos h, List.append_nil]
        exact hD
      · rw [range_snoc, if_pos h, List.append_nil]
        omega
  rintro D H1 nD ⟨s1, hD, _⟩
  rw [Int.toNat_natCast] at hD
  have hg1 := s1 _ _ hg
  walk_at "go"
  refine ⟨g, dx, _, rfl, hg1, gfs_no (by decide +kernel) (by decide +kernel) (by decide +kernel), ?_⟩
  walk_at "go"
  refine ⟨.ref g, .ref a, n, Es, ns, rfl, rGraph.frm.mv (.same s1) rg, ⟨a, rfl, fun z => z, s1 _ _ ha⟩, good, h40, ri, fun H2 v2 s2 r2 => ?_⟩
  have r2' := rGraph.frm.mv Mov.drop r2
  walk_at "go"
  have gi := indE_good (E := Es) (l := outside n ns) (outside_rising n ns).1 good
  have li := (outside_rising n ns).len
  refine ⟨v2, _, _, rfl, r2', gi, by omega, fun H3 v3 s3 t => ?_⟩
  rcases t with ⟨col, C, x, ⟨t, rfl, _, ht⟩, ⟨y, rfl, _, hy⟩⟩ | ⟨nb, _⟩
  · have s123 := Same.trans s1 (Same.trans s2 s3)
    have hD3 := s3 _ _ (s2 _ _ hD)
    walk_at "go"
    intro F nF
    have s4 : Same H3 (upd H3 F (.dK (dI []))) := Same.new (Same.refl _) nF
    have nF0 := s123.free nF
    walk_at "go"
    have cv := canon_ind good C
    have ll : (outside n ns).length = (cols (outside n ns).length col).length := by simp [cols]
    refine for_zip (R := fun x (i : Int) => x = .int i) (S := fun x (i : Int) => x = .int i) (s4 _ _ hD3) (s4 _ _ hy) (paired_map _) (paired_map _) ll (fun pre pre' σ' H' => (∃ w1 w2 : Option V, σ' = [some (.ref g), some (.ref a), some (.ref D), some (.ref y), some (.ref F), w1, w2]) ∧ Same H3 H' ∧
      H' F = some (.dK (dI (pre.map fun v => (v, col (pos (outside n ns) v)))))) ?_ ?_ ?_ ?_
    · exact ⟨⟨_, _, rfl⟩, s4, upd_same⟩
    · rintro pre pre' σ' H' ⟨_, sm, _⟩
      exact ⟨sm _ _ hD3, sm _ _ hy⟩
    · rintro pre pre' x' y' d c post post' σ' H' T e1 e2 el rfl rfl ⟨⟨w1, w2, rfl⟩, sm, hF⟩ nT
      have nd := rise_nd (outside_rising n ns).1
      rw [e1] at nd
      have np : d ∉ pre := fun z => (List.nodup_append.mp nd).2.2 d z d List.mem_cons_self rfl
      have ed : pos (outside n ns) d = (pre.length : Nat) := by rw [e1]; exact pos_at np
      have ec : c = col (pre.length : Nat) := by
        have h1 : (cols (outside n ns).length col)[pre'.length]? = some c := by rw [e2]; simp
        unfold cols at h1
        have lt : pre'.length < (outside n ns).length := by rw [e1]; simp; omega
        rw [List.getElem?_map, List.getElem?_range lt] at h1
        simp at h1
        rw [el]
        exact h1.symm
      have lp : pre.length ≤ 40 := by have := congrArg List.length e1; simp at this; omega
      walk_at "go"
      refine g_rdput (by walk_at "hp") (by rw [List.length_map]; omega) ?_
      refine ⟨⟨_, _, rfl⟩, Same.mut (Same.new sm nT) nF, ?_⟩
      have nl : lkp (pre.map fun v => (v, col (pos (outside n ns) v))) d = none := by
        rw [lkp_none, List.map_map]
        intro z
        obtain ⟨v, hv, e⟩ := List.mem_map.mp z
        have e : v = d := e
        exact np (e ▸ hv)
      rw [putI_new _ nl, upd_same, List.map_append, ec, ← ed]
      rfl
    · rintro σ' H' ⟨⟨w1, w2, rfl⟩, sm, hF⟩
      walk_at "go"
      exact k H' F _ (Same.trans s123 sm) cv nF0 hF
  · exact absurd ((bip_ind good).mpr bp) nb

/-! ### fits, splits_of -/
def dash : Str := "-"
def LET : List Str := ["-", "0", "1"]
theorem Hd.letters {K : PySem.W.Frag} {mg : Str → Option Value} (W : Hd K mg) (H : Hp) : SqL K H (He.ga K "LETTERS") (LET.map V.str) := by
  have h := W.more
  unfold ex at h
  exact He.lstB_ok ((Bool.and_eq_true _ _).mp h).1 H
/-- the letter c may follow the split sp -/
def FitP (Es : List (Int × Int)) (ns : List Int) (sp : List Str) (c : Str) : Prop := c = dash ∨ ∀ (i : Nat) s u v, sp[i]? = some s → s = c → ns[i]? = some u → ns[sp.length]? = some v → ¬ Adj Es v u
def sp_fits (K : PySem.W.Frag) : Sp := fun vs H Q _ => ∃ (g : V) (a q : Addr) (n : Nat) (Es : List (Int × Int)) (ns : List Int) (sp : List Str) (c : Str), vs = [g, .ref a, .ref q, .int (sp.length : Nat), .str c] ∧ rGraph K No H g (n, Es) ∧ H a = some (.lst (ns.map V.int)) ∧ H q = some (.lst (sp.map V.str)) ∧ GoodE n Es ∧ n ≤ 40 ∧ Rising n ns ∧ sp.length < ns.length ∧
  ∀ H' b, Same H H' → (b = true ↔ FitP Es ns sp c) → Q (.bl b) H'
theorem sp_fits.len {K : PySem.W.Frag} {vs : List V} {H : Hp} {Q : VK} {E : XK} (h : sp_fits K vs H Q E) : vs.length = (["graph", "nodes", "split", "at", "letter"] : List Str).length := by
  obtain ⟨g, a, q, n, Es, ns, sp, c, rfl, _⟩ := h
  rfl
abbrev N_fits : List Str := ["graph", "nodes", "split", "at", "letter", "other", "before"]
theorem sc_fits : FnScope N_fits ["graph", "nodes", "split", "at", "letter"] (defScope s_fits) := ⟨rfl, rfl, rfl, by decide +kernel, rfl, by decide +kernel, by decide +kernel⟩
theorem ok_fits {P : Program} {w : World} {K : PySem.W.Frag} {mg : Str → Option Value} {base : Heap} (W : Hd K mg) : OkD P w K mg base 1 "fits" ["graph", "nodes", "split", "at", "letter"] (sp_fits K) := by
  obtain ⟨fd, F⟩ := W.df_fits
  refine okD_mk F W.mg_fits (fun _ _ _ _ _ _ us hl => match us, hl with | [_, _, _, _, _], _ => rfl) ?_
  refine F.ok sc_fits (fun vs H Q E h => sp_fits.len h) (fun cdv A outer s H vs Q E hr h => ⟨_, PSs.nox ((pss_cons (ps_if (pt_cmpR op_eq (pv 4) pe_str (nomark _))
  (pss_one (ps_ret pe_bl))
  pss_nil)
  (pss_cons (ps_for PassesOwn.never rfl (pi_enum (by rfl) (W.fr_enumerate) (pa_cons (pv 2) pa_nil)) (pg_tupK K (n := 2) rfl (pgs_cons (pg_name (i := 5) sc_fits.nd rfl (by first | exact .inl rfl | exact .inr rfl)) (pgs_cons (pg_name (i := 6) sc_fits.nd rfl (by first | exact .inl rfl | exact .inr rfl)) pgs_nil)))
  (pss_one (ps_if (PW.pt (pw_and (pt_cmpR op_eq (pv 6) (pv 4) (nomark _)) (pw_and1 (pt_cmpR (op_inK K) (pe_ix (ix_listK K) (pv 1) (pv 5) (fun _ _ => rfl)) (pe_ix (ix_listK K) (pe_fld (pv 0) rfl) (pe_ix (ix_listK K) (pv 1) (pv 3) (fun _ _ => rfl)) (fun _ _ => rfl)) (by rfl)))))
  (pss_one (ps_ret pe_bl))
  pss_nil)))
  (pss_one (ps_ret pe_bl))))), ?_⟩)
  try dsimp only [cxOf, Cx.nox, Cx.wish]
  obtain ⟨gv, a, q, n, Es, ns, sp, c, rfl, rg, ha, hq, good, h40, ri, lt, k⟩ := h
  obtain ⟨g, dx, e, l, rfl, _, hg, re, rl⟩ := id rg
  obtain ⟨lk, ⟨la, rfl, _, hla⟩, pl⟩ := rl
  walk_at "go"
  refine g_ite (fun d => ?_) (fun nd => ?_)
  · walk_at "go"
    exact k H true (Same.refl _) ⟨fun _ => .inl d, fun _ => rfl⟩
  walk_at "go"
  obtain ⟨v, hv⟩ : ∃ v, ns[sp.length]? = some v := ⟨_, List.getElem?_eq_getElem lt⟩
  have rv := ri.2 v (List.mem_of_getElem? hv)
  obtain ⟨y, hy, ⟨b, rfl, _, hb⟩⟩ := Paired.get' pl (links_get (n := n) (E := Es) (v := v.toNat) (by omega))
  have cv : ((v.toNat : Nat) : Int) = v := by omega
  rw [cv] at hb
  refine for_enum (R := fun x (s : Str) => x = .str s) (h := hq) (pr := paired_map sp) (fun pre σ' H' => Same H H' ∧ (∃ u w : Option V, σ' = [some (.ref g), some (.ref a), some (.ref q), some (.int (sp.length : Nat)), some (.str c), u, w]) ∧ ∀ (i : Nat) s u, i < pre.length → sp[i]? = some s → s = c → ns[i]? = some u → ¬ Adj Es v u) ?_ ?_ ?_ ?_
  · exact ⟨Same.refl _, ⟨_, _, rfl⟩, fun i s u h => by simp at h⟩
  · rintro pre σ' H' _ ⟨sm, _⟩
    exact sm _ _ hq
  · rintro pre x s post σ' H' T e rfl ⟨sm, ⟨u, w, rfl⟩, T1⟩ nT
    have s1 := Same.new (o := .tup [.int (pre.length : Nat), .str s]) sm nT
    have hs : sp[pre.length]? = some s := by rw [e]; simp
    have pl : pre.length < sp.length := by rw [e]; simp
    obtain ⟨u, hu⟩ : ∃ u, ns[pre.length]? = some u := ⟨_, List.getElem?_eq_getElem (by omega)⟩
    have ha1 := s1 _ _ ha
    have hg1 := s1 _ _ hg
    have hla1 := s1 _ _ hla
    have hb1 := s1 _ _ hb
    walk_at "go"
    refine g_ite (fun es => ?_) (fun ne => ?_)
    · walk_at "go"
      refine g_ixI ha1 (atI_at (by omega) (by rw [Int.toNat_natCast]; exact hu)) ?_
      walk_at "go"
      refine g_ixI ha1 (atI_at (by omega) (by rw [Int.toNat_natCast]; exact hv)) ?_
      refine g_ix hla1 (atI_at rv.1 hy) ?_
      walk_at "go"
      refine g_ite (fun i1 => ?_) (fun i1 => ?_)
      · walk_at "go"
        refine k _ false s1 ⟨fun z => (Bool.false_ne_true z).elim, fun z => ?_⟩
        rcases z with z | z
        · exact absurd z nd
        · exact absurd ((mem_nb good).mp i1) (z pre.length s u v hs es hu hv)
      · walk_at "go"
        refine ⟨s1, ⟨_, _, rfl⟩, fun i s' u' hi h1 h2 h3 => ?_⟩
        by_cases q : i = pre.length
        · subst q
          rw [hu] at h3
          cases h3
          exact fun z => i1 ((mem_nb good).mpr z)
        · exact T1 i s' u' (by simp at hi; omega) h1 h2 h3
    · walk_at "go"
      refine ⟨s1, ⟨_, _, rfl⟩, fun i s' u' hi h1 h2 h3 => ?_⟩
      by_cases q : i = pre.length
      · subst q
        rw [hs] at h1
        cases h1
        exact absurd h2 ne
      · exact T1 i s' u' (by simp at hi; omega) h1 h2 h3
  · rintro σ' H' ⟨sm, ⟨u, w, rfl⟩, T1⟩
    walk_at "go"
    refine k H' true sm ⟨fun _ => .inr fun i s u v' h1 h2 h3 h4 => ?_, fun _ => rfl⟩
    rw [hv] at h4
    cases h4
    exact T1 i s u (List.getElem?_eq_some_iff.mp h1).1 h1 h2 h3
open Classical in
noncomputable def fitL (Es : List (Int × Int)) (ns : List Int) (sp : List Str) (ls : List Str) : List Str := ls.filter fun c => decide (FitP Es ns sp c)
noncomputable def spl (Es : List (Int × Int)) (ns : List Int) : Nat → List (List Str)
  | 0 => [[]]
  | k + 1 => (spl Es ns k).flatMap fun sp => (fitL Es ns sp LET).map fun c => sp ++ [c]
theorem flatMap_len {α β : Type} {f : α → List β} {m : Nat} : ∀ {l : List α}, (∀ x ∈ l, (f x).length ≤ m) → (l.flatMap f).length ≤ l.length * m
  | [], _ => by simp
  | x :: l, h => by
    have a := h x List.mem_cons_self
    have b := flatMap_len (l := l) fun y hy => h y (List.mem_cons_of_mem _ hy)
    rw [List.flatMap_cons, List.length_append, List.length_cons, Nat.add_mul]
    omega
theorem fitL_len (Es : List (Int × Int)) (ns : List Int) (sp ls : List Str) : (fitL Es ns sp ls).length ≤ ls.length := List.length_filter_le _ _
theorem spl_len (Es : List (Int × Int)) (ns : List Int) : ∀ k, (spl Es ns k).length ≤ 3 ^ k
  | 0 => by simp [spl]
  | k + 1 => by
    have a := spl_len Es ns k
    have b := flatMap_len (l := spl Es ns k) (f := fun sp => (fitL Es ns sp LET).map fun c => sp ++ [c]) (m := 3) fun sp _ => by
      rw [List.length_map]
      exact fitL_len _ _ _ _
    rw [spl, Nat.pow_succ]
    have := Nat.mul_le_mul_right 3 a
    omega
theorem spl_mem {Es : List (Int × Int)} {ns : List Int} : ∀ {k : Nat} {sp : List Str}, sp ∈ spl Es ns k → sp.length = k ∧ ∀ c ∈ sp, c ∈ LET
  | 0, sp, h => by
    rw [spl] at h
    rw [List.mem_singleton.mp h]
    simp
  | k + 1, sp, h => by
    rw [spl] at h
    obtain ⟨s, hs, h⟩ := List.mem_flatMap.mp h
    obtain ⟨c, hc, rfl⟩ := List.mem_map.mp h
    obtain ⟨a, b⟩ := spl_mem hs
    refine ⟨by simp [a], fun x hx => ?_⟩
    rcases List.mem_append.mp hx with hx | hx
    · exact b x hx
    · rw [List.mem_singleton.mp hx]
      exact (List.mem_filter.mp hc).1
def sp_splits_of (K : PySem.W.Frag) : Sp := fun vs H Q _ => ∃ (g : V) (a : Addr) (n : Nat) (Es : List (Int × Int)) (ns : List Int), vs = [g, .ref a] ∧ rGraph K No H g (n, Es) ∧ H a = some (.lst (ns.map V.int)) ∧ GoodE n Es ∧ n ≤ 40 ∧ Rising n ns ∧ ns.length ≤ 5 ∧
  ∀ H' v, Same H H' → rLst rStrs (Trk H) H' v (spl Es ns ns.length) → Q v H'
theorem sp_splits_of.len {K : PySem.W.Frag} {vs : List V} {H : Hp} {Q : VK} {E : XK} (h : sp_splits_of K vs H Q E) : vs.length = (["graph", "nodes"] : List Str).length := by
  obtain ⟨g, a, n, Es, ns, rfl, _⟩ := h
  rfl
abbrev N_splits_of : List Str := ["graph", "nodes", "splits", "at", "longer", "split", "letter"]
theorem sc_splits_of : FnScope N_splits_of ["graph", "nodes"] (defScope s_splits_of) := ⟨rfl, rfl, rfl, by decide +kernel, rfl, by decide +kernel, by decide +kernel⟩
theorem ok_splits_of {P : Program} {w : World} {K : PySem.W.Frag} {mg : Str → Option Value} {base : Heap} (W : Hd K mg) : OkD P w K mg base 2 "splits_of" ["graph", "nodes"] (sp_splits_of K) := by
  obtain ⟨fd, F⟩ := W.df_splits_of
  refine okD_mk F W.mg_splits_of (fun _ _ _ _ _ _ us hl => match us, hl with | [_, _], _ => rfl) ?_
  refine F.ok sc_splits_of (fun vs H Q E h => sp_splits_of.len h) (fun cdv A outer s H vs Q E hr h => ⟨_, PSs.nox ((pss_cons (ps_set (i := 2) sc_splits_of.nd rfl (by first | exact .inl rfl | exact .inr rfl) (pe_lst (pa_cons (pe_lst pa_nil) pa_nil)))
  (pss_cons (ps_for PassesOwn.never rfl (pi_range1 (by rfl) (W.fr_range) (pa_cons (pe_callB (call_lenK K) (by rfl) (W.fr_len) PySem.boot_len (pa_cons (pv 1) pa_nil)) pa_nil)) (pg_name (i := 3) sc_splits_of.nd rfl (by first | exact .inl rfl | exact .inr rfl))
  (pss_cons (ps_set (i := 4) sc_splits_of.nd rfl (by first | exact .inl rfl | exact .inr rfl) (pe_lst pa_nil))
  (pss_cons (ps_for PassesOwn.never rfl (pi_list (pv 2)) (pg_name (i := 5) sc_splits_of.nd rfl (by first | exact .inl rfl | exact .inr rfl))
  (pss_one (ps_for PassesOwn.never rfl (pi_list (pe_glob (v := .ref (He.ga _ "LETTERS")) rfl W.mg_LETTERS rfl)) (pg_name (i := 6) sc_splits_of.nd rfl (by first | exact .inl rfl | exact .inr rfl))
  (pss_one (ps_if (pt_val (pe_callD (ok_fits W) (hr.mono (by decide)) (pa_cons (pv 0) (pa_cons (pv 1) (pa_cons (pv 5) (pa_cons (pv 3) (pa_cons (pv 6) pa_nil)))))))
  (pss_one (ps_expr (pe_bmK K PySem.F.plainAttrs_list PySem.F.slot_list_append PySem.F.type_list_append mt_append (pv 4) (pa_cons (pe_op op_cat (pv 5) (pe_lst (pa_cons (pv 6) pa_nil))) pa_nil))))
  pss_nil)))))
  (pss_one (ps_set (i := 2) sc_splits_of.nd rfl (by first | exact .inl rfl | exact .inr rfl) (pv 4))))))
  (pss_one (ps_ret (pv 2)))))), ?_⟩)
  try dsimp only [cxOf, Cx.nox, Cx.wish]
  obtain ⟨gv, a, n, Es, ns, rfl, rg, ha, good, h40, ri, l5, k⟩ := h
  walk_at "go"
  intro e0 ne0
  walk_at "go"
  intro S nS
  have nse : S ≠ e0 := new_ne nS
  have nS0 := new_old nS
  have s0 : Same H (upd (upd H e0 (.lst [])) S (.lst [.ref e0])) := Same.new (Same.new (Same.refl _) ne0) nS
  have ha0 := s0 _ _ ha
  walk_at "go"
  refine for_rng1 (n := (ns.length : Nat)) (by omega) (by omega) (fun i σ' H' => (∃ (v : V) (w1 w2 w3 w4 : Option V), σ' = [some gv, some (.ref a), some v, w1, w2, w3, w4] ∧ rLst rStrs (Trk H) H' v (spl Es ns i)) ∧ Same H H') ?_ ?_ ?_
  · refine ⟨⟨.ref S, none, none, none, none, rfl, [.ref e0], ⟨S, rfl, fun z => z nS0, upd_same⟩, .cons ⟨e0, rfl, fun z => z ne0, ?_⟩ .nil⟩, s0⟩
    rw [upd_ne nse.symm]
    exact upd_same
  · rintro i σ' H1 hi ⟨⟨v, w1, w2, w3, w4, rfl, vs, ⟨p, rfl, np, hp⟩, pv⟩, sm⟩
    walk_at "go"
    intro D nD
    have nD0 := sm.free nD
    have sl := spl_len Es ns i
    have sl2 : (spl Es ns i).length ≤ 3 ^ 5 := Nat.le_trans sl (Nat.pow_le_pow_right (by omega) (by omega))
    have s1 : Same H1 (upd H1 D (.lst [])) := Same.new (Same.refl _) nD
    walk_at "go"
    refine for_rep (R := rStrs (Trk H) H1) (h := s1 _ _ hp) (pr := pv) (fun pre σ' H' => (∃ w3 w4 : Option V, σ' = [some gv, some (.ref a), some (.ref p), some (.int (i : Nat)), some (.ref D), w3, w4]) ∧ Col rStrs (Trk H) H1 D H' (pre.flatMap fun sp => (fitL Es ns sp LET).map fun c => sp ++ [c])) ?_ ?_ ?_ ?_
    · exact ⟨⟨_, _, rfl⟩, Col.nil nD⟩
    · rintro pre σ' H' _ ⟨_, c⟩
      exact c.same _ _ hp
    · rintro pre x sp post σ' H' e ⟨q, rfl, nq, hq⟩ ⟨⟨w3, w4, rfl⟩, c⟩
      have msp : sp ∈ spl Es ns i := by rw [e]; simp
      have lsp := (spl_mem msp).1
      walk_at "go"
      refine ⟨_, rfl, ⟨_, W.letters _⟩, forW_rep (R := fun x (s : Str) => x = .str s) (paired_map LET) (fun pre2 σ' H' => (∃ w4 : Option V, σ' = [some gv, some (.ref a), some (.ref p), some (.int (i : Nat)), some (.ref D), some (.ref q), w4]) ∧ Col rStrs (Trk H) H1 D H' ((pre.flatMap fun sp => (fitL Es ns sp LET).map fun c => sp ++ [c]) ++ ((fitL Es ns sp pre2).map fun c => sp ++ [c]))) ?_ (fun _ _ H' _ _ => W.letters H') ?_ ?_⟩
      · refine ⟨⟨_, rfl⟩, ?_⟩
        have : (fitL Es ns sp []).map (fun c => sp ++ [c]) = [] := rfl
        rw [this, List.append_nil]
        exact c
      · rintro pre2 x ch post2 σ' H2 e2 rfl ⟨⟨w4, rfl⟩, c⟩
        have sm2 := Same.trans sm c.same
        walk_at "go"
        rw [← lsp]
        refine ⟨gv, a, q, n, Es, ns, sp, ch, rfl, rGraph.frm.mv (.same sm2) rg, sm2 _ _ ha, c.same _ _ hq, good, h40, ri, by omega, fun H3 b s3 hb => ?_⟩
        have c3 := c.step rStrs.frm s3
        have l2 : pre2.length ≤ 3 := by have := congrArg List.length e2; simp [LET] at this; omega
        have fe : fitL Es ns sp (pre2 ++ [ch]) = fitL Es ns sp pre2 ++ (if b = true then [ch] else []) := by
          unfold fitL
          rw [List.filter_append]
          congr 1
          by_cases h : FitP Es ns sp ch
          · rw [if_pos (hb.mpr h)]
            simp [h]
          · rw [if_neg fun z => h (hb.mp z)]
            simp [h]
        cases b with
        | true =>
          obtain ⟨_, vs3, hv3, _⟩ := id c3
          have hq3 := s3 _ _ (c.same _ _ hq)
          walk_at "go"
          intro t nt
          refine g_cat (by walk_at "hp") upd_same (size_le (by simp; omega)) fun u nu => ?_
          have ntD : D ≠ t := ne_of_none hv3 nt
          have h4 : upd (upd H3 t (.lst [.str ch])) u (.lst (sp.map V.str ++ [.str ch])) D = some (.lst vs3) := hp_new (hp_new hv3 nt) nu
          have c4 := c3.step rStrs.frm (Same.new (o := .lst (sp.map V.str ++ [.str ch])) (Same.new (o := .lst [.str ch]) (Same.refl _) nt) nu)
          walk_at "go"
          have ln := c3.len hv3
          have fl := flatMap_len (l := pre) (f := fun sp => (fitL Es ns sp LET).map fun c => sp ++ [c]) (m := 3) fun sp _ => by
            rw [List.length_map]
            exact fitL_len _ _ _ _
          have pl : pre.length ≤ (spl Es ns i).length := by rw [e]; simp
          have fl2 := fitL_len Es ns sp pre2
          rw [List.length_append, List.length_map] at ln
          refine g_app h4 (small_of (by omega)) ?_
          have nuH : Trk H u → False := fun z => z ((Same.trans sm2 s3).free (new_old nu))
          have c5 := c4.app rStrs.frm nD h4 (v := .ref u) (d := sp ++ [ch]) ⟨u, rfl, fun z => z.elim (fun z => by rw [z, hp_new hv3 nt] at nu; cases nu) nuH, by rw [List.map_append]; exact upd_same⟩
          refine ⟨⟨_, rfl⟩, ?_⟩
          rw [fe, if_pos rfl, List.map_append, ← List.append_assoc]
          exact c5
        | false =>
          walk_at "go"
          refine ⟨⟨_, rfl⟩, ?_⟩
          rw [fe, if_neg (by simp), List.append_nil]
          exact c3
      · rintro σ' H2 ⟨⟨w4, rfl⟩, c⟩
        refine ⟨⟨_, _, rfl⟩, ?_⟩
        rw [List.flatMap_append, List.flatMap_cons, List.flatMap_nil, List.append_nil]
        exact c
    · rintro σ' H' ⟨⟨w3, w4, rfl⟩, c⟩
      walk_at "go"
      exact ⟨⟨.ref D, _, _, _, _, rfl, c.done rStrs.frm fun z => z nD0⟩, Same.trans sm c.same⟩
  · rintro σ' H1 ⟨⟨v, w1, w2, w3, w4, rfl, r⟩, sm⟩
    rw [Int.toNat_natCast] at r
    walk_at "go"
    exact k H1 v sm r

/-! ### sides -/
def toS (i : Int) : Str := toString i
/-- by the pairs of z (a node, its letter): v is to change, to stay -/
def Chg (Es : List (Int × Int)) (z : List (Int × Str)) (col : Int → Int) (v : Int) : Prop := ∃ p ∈ z, p.2 ≠ dash ∧ Adj Es v p.1 ∧ p.2 = toS (col v)
def Sty (Es : List (Int × Int)) (z : List (Int × Str)) (col : Int → Int) (v : Int) : Prop := ∃ p ∈ z, p.2 ≠ dash ∧ Adj Es v p.1 ∧ p.2 ≠ toS (col v)
open Classical in
noncomputable def sideC (n : Nat) (Es : List (Int × Int)) (ns : List Int) (sp : List Str) (col : Int → Int) : List Int := (outside n ns).filter fun v => decide (Chg Es (ns.zip sp) col v)
open Classical in
noncomputable def sideS (n : Nat) (Es : List (Int × Int)) (ns : List Int) (sp : List Str) (col : Int → Int) : List Int := (outside n ns).filter fun v => decide (Sty Es (ns.zip sp) col v)
theorem mem_sideC {n : Nat} {Es : List (Int × Int)} {ns : List Int} {sp : List Str} {col : Int → Int} {v : Int} : v ∈ sideC n Es ns sp col ↔ v ∈ outside n ns ∧ Chg Es (ns.zip sp) col v := by
  unfold sideC
  rw [List.mem_filter]
  simp
theorem mem_sideS {n : Nat} {Es : List (Int × Int)} {ns : List Int} {sp : List Str} {col : Int → Int} {v : Int} : v ∈ sideS n Es ns sp col ↔ v ∈ outside n ns ∧ Sty Es (ns.zip sp) col v := by
  unfold sideS
  rw [List.mem_filter]
  simp
theorem sideC_rise (n : Nat) (Es : List (Int × Int)) (ns : List Int) (sp : List Str) (col : Int → Int) : Rising n (sideC n Es ns sp col) := ⟨(outside_rising n ns).1.sublist List.filter_sublist, fun x hx => (outside_rising n ns).2 x (mem_sideC.mp hx).1⟩
theorem sideS_rise (n : Nat) (Es : List (Int × Int)) (ns : List Int) (sp : List Str) (col : Int → Int) : Rising n (sideS n Es ns sp col) := ⟨(outside_rising n ns).1.sublist List.filter_sublist, fun x hx => (outside_rising n ns).2 x (mem_sideS.mp hx).1⟩
/-- two lists that are being filled -/
structure Fill (Es : List (Int × Int)) (z : List (Int × Str)) (col : Int → Int) (pre : List Int) (x : Int) (zp : List (Int × Str)) (st ch : List Int) (m : Nat) : Prop where
  s : ∀ v, v ∈ st ↔ (v ∈ pre ∧ Sty Es z col v) ∨ (v = x ∧ Sty Es zp col v)
  c : ∀ v, v ∈ ch ↔ (v ∈ pre ∧ Chg Es z col v) ∨ (v = x ∧ Chg Es zp col v)
  l : st.length + ch.length ≤ m
theorem sty_snoc {Es : List (Int × Int)} {z : List (Int × Str)} {col : Int → Int} {v : Int} {p : Int × Str} : Sty Es (z ++ [p]) col v ↔ Sty Es z col v ∨ (p.2 ≠ dash ∧ Adj Es v p.1 ∧ p.2 ≠ toS (col v)) := by
  unfold Sty
  constructor
  · rintro ⟨q, hq, h⟩
    rcases List.mem_append.mp hq with hq | hq
    · exact .inl ⟨q, hq, h⟩
    · rw [List.mem_singleton.mp hq] at h
      exact .inr h
  · rintro (⟨q, hq, h⟩ | h)
    · exact ⟨q, List.mem_append_left _ hq, h⟩
    · exact ⟨p, by simp, h⟩
theorem chg_snoc {Es : List (Int × Int)} {z : List (Int × Str)} {col : Int → Int} {v : Int} {p : Int × Str} : Chg Es (z ++ [p]) col v ↔ Chg Es z col v ∨ (p.2 ≠ dash ∧ Adj Es v p.1 ∧ p.2 = toS (col v)) := by
  unfold Chg
  constructor
  · rintro ⟨q, hq, h⟩
    rcases List.mem_append.mp hq with hq | hq
    · exact .inl ⟨q, hq, h⟩
    · rw [List.mem_singleton.mp hq] at h
      exact .inr h
  · rintro (⟨q, hq, h⟩ | h)
    · exact ⟨q, List.mem_append_left _ hq, h⟩
    · exact ⟨p, by simp, h⟩
theorem Fill.skip {Es : List (Int × Int)} {z zp : List (Int × Str)} {col : Int → Int} {pre st ch : List Int} {x : Int} {m : Nat} {p : Int × Str} (F : Fill Es z col pre x zp st ch m) (h : ¬ (p.2 ≠ dash ∧ Adj Es x p.1)) : Fill Es z col pre x (zp ++ [p]) st ch (m + 1) := by
  refine ⟨fun v => ?_, fun v => ?_, by have := F.l; omega⟩
  · rw [F.s, sty_snoc]
    constructor
    · rintro (h1 | ⟨h1, h2⟩)
      · exact .inl h1
      · exact .inr ⟨h1, .inl h2⟩
    · rintro (h1 | ⟨h1, h2 | h2⟩)
      · exact .inl h1
      · exact .inr ⟨h1, h2⟩
      · exact absurd ⟨h2.1, h1 ▸ h2.2.1⟩ h
  · rw [F.c, chg_snoc]
    constructor
    · rintro (h1 | ⟨h1, h2⟩)
      · exact .inl h1
      · exact .inr ⟨h1, .inl h2⟩
    · rintro (h1 | ⟨h1, h2 | h2⟩)
      · exact .inl h1
      · exact .inr ⟨h1, h2⟩
      · exact absurd ⟨h2.1, h1 ▸ h2.2.1⟩ h
theorem Fill.chg {Es : List (Int × Int)} {z zp : List (Int × Str)} {col : Int → Int} {pre st ch : List Int} {x : Int} {m : Nat} {p : Int × Str} (F : Fill Es z col pre x zp st ch m) (h1 : p.2 ≠ dash) (h2 : Adj Es x p.1) (h3 : p.2 = toS (col x)) : Fill Es z col pre x (zp ++ [p]) st (ch ++ [x]) (m + 1) := by
  refine ⟨fun v => ?_, fun v => ?_, by have := F.l; simp; omega⟩
  · rw [F.s, sty_snoc]
    constructor
    · rintro (h1 | ⟨h1, h2⟩)
      · exact .inl h1
      · exact .inr ⟨h1, .inl h2⟩
    · rintro (k1 | ⟨k1, k2 | k2⟩)
      · exact .inl k1
      · exact .inr ⟨k1, k2⟩
      · rw [k1] at k2
        exact absurd h3 k2.2.2
  · rw [List.mem_append, List.mem_singleton, F.c, chg_snoc]
    constructor
    · rintro ((h1 | ⟨h1, h2⟩) | rfl)
      · exact .inl h1
      · exact .inr ⟨h1, .inl h2⟩
      · exact .inr ⟨rfl, .inr ⟨h1, h2, h3⟩⟩
    · rintro (h1 | ⟨h1, _⟩)
      · exact .inl (.inl h1)
      · exact .inr h1
theorem Fill.sty {Es : List (Int × Int)} {z zp : List (Int × Str)} {col : Int → Int} {pre st ch : List Int} {x : Int} {m : Nat} {p : Int × Str} (F : Fill Es z col pre x zp st ch m) (h1 : p.2 ≠ dash) (h2 : Adj Es x p.1) (h3 : p.2 ≠ toS (col x)) : Fill Es z col pre x (zp ++ [p]) (st ++ [x]) ch (m + 1) := by
  refine ⟨fun v => ?_, fun v => ?_, by have := F.l; simp; omega⟩
  · rw [List.mem_append, List.mem_singleton, F.s, sty_snoc]
    constructor
    · rintro ((h1 | ⟨h1, h2⟩) | rfl)
      · exact .inl h1
      · exact .inr ⟨h1, .inl h2⟩
      · exact .inr ⟨rfl, .inr ⟨h1, h2, h3⟩⟩
    · rintro (h1 | ⟨h1, _⟩)
      · exact .inl (.inl h1)
      · exact .inr h1
  · rw [F.c, chg_snoc]
    constructor
    · rintro (h1 | ⟨h1, h2⟩)
      · exact .inl h1
      · exact .inr ⟨h1, .inl h2⟩
    · rintro (k1 | ⟨k1, k2 | k2⟩)
      · exact .inl k1
      · exact .inr ⟨k1, k2⟩
      · rw [k1] at k2
        exact absurd k2.2.2 h3
theorem Fill.next {Es : List (Int × Int)} {z : List (Int × Str)} {col : Int → Int} {pre st ch : List Int} {x y : Int} {m : Nat} (F : Fill Es z col pre x z st ch m) : Fill Es z col (pre ++ [x]) y [] st ch m := by
  refine ⟨fun v => ?_, fun v => ?_, F.l⟩
  · rw [F.s, List.mem_append, List.mem_singleton]
    constructor
    · rintro (⟨h1, h2⟩ | ⟨h1, h2⟩)
      · exact .inl ⟨.inl h1, h2⟩
      · exact .inl ⟨.inr h1, h2⟩
    · rintro (⟨h1 | h1, h2⟩ | ⟨_, p, hp, _⟩)
      · exact .inl ⟨h1, h2⟩
      · exact .inr ⟨h1, h2⟩
      · simp at hp
  · rw [F.c, List.mem_append, List.mem_singleton]
    constructor
    · rintro (⟨h1, h2⟩ | ⟨h1, h2⟩)
      · exact .inl ⟨.inl h1, h2⟩
      · exact .inl ⟨.inr h1, h2⟩
    · rintro (⟨h1 | h1, h2⟩ | ⟨_, p, hp, _⟩)
      · exact .inl ⟨h1, h2⟩
      · exact .inr ⟨h1, h2⟩
      · simp at hp
def sp_sides (K : PySem.W.Frag) : Sp := fun vs H Q _ => ∃ (g : V) (a q d : Addr) (n : Nat) (Es : List (Int × Int)) (ns : List Int) (sp : List Str) (col : Int → Int), vs = [g, .ref a, .ref q, .ref d] ∧ rGraph K No H g (n, Es) ∧ H a = some (.lst (ns.map V.int)) ∧ H q = some (.lst (sp.map V.str)) ∧ H d = some (.dK (dI ((outside n ns).map fun v => (v, col v)))) ∧ GoodE n Es ∧ n ≤ 40 ∧ ns.length ≤ 5 ∧ sp.length = ns.length ∧ (∀ v ∈ outside n ns, col v = 0 ∨ col v = 1) ∧
  ∀ H' v, Same H H' → rTup rInts rInts (Trk H) H' v (sideS n Es ns sp col, sideC n Es ns sp col) → Q v H'
theorem sp_sides.len {K : PySem.W.Frag} {vs : List V} {H : Hp} {Q : VK} {E : XK} (h : sp_sides K vs H Q E) : vs.length = (["graph", "nodes", "split", "colours"] : List Str).length := by
  obtain ⟨g, a, q, d, n, Es, ns, sp, col, rfl, _⟩ := h
  rfl
theorem srt_outside {n : Nat} {ns : List Int} {col : Int → Int} : isort (((outside n ns).map fun v => (v, col v)).map (·.1)) = outside n ns := by
  have e : ((outside n ns).map fun v => (v, col v)).map (·.1) = outside n ns := by
    rw [List.map_map]
    exact List.map_id _
  rw [e]
  exact srt_eq (isort_perm _) (isort_srt _) ((outside_rising n ns).1.imp fun h => Int.le_of_lt h)
theorem lkp_out {n : Nat} {ns : List Int} {col : Int → Int} {v : Int} (h : v ∈ outside n ns) : lkp ((outside n ns).map fun v => (v, col v)) v = some (col v) := by
  refine lkp_of_mem ?_ (List.mem_map.mpr ⟨v, h, rfl⟩)
  rw [List.map_map]
  have e : (outside n ns).map ((fun x : Int × Int => x.1) ∘ fun v => (v, col v)) = outside n ns := List.map_id _
  rw [e]
  exact rise_nd (outside_rising n ns).1
theorem log01 {i : Int} (h : i = 0 ∨ i = 1) : i.natAbs.log2 < 1920 := by
  rcases h with rfl | rfl <;> decide
abbrev N_sides : List Str := ["graph", "nodes", "split", "colours", "stay", "change", "node", "other", "letter"]
theorem sc_sides : FnScope N_sides ["graph", "nodes", "split", "colours"] (defScope s_sides) := ⟨rfl, rfl, rfl, by decide +kernel, rfl, by decide +kernel, by decide +kernel⟩
theorem ok_sides {P : Program} {w : World} {K : PySem.W.Frag} {mg : Str → Option Value} {base : Heap} (W : Hd K mg) : OkD P w K mg base 1 "sides" ["graph", "nodes", "split", "colours"] (sp_sides K) := by
  obtain ⟨fd, F⟩ := W.df_sides
  refine okD_mk F W.mg_sides (fun _ _ _ _ _ _ us hl => match us, hl with | [_, _, _, _], _ => rfl) ?_
  refine F.ok sc_sides (fun vs H Q E h => sp_sides.len h) (fun cdv A outer s H vs Q E hr h => ⟨_, PSs.nox ((pss_cons (ps_set (i := 4) sc_sides.nd rfl (by first | exact .inl rfl | exact .inr rfl) (pe_lst pa_nil))
  (pss_cons (ps_set (i := 5) sc_sides.nd rfl (by first | exact .inl rfl | exact .inr rfl) (pe_lst pa_nil))
  (pss_cons (ps_for PassesOwn.never rfl (pi_list (pe_callB (call_sortedDq rfl) (by rfl) (W.fr_sorted) (by decide +kernel) (pa_cons (pv 3) pa_nil))) (pg_name (i := 6) sc_sides.nd rfl (by first | exact .inl rfl | exact .inr rfl))
  (pss_one (ps_for PassesOwn.never rfl (pi_zip (by rfl) (W.fr_zip) (pa_cons (pv 1) (pa_cons (pv 2) pa_nil))) (pg_tupK K (n := 2) rfl (pgs_cons (pg_name (i := 7) sc_sides.nd rfl (by first | exact .inl rfl | exact .inr rfl)) (pgs_cons (pg_name (i := 8) sc_sides.nd rfl (by first | exact .inl rfl | exact .inr rfl)) pgs_nil)))
  (pss_one (ps_if (PW.pt (pw_and (pt_cmpR op_ne (pv 8) pe_str (nomark _)) (pw_and1 (pt_cmpR (op_inK K) (pv 7) (pe_ix (ix_listK K) (pe_fld (pv 0) rfl) (pv 6) (fun _ _ => rfl)) (by rfl)))))
  (pss_one (ps_if (pt_cmpR op_eq (pv 8) (pe_callTy call_strS (by rfl) (W.fr_str) (by decide +kernel) (pa_cons (pe_dget (hu_of hr) (pv 3) (pv 6) (fun _ _ => rfl)) pa_nil)) (nomark _))
  (pss_one (ps_expr (pe_bmK K PySem.F.plainAttrs_list PySem.F.slot_list_append PySem.F.type_list_append mt_append (pv 5) (pa_cons (pv 6) pa_nil))))
  (pss_one (ps_expr (pe_bmK K PySem.F.plainAttrs_list PySem.F.slot_list_append PySem.F.type_list_append mt_append (pv 4) (pa_cons (pv 6) pa_nil))))))
  pss_nil)))))
  (pss_one (ps_ret (pe_tup (pa_cons (pe_callB (cr_sortedSet rfl) (by rfl) (W.fr_sorted) (by decide +kernel) (pa_cons (pe_callTy (cr_setL rfl) (by rfl) (W.fr_set) (by decide +kernel) (pa_cons (pv 4) pa_nil)) pa_nil)) (pa_cons (pe_callB (cr_sortedSet rfl) (by rfl) (W.fr_sorted) (by decide +kernel) (pa_cons (pe_callTy (cr_setL rfl) (by rfl) (W.fr_set) (by decide +kernel) (pa_cons (pv 5) pa_nil)) pa_nil)) pa_nil))))))))), ?_⟩)
  try dsimp only [cxOf, Cx.nox, Cx.wish]
  obtain ⟨gv, a, q, d, n, Es, ns, sp, col, rfl, rg, ha, hq, hd, good, h40, l5, lsp, c01, k⟩ := h
  obtain ⟨g, dx, e, l, rfl, _, hg, re, rl⟩ := id rg
  obtain ⟨lk, ⟨la, rfl, _, hla⟩, pl⟩ := rl
  have lo := (outside_rising n ns).len
  walk_at "go"
  intro S nS
  walk_at "go"
  intro C nC
  have nsc : S ≠ C := (new_ne nC).symm
  have nC0 := new_old nC
  have s0 : Same H (upd (upd H S (.lst [])) C (.lst [])) := Same.new (Same.new (Same.refl _) nS) nC
  have hd0 := s0 _ _ hd
  walk_at "go"
  refine g_sortD hd0 (by rw [List.length_map]; omega) fun c nc => ?_
  rw [srt_outside]
  have ncC := new_ne nc
  have ncS := new_ne (new_old nc)
  have s1 : Same H (upd (upd (upd H S (.lst [])) C (.lst [])) c (.lst ((outside n ns).map V.int))) := Same.new s0 nc
  refine for_ints (ns := outside n ns) upd_same (fun pre σ' H' => Same H H' ∧ H' c = some (.lst ((outside n ns).map V.int)) ∧ (∃ w1 w2 w3 : Option V, σ' = [some (.ref g), some (.ref a), some (.ref q), some (.ref d), some (.ref S), some (.ref C), w1, w2, w3]) ∧ ∃ st ch, H' S = some (.lst (st.map V.int)) ∧ H' C = some (.lst (ch.map V.int)) ∧ ∀ x, Fill Es (ns.zip sp) col pre x [] st ch (pre.length * 5)) ?_ ?_ ?_ ?_
  · refine ⟨s1, upd_same, ⟨_, _, _, rfl⟩, [], [], ?_, ?_, fun x => ⟨fun v => ?_, fun v => ?_, Nat.le_refl _⟩⟩
    · refine hp_new ?_ nc
      rw [upd_ne nsc]
      exact upd_same
    · exact hp_new upd_same nc
    · simp [Sty]
    · simp [Chg]
  · rintro pre σ' H' _ ⟨_, h, _⟩
    exact h
  · rintro pre v post σ' H' e ⟨sm, hc, ⟨w1, w2, w3, rfl⟩, st, ch, hS, hC, F⟩
    have mv : v ∈ outside n ns := by rw [e]; simp
    have rv := (mem_outside.mp mv).1
    have pl5 : pre.length < 41 := by have := congrArg List.length e; simp at this; omega
    obtain ⟨y, hy, ⟨b, rfl, _, hb⟩⟩ := Paired.get' pl (links_get (n := n) (E := Es) (v := v.toNat) (by omega))
    have cv : ((v.toNat : Nat) : Int) = v := by omega
    rw [cv] at hb
    walk_at "go"
    refine for_zip (R := fun x (i : Int) => x = .int i) (S := fun x (s : Str) => x = .str s) (sm _ _ ha) (sm _ _ hq) (paired_map ns) (paired_map sp) lsp.symm (fun p1 p2 σ' H' => p1.length = p2.length ∧ Same H H' ∧ H' c = some (.lst ((outside n ns).map V.int)) ∧ (∃ w2 w3 : Option V, σ' = [some (.ref g), some (.ref a), some (.ref q), some (.ref d), some (.ref S), some (.ref C), some (.int v), w2, w3]) ∧
      ∃ st ch, H' S = some (.lst (st.map V.int)) ∧ H' C = some (.lst (ch.map V.int)) ∧ Fill Es (ns.zip sp) col pre v (p1.zip p2) st ch (pre.length * 5 + p1.length)) ?_ ?_ ?_ ?_
    · exact ⟨rfl, sm, hc, ⟨_, _, rfl⟩, st, ch, hS, hC, F v⟩
    · rintro p1 p2 σ' H' ⟨_, sm, _⟩
      exact ⟨sm _ _ ha, sm _ _ hq⟩
    · rintro p1 p2 x y u s post1 post2 σ' H2 T e1 e2 el rfl rfl ⟨_, sm2, hc2, ⟨w2, w3, rfl⟩, st, ch, hS2, hC2, F2⟩ nT
      have s3 := Same.new (o := .tup [.int u, .str s]) sm2 nT
      have hS3 := hp_new (o' := .tup [.int u, .str s]) hS2 nT
      have hC3 := hp_new (o' := .tup [.int u, .str s]) hC2 nT
      have hc3 := hp_new (o' := .tup [.int u, .str s]) hc2 nT
      have hg3 := s3 _ _ hg
      have hla3 := s3 _ _ hla
      have hb3 := s3 _ _ hb
      have hd3 := s3 _ _ hd
      generalize upd H2 T (.tup [.int u, .str s]) = H3 at s3 hS3 hC3 hc3 hg3 hla3 hb3 hd3 ⊢
      have zz : (p1 ++ [u]).zip (p2 ++ [s]) = p1.zip p2 ++ [(u, s)] := by
        rw [List.zip_append el]
        rfl
      have l1 : p1.length < 5 := by have := congrArg List.length e1; simp at this; omega
      have fl := F2.l
      walk_at "go"
      refine g_ite (fun nd => ?_) (fun d => ?_)
      · walk_at "go"
        refine g_ix hla3 (atI_at rv.1 hy) ?_
        walk_at "go"
        refine g_ite (fun i1 => ?_) (fun i1 => ?_)
        · have ad := (mem_nb good).mp i1
          walk_at "go"
          refine g_rdget hd3 (lkp_out mv) ?_
          walk_at "go"
          refine g_strI (log01 (c01 v mv)) ?_
          walk_at "go"
          refine g_ite (fun es => ?_) (fun ne => ?_)
          · walk_at "go"
            refine g_appI hC3 (small_of (by omega)) ?_
            refine ⟨by simp [el], Same.mut s3 nC0, ?_, ⟨_, _, rfl⟩, st, ch ++ [v], ?_, upd_same, ?_⟩
            · rw [upd_ne ncC]
              exact hc3
            · rw [upd_ne nsc]
              exact hS3
            · rw [zz, List.length_append]
              exact F2.chg nd ad es
          · walk_at "go"
            refine g_appI hS3 (small_of (by omega)) ?_
            refine ⟨by simp [el], Same.mut s3 nS, ?_, ⟨_, _, rfl⟩, st ++ [v], ch, upd_same, ?_, ?_⟩
            · rw [upd_ne ncS]
              exact hc3
            · rw [upd_ne nsc.symm]
              exact hC3
            · rw [zz, List.length_append]
              exact F2.sty nd ad ne
        · walk_at "go"
          refine ⟨by simp [el], s3, hc3, ⟨_, _, rfl⟩, st, ch, hS3, hC3, ?_⟩
          rw [zz, List.length_append]
          exact F2.skip fun z => i1 ((mem_nb good).mpr z.2)
      · walk_at "go"
        refine ⟨by simp [el], s3, hc3, ⟨_, _, rfl⟩, st, ch, hS3, hC3, ?_⟩
        rw [zz, List.length_append]
        exact F2.skip fun z => d z.1
    · rintro σ' H2 ⟨_, sm2, hc2, ⟨w2, w3, rfl⟩, st, ch, hS2, hC2, F2⟩
      refine ⟨sm2, hc2, ⟨_, _, _, rfl⟩, st, ch, hS2, hC2, fun x => ?_⟩
      have F3 := F2.next (y := x)
      exact ⟨F3.s, F3.c, by have := F3.l; simp; omega⟩
  · rintro σ' H' ⟨sm, hc, ⟨w1, w2, w3, rfl⟩, st, ch, hS, hC, F⟩
    have F := F 0
    have fl := F.l
    have rs : ∀ x ∈ st, 0 ≤ x ∧ x < n := fun x hx => by
      rcases (F.s x).mp hx with ⟨h, _⟩ | ⟨_, p, hp, _⟩
      · exact (outside_rising n ns).2 x h
      · simp at hp
    have rc : ∀ x ∈ ch, 0 ≤ x ∧ x < n := fun x hx => by
      rcases (F.c x).mp hx with ⟨h, _⟩ | ⟨_, p, hp, _⟩
      · exact (outside_rising n ns).2 x h
      · simp at hp
    walk_at "go"
    refine g_set hS (by omega) fun p1 c1 n1 b1 => ?_
    walk_at "go"
    refine g_sortset (ms := sideS n Es ns sp col) upd_same (by have := b1 n rs; omega) (sideS_rise n Es ns sp col).1 (fun x => ?_) fun p2 n2 => ?_
    · rw [mem_sideS, F.s]
      simp [Sty]
    have s2 := Same.new (o := .lst ((sideS n Es ns sp col).map V.int)) (Same.new (Same.refl H') n1) n2
    have hC2 := s2 _ _ hC
    walk_at "go"
    refine g_set hC2 (by omega) fun p3 c3 n3 b3 => ?_
    walk_at "go"
    refine g_sortset (ms := sideC n Es ns sp col) upd_same (by have := b3 n rc; omega) (sideC_rise n Es ns sp col).1 (fun x => ?_) fun p4 n4 => ?_
    · rw [mem_sideC, F.c]
      simp [Chg]
    walk_at "go"
    intro t nt
    have s4 := Same.new (o := .lst ((sideC n Es ns sp col).map V.int)) (Same.new (o := SetO w p3 (fun j => decide (j ∈ ch)) c3) (Same.refl _) n3) n4
    have s24 := Same.trans s2 s4
    refine k _ _ (Same.trans sm (Same.new s24 nt)) ⟨.ref p2, .ref p4, ⟨t, rfl, fun z => z (sm.free (s24.free nt)), upd_same⟩, ⟨p2, rfl, fun z => z (sm.free (new_old n2)), ?_⟩, ⟨p4, rfl, fun z => z (sm.free (s2.free (new_old n4))), hp_new upd_same nt⟩⟩
    exact hp_new (s4 _ _ upd_same) nt

/-! ### the law of splits -/
/-- adjacent nodes have other letters -/
def RightP (Es : List (Int × Int)) (ns : List Int) (sp : List Str) : Prop := ∀ (i j : Nat) s u v, i < j → sp[i]? = some s → sp[j]? = some s → s ≠ dash → ns[i]? = some u → ns[j]? = some v → ¬ Adj Es v u
theorem right_snoc {Es : List (Int × Int)} {ns : List Int} {sp : List Str} {c : Str} : RightP Es ns (sp ++ [c]) ↔ RightP Es ns sp ∧ FitP Es ns sp c := by
  constructor
  · intro R
    refine ⟨fun i j s u v ij h1 h2 => R i j s u v ij (get_app h1) (get_app h2), ?_⟩
    by_cases d : c = dash
    · exact .inl d
    · exact .inr fun i s u v h1 h2 h3 h4 => R i sp.length c u v (List.getElem?_eq_some_iff.mp h1).1 (by rw [← h2]; exact get_app h1) (by simp) d h3 h4
  · rintro ⟨R, F⟩ i j s u v ij h1 h2 hd h3 h4
    have l2 := (List.getElem?_eq_some_iff.mp h2).1
    rw [List.length_append, List.length_singleton] at l2
    by_cases q : j = sp.length
    · subst q
      have e : s = c := by simpa using h2.symm
      subst e
      rw [List.getElem?_append_left ij] at h1
      rcases F with F | F
      · exact absurd F hd
      · exact F i s u v h1 rfl h3 h4
    · rw [List.getElem?_append_left (by omega)] at h1 h2
      exact R i j s u v ij h1 h2 hd h3 h4
theorem mem_fitL {Es : List (Int × Int)} {ns : List Int} {sp : List Str} {c : Str} : c ∈ fitL Es ns sp LET ↔ c ∈ LET ∧ FitP Es ns sp c := by
  unfold fitL
  rw [List.mem_filter]
  simp
theorem mem_spl {Es : List (Int × Int)} {ns : List Int} : ∀ {k : Nat} {sp : List Str}, sp ∈ spl Es ns k ↔ sp.length = k ∧ (∀ c ∈ sp, c ∈ LET) ∧ RightP Es ns sp
  | 0, sp => by
    rw [spl, List.mem_singleton]
    constructor
    · rintro rfl
      exact ⟨rfl, by simp, fun i j s u v _ h => by simp at h⟩
    · rintro ⟨h, _⟩
      exact List.length_eq_zero_iff.mp h
  | k + 1, sp => by
    rw [spl, List.mem_flatMap]
    constructor
    · rintro ⟨s, hs, h⟩
      obtain ⟨c, hc, rfl⟩ := List.mem_map.mp h
      obtain ⟨h1, h2, h3⟩ := mem_spl.mp hs
      obtain ⟨h4, h5⟩ := mem_fitL.mp hc
      refine ⟨by simp [h1], fun x hx => ?_, right_snoc.mpr ⟨h3, h5⟩⟩
      rcases List.mem_append.mp hx with hx | hx
      · exact h2 x hx
      · rw [List.mem_singleton.mp hx]
        exact h4
    · rintro ⟨h1, h2, h3⟩
      rcases List.eq_nil_or_concat sp with rfl | ⟨s, c, rfl⟩
      · simp at h1
      · rw [List.concat_eq_append] at *
        obtain ⟨h4, h5⟩ := right_snoc.mp h3
        exact ⟨s, mem_spl.mpr ⟨by simpa using h1, fun x hx => h2 x (List.mem_append_left _ hx), h4⟩, List.mem_map.mpr ⟨c, mem_fitL.mpr ⟨h2 c (by simp), h5⟩, rfl⟩⟩
def giv (ns : List Int) (sp : List Str) : List Int := ((ns.zip sp).filter fun p => decide (p.2 = dash)).map (·.1)
theorem giv_snoc (ns : List Int) (sp : List Str) (u : Int) (c : Str) (h : ns.length = sp.length) : giv (ns ++ [u]) (sp ++ [c]) = giv ns sp ++ (if c = dash then [u] else []) := by
  unfold giv
  rw [List.zip_append h, List.filter_append, List.map_append]
  congr 1
  by_cases q : c = dash <;> simp [q]
theorem giv_len : ∀ {ns : List Int} {sp : List Str}, ns.length = sp.length → (giv ns sp).length = sp.count dash
  | [], [], _ => rfl
  | [], _ :: _, h => by simp at h
  | _ :: _, [], h => by simp at h
  | u :: ns, c :: sp, h => by
    have ih := giv_len (ns := ns) (sp := sp) (by simpa using h)
    unfold giv at ih ⊢
    rw [List.zip_cons_cons, List.filter_cons, List.count_cons]
    by_cases q : c = dash
    · simp only [q, decide_true, if_true, List.map_cons, List.length_cons, beq_self_eq_true]
      omega
    · simp only [q, decide_false, Bool.false_eq_true, if_false, beq_eq_false_iff_ne.mpr q]
      omega
theorem giv_sub {ns : List Int} {sp : List Str} (h : ns.length = sp.length) : (giv ns sp).Sublist ns := by
  unfold giv
  have e : (ns.zip sp).map (·.1) = ns := by
    rw [List.map_fst_zip]
    omega
  have := (List.filter_sublist (l := ns.zip sp) (p := fun p => decide (p.2 = dash))).map (fun x => x.1)
  rw [e] at this
  exact this
/-- the letter of u -/
def ltr (ns : List Int) (sp : List Str) (u : Int) : Str := (sp[(pos ns u).toNat]?).getD dash
theorem ltr_get {ns : List Int} {sp : List Str} (h : ns.length = sp.length) {u : Int} (hu : u ∈ ns) : ns[(pos ns u).toNat]? = some u ∧ sp[(pos ns u).toNat]? = some (ltr ns sp u) := by
  have r := pos_range hu
  refine ⟨pos_get hu, ?_⟩
  unfold ltr
  rw [List.getElem?_eq_getElem (by omega)]
  rfl
theorem ltr_zip {ns : List Int} {sp : List Str} (h : ns.length = sp.length) {u : Int} (hu : u ∈ ns) : (u, ltr ns sp u) ∈ ns.zip sp := by
  obtain ⟨h1, h2⟩ := ltr_get h hu
  refine List.mem_of_getElem? (i := (pos ns u).toNat) ?_
  rw [List.getElem?_zip_eq_some]
  exact ⟨h1, h2⟩
theorem zip_ltr {ns : List Int} {sp : List Str} (nd : ns.Nodup) (h : ns.length = sp.length) {u : Int} {c : Str} (m : (u, c) ∈ ns.zip sp) : u ∈ ns ∧ c = ltr ns sp u := by
  obtain ⟨i, hi⟩ := List.mem_iff_getElem?.mp m
  rw [List.getElem?_zip_eq_some] at hi
  obtain ⟨h1, h2⟩ := hi
  have e := pos_of_get nd h1
  refine ⟨List.mem_of_getElem? h1, ?_⟩
  unfold ltr
  rw [e, Int.toNat_natCast, h2]
  rfl
theorem mem_giv {ns : List Int} {sp : List Str} (nd : ns.Nodup) (h : ns.length = sp.length) {u : Int} : u ∈ giv ns sp ↔ u ∈ ns ∧ ltr ns sp u = dash := by
  unfold giv
  rw [List.mem_map]
  constructor
  · rintro ⟨⟨x, c⟩, hp, rfl⟩
    obtain ⟨h1, h2⟩ := List.mem_filter.mp hp
    obtain ⟨h3, h4⟩ := zip_ltr nd h h1
    exact ⟨h3, by rw [← h4]; simpa using h2⟩
  · rintro ⟨h1, h2⟩
    exact ⟨_, List.mem_filter.mpr ⟨ltr_zip h h1, by simp [h2]⟩, rfl⟩
theorem toS0 : toS 0 = ("0" : Str) := by decide +kernel
theorem toS1 : toS 1 = ("1" : Str) := by decide +kernel
theorem let_two {c : Str} (h : c ∈ LET) (d : c ≠ dash) : c = ("0" : Str) ∨ c = ("1" : Str) := by
  simp only [LET, List.mem_cons, List.not_mem_nil, or_false] at h
  rcases h with h | h | h
  · exact absurd h d
  · exact .inl h
  · exact .inr h
theorem n01 : ¬ (("0" : Str) = "1") := by decide +kernel
/-- in the colours' terms: the letter is the colour's -/
theorem let_col {c : Str} {i : Int} (h : c ∈ LET) (d : c ≠ dash) (hi : i = 0 ∨ i = 1) : c = toS i ↔ decide (c = ("1" : Str)) = decide (i = 1) := by
  rcases let_two h d with rfl | rfl <;> rcases hi with rfl | rfl
  · rw [toS0]; simp [n01]
  · rw [toS1]; simp [n01]
  · rw [toS0]; simp; exact fun z => n01 z.symm
  · rw [toS1]; simp
theorem nd_sub_len {l m : List Int} (nd : l.Nodup) (h : ∀ x ∈ l, x ∈ m) : l.length ≤ m.length := by
  induction l generalizing m with
  | nil => exact Nat.zero_le _
  | cons x l ih =>
    obtain ⟨n1, n2⟩ := List.nodup_cons.mp nd
    have mx := h x List.mem_cons_self
    have := ih (m := m.erase x) n2 fun y hy => (List.mem_erase_of_ne (fun z => n1 (by rw [← z]; exact hy))).mpr (h y (List.mem_cons_of_mem _ hy))
    rw [List.length_erase_of_mem mx] at this
    have := List.length_pos_of_mem mx
    rw [List.length_cons]
    omega
theorem hit_len : ∀ {ws : List (List Int)} {T : List Int}, ws.Pairwise Off → (∀ w ∈ ws, ∃ t ∈ T, t ∈ w) → ws.length ≤ T.length
  | [], _, _, _ => Nat.zero_le _
  | w :: ws, T, ap, h => by
    obtain ⟨a1, a2⟩ := List.pairwise_cons.mp ap
    obtain ⟨t, ht, hw⟩ := h w List.mem_cons_self
    have := hit_len (ws := ws) (T := T.erase t) a2 fun w' hw' => by
      obtain ⟨t', ht', hw2⟩ := h w' (List.mem_cons_of_mem _ hw')
      exact ⟨t', (List.mem_erase_of_ne (fun z => a1 w' hw' t hw (by rw [← z]; exact hw2))).mpr ht', hw2⟩
    rw [List.length_erase_of_mem ht] at this
    have := List.length_pos_of_mem ht
    rw [List.length_cons]
    omega
section
variable {n : Nat} {Es : List (Int × Int)} {ns : List Int} {sp : List Str} {col : Int → Int} {ws : List (List Int)} {X : List Int}
/-- what parts the sides, with what is given, is an odd set -/
theorem split_sound (good : GoodE n Es) (ri : Rising n ns) (C : Canon (Adj (outE Es ns)) (fun v => v ∈ outside n ns) col) (ms : sp ∈ spl Es ns ns.length) (D : DW n (outE Es ns) (sideS n Es ns sp col) (sideC n Es ns sp col) ws X) :
    Rising n (isort (giv ns sp ++ X)) ∧ Bip (Adj (outE Es (isort (giv ns sp ++ X)))) := by
  obtain ⟨hl, hL, hR⟩ := mem_spl.mp ms
  have nd := rise_nd ri.1
  have hl := hl.symm
  have gs := giv_sub hl
  have xo : ∀ x ∈ X, x ∈ outside n ns := fun x hx => by
    rcases D.on x hx with h | ⟨u, h⟩
    · exact (mem_sideS.mp h).1
    · exact (out_mem good h).2
  have ndT : (giv ns sp ++ X).Nodup := List.nodup_append.mpr ⟨nd.sublist gs, rise_nd D.rise.1, fun a ha b hb e => (mem_outside.mp (xo b hb)).2 (e ▸ gs.mem ha)⟩
  refine ⟨⟨srt_rise (isort_srt _) ((isort_perm _).nodup_iff.mpr ndT), fun x hx => ?_⟩, ?_⟩
  · rcases List.mem_append.mp (mem_isort.mp hx) with h | h
    · exact ri.2 x (gs.mem h)
    · exact D.rise.2 x h
  let Rc : Int → Prop := fun v => ∃ b, b ∈ sideC n Es ns sp col ∧ b ∉ X ∧ Conn (fun u v => Adj (outE Es ns) u v ∧ v ∉ X) b v
  haveI : DecidablePred Rc := fun _ => Classical.propDecidable _
  let c : Int → Bool := fun v => if v ∈ ns then decide (ltr ns sp v = ("1" : Str)) else (decide (col v = 1) != decide (Rc v))
  have step : ∀ {u v : Int}, Adj (outE Es ns) u v → v ∉ X → Rc u → Rc v := fun a nx ⟨b, h1, h2, h3⟩ => ⟨b, h1, h2, .step h3 ⟨a, nx⟩⟩
  have mixed : ∀ u v, u ∈ ns → v ∉ ns → Adj Es u v → u ∉ isort (giv ns sp ++ X) → v ∉ isort (giv ns sp ++ X) → c u ≠ c v := by
    intro u v hu hv a nu nv
    have nug : u ∉ giv ns sp := fun z => nu (mem_isort.mpr (List.mem_append_left _ z))
    have nvx : v ∉ X := fun z => nv (mem_isort.mpr (List.mem_append_right _ z))
    have mv : v ∈ outside n ns := mem_outside.mpr ⟨good.at a.symm, hv⟩
    have ld : ltr ns sp u ≠ dash := fun z => nug ((mem_giv nd hl).mpr ⟨hu, z⟩)
    have lL : ltr ns sp u ∈ LET := hL _ (List.mem_of_getElem? (ltr_get hl hu).2)
    have lc := let_col lL ld (C.two v mv)
    show (if u ∈ ns then _ else _) ≠ (if v ∈ ns then _ else _)
    rw [if_pos hu, if_neg hv]
    by_cases q : ltr ns sp u = toS (col v)
    · have mB : v ∈ sideC n Es ns sp col := mem_sideC.mpr ⟨mv, _, ltr_zip hl hu, ld, a.symm, q⟩
      have rv : Rc v := ⟨v, mB, nvx, .refl⟩
      rw [lc.mp q, decide_eq_true rv]
      cases decide (col v = 1) <;> simp
    · have mA : v ∈ sideS n Es ns sp col := mem_sideS.mpr ⟨mv, _, ltr_zip hl hu, ld, a.symm, q⟩
      have rv : ¬ Rc v := by
        rintro ⟨b, h1, h2, h3⟩
        have rev : ∀ {x}, Conn (fun u v => Adj (outE Es ns) u v ∧ v ∉ X) b x → x ∉ X ∧ Conn (fun u v => Adj (outE Es ns) u v ∧ v ∉ X) x b := by
          intro x h
          induction h with
          | refl => exact ⟨h2, .refl⟩
          | step _ a ih => exact ⟨a.2, Conn.trans (.step .refl ⟨a.1.symm, ih.1⟩) ih.2⟩
        exact D.sep v mA nvx b (rev h3).2 h1
      rw [decide_eq_false rv]
      have : ¬ decide (ltr ns sp u = ("1" : Str)) = decide (col v = 1) := fun z => q (lc.mpr z)
      cases h1 : decide (col v = 1) <;> cases h2 : decide (ltr ns sp u = ("1" : Str)) <;> simp [h1, h2] at this ⊢
  refine ⟨c, fun u v a => ?_⟩
  obtain ⟨ae, nu, nv⟩ := outE_adj.mp a
  by_cases hu : u ∈ ns
  · by_cases hv : v ∈ ns
    · have nug : u ∉ giv ns sp := fun z => nu (mem_isort.mpr (List.mem_append_left _ z))
      have nvg : v ∉ giv ns sp := fun z => nv (mem_isort.mpr (List.mem_append_left _ z))
      have ld : ltr ns sp u ≠ dash := fun z => nug ((mem_giv nd hl).mpr ⟨hu, z⟩)
      have ld' : ltr ns sp v ≠ dash := fun z => nvg ((mem_giv nd hl).mpr ⟨hv, z⟩)
      obtain ⟨g1, g2⟩ := ltr_get hl hu
      obtain ⟨g3, g4⟩ := ltr_get hl hv
      have ne : ltr ns sp u ≠ ltr ns sp v := by
        intro e
        have nuv := good.ne ae
        rcases Nat.lt_trichotomy (pos ns u).toNat (pos ns v).toNat with h | h | h
        · exact hR _ _ _ u v h g2 (by rw [e]; exact g4) ld g1 g3 ae.symm
        · rw [h, g3] at g1
          cases g1
          exact nuv rfl
        · exact hR _ _ _ v u h g4 (by rw [← e]; exact g2) ld' g3 g1 ae
      show (if u ∈ ns then _ else _) ≠ (if v ∈ ns then _ else _)
      rw [if_pos hu, if_pos hv]
      rcases let_two (hL _ (List.mem_of_getElem? g2)) ld with e1 | e1 <;> rcases let_two (hL _ (List.mem_of_getElem? g4)) ld' with e2 | e2 <;> rw [e1, e2] at ne ⊢
      · exact absurd rfl ne
      · simp [n01]
      · simp
        first | exact n01 | exact fun z => n01 z.symm
      · exact absurd rfl ne
    · exact mixed u v hu hv ae nu nv
  · by_cases hv : v ∈ ns
    · exact (mixed v u hv hu ae.symm nv nu).symm
    · have nux : u ∉ X := fun z => nu (mem_isort.mpr (List.mem_append_right _ z))
      have nvx : v ∉ X := fun z => nv (mem_isort.mpr (List.mem_append_right _ z))
      have ao : Adj (outE Es ns) u v := outE_adj.mpr ⟨ae, hu, hv⟩
      have eR : decide (Rc u) = decide (Rc v) := decide_eq_decide.mpr ⟨step ao nvx, step ao.symm nux⟩
      have cn := C.ok u v ao
      obtain ⟨mu, mv⟩ := out_mem good ao
      have t1 := C.two u mu
      have t2 := C.two v mv
      show (if u ∈ ns then _ else _) ≠ (if v ∈ ns then _ else _)
      rw [if_neg hu, if_neg hv, eR]
      rcases t1 with e1 | e1 <;> rcases t2 with e2 | e2 <;> rw [e1, e2] at cn ⊢ <;> first | exact absurd rfl cn | (cases decide (Rc v) <;> simp)
/-- the split that an odd set T gives -/
def spT (ns T : List Int) (c : Int → Bool) : List Str := ns.map fun x => if x ∈ T then dash else if c x = true then ("1" : Str) else ("0" : Str)
theorem d0 : ¬ (("0" : Str) = dash) := by decide +kernel
theorem d1 : ¬ (("1" : Str) = dash) := by decide +kernel
theorem spT_in (good : GoodE n Es) {T : List Int} {c : Int → Bool} (hc : ∀ u v, Adj (outE Es T) u v → c u ≠ c v) : spT ns T c ∈ spl Es ns ns.length := by
  refine mem_spl.mpr ⟨by simp [spT], fun x hx => ?_, fun i j s u v ij h1 h2 hd h3 h4 a => ?_⟩
  · obtain ⟨y, _, rfl⟩ := List.mem_map.mp hx
    by_cases h : y ∈ T
    · simp only [h, if_true]
      simp [LET, dash]
    · simp only [h, if_false]
      cases c y <;> simp [LET]
  · unfold spT at h1 h2
    rw [List.getElem?_map, h3] at h1
    rw [List.getElem?_map, h4] at h2
    simp only [Option.map_some, Option.some.injEq] at h1 h2
    have nu : u ∉ T := fun z => hd (by rw [← h1, if_pos z])
    have nv : v ∉ T := fun z => hd (by rw [← h2, if_pos z])
    rw [if_neg nu] at h1
    rw [if_neg nv] at h2
    have := hc v u (outE_adj.mpr ⟨a, nv, nu⟩)
    cases q1 : c u <;> cases q2 : c v <;> simp [q1, q2] at h1 h2 this
    · exact n01 (h2 ▸ h1)
    · exact n01 (h1 ▸ h2)
theorem spT_ltr {T : List Int} {c : Int → Bool} {u : Int} (hu : u ∈ ns) : ltr ns (spT ns T c) u = if u ∈ T then dash else if c u = true then ("1" : Str) else ("0" : Str) := by
  unfold ltr spT
  rw [List.getElem?_map, pos_get hu]
  rfl
/-- a way between the sides meets T -/
theorem way_hits (good : GoodE n Es) (ri : Rising n ns) (C : Canon (Adj (outE Es ns)) (fun v => v ∈ outside n ns) col) {T : List Int} {c : Int → Bool} (hc : ∀ u v, Adj (outE Es T) u v → c u ≠ c v) {w : List Int} (W : Way n (outE Es ns) (sideS n Es ns (spT ns T c) col) (sideC n Es ns (spT ns T c) col) w) : ∃ t ∈ T, t ∈ w := by
  refine Classical.byContradiction fun no => ?_
  have nt : ∀ x ∈ w, x ∉ T := fun x hx z => no ⟨x, z, hx⟩
  have nd := rise_nd ri.1
  have hl : ns.length = (spT ns T c).length := by simp [spT]
  obtain ⟨x, r, e1, xA, _⟩ := W.fst
  obtain ⟨ys, z, e2, zB, _⟩ := W.lst
  have near : ∀ {v u : Int} {l : Str}, (u, l) ∈ ns.zip (spT ns T c) → l ≠ dash → Adj Es v u → v ∉ T → v ∈ outside n ns → (l = toS (col v) ↔ decide (c v = true) ≠ decide (col v = 1)) := by
    intro v u l hz ld a hv mv
    obtain ⟨hu, el⟩ := zip_ltr nd hl hz
    rw [spT_ltr hu] at el
    have nu : u ∉ T := fun z => ld (by rw [el, if_pos z])
    rw [if_neg nu] at el
    have lL : l ∈ LET := by rw [el]; split <;> simp [LET]
    rw [let_col lL ld (C.two v mv)]
    have := hc v u (outE_adj.mpr ⟨a, hv, nu⟩)
    have e3 : decide (l = ("1" : Str)) = c u := by
      rw [el]
      cases c u <;> simp [n01]
    rw [e3]
    cases q1 : c u <;> cases q2 : c v <;> cases decide (col v = 1) <;> simp [q1, q2] at this ⊢
  have hx : decide (c x = true) = decide (col x = 1) := by
    obtain ⟨mx, p, hp, pd, pa, pn⟩ := mem_sideS.mp xA
    have := near (v := x) hp pd pa (nt x (by rw [e1]; simp)) mx
    exact Classical.byContradiction fun z => pn (this.mpr z)
  have hz : decide (c z = true) ≠ decide (col z = 1) := by
    obtain ⟨mz, p, hp, pd, pa, pe⟩ := mem_sideC.mp zB
    exact (near (v := z) hp pd pa (nt z (by rw [e2]; simp)) mz).mp pe
  have all : ∀ (i : Nat) y, w[i]? = some y → decide (c y = true) = decide (col y = 1) := by
    intro i
    induction i with
    | zero =>
      intro y hy
      rw [e1] at hy
      simp at hy
      rw [← hy]
      exact hx
    | succ i ih =>
      intro y hy
      obtain ⟨q, hq⟩ : ∃ q, w[i]? = some q := ⟨w[i]'(by have := (List.getElem?_eq_some_iff.mp hy).1; omega), List.getElem?_eq_getElem _⟩
      have a := W.ch i q y hq hy
      obtain ⟨ae, _, _⟩ := outE_adj.mp a
      have h1 := ih q hq
      have h2 := hc q y (outE_adj.mpr ⟨ae, nt q (List.mem_of_getElem? hq), nt y (List.mem_of_getElem? hy)⟩)
      have h3 := C.ok q y a
      obtain ⟨mq, my⟩ := out_mem good a
      have t1 := C.two q mq
      have t2 := C.two y my
      rcases t1 with f1 | f1 <;> rcases t2 with f2 | f2 <;> rw [f1] at h1 h3 <;> rw [f2] at h3 ⊢ <;> cases q1 : c q <;> cases q2 : c y <;> simp [q1, q2] at h1 h2 h3 ⊢
  exact hz (all ys.length z (by rw [e2]; simp))
/-- no odd set is smaller, where each split has its ways -/
theorem split_full (good : GoodE n Es) (ri : Rising n ns) (C : Canon (Adj (outE Es ns)) (fun v => v ∈ outside n ns) col)
    (all : ∀ sp ∈ spl Es ns ns.length, sp.count dash < ns.length → ∃ ws : List (List Int), (∀ w ∈ ws, Way n (outE Es ns) (sideS n Es ns sp col) (sideC n Es ns sp col) w) ∧ ws.Pairwise Off ∧ ws.length = ns.length - sp.count dash)
    {T : List Int} (rT : Rising n T) (bT : Bip (Adj (outE Es T))) : ns.length ≤ T.length := by
  obtain ⟨c, hc⟩ := bT
  have nd := rise_nd ri.1
  have hl : ns.length = (spT ns T c).length := by simp [spT]
  have m := spT_in (ns := ns) good hc
  have gl := giv_len hl
  have gm : ∀ u, u ∈ giv ns (spT ns T c) → u ∈ T := fun u hu => by
    obtain ⟨h1, h2⟩ := (mem_giv nd hl).mp hu
    rw [spT_ltr h1] at h2
    refine Classical.byContradiction fun z => ?_
    rw [if_neg z] at h2
    split at h2
    · exact d1 h2
    · exact d0 h2
  have ndg := nd.sublist (giv_sub hl)
  by_cases q : (spT ns T c).count dash < ns.length
  · obtain ⟨ws, h1, h2, h3⟩ := all _ m q
    have hits := hit_len (ws := ws) (T := T.filter fun t => decide (t ∉ ns)) h2 fun w hw => by
      obtain ⟨t, ht, hw2⟩ := way_hits good ri C hc (h1 w hw)
      refine ⟨t, List.mem_filter.mpr ⟨ht, ?_⟩, hw2⟩
      have : t ∈ outside n ns := by
        obtain ⟨i, hi⟩ := List.mem_iff_getElem?.mp hw2
        obtain ⟨x, r, e1, xA, _⟩ := (h1 w hw).fst
        cases i with
        | zero =>
          rw [e1] at hi
          simp at hi
          rw [← hi]
          exact (mem_sideS.mp xA).1
        | succ i =>
          obtain ⟨y, hy⟩ : ∃ y, w[i]? = some y := ⟨w[i]'(by have := (List.getElem?_eq_some_iff.mp hi).1; omega), List.getElem?_eq_getElem _⟩
          exact (out_mem good ((h1 w hw).ch i y t hy hi)).2
      simp [(mem_outside.mp this).2]
    have l2 := nd_sub_len (l := giv ns (spT ns T c) ++ T.filter fun t => decide (t ∉ ns)) (m := T) (List.nodup_append.mpr ⟨ndg, (rise_nd rT.1).sublist List.filter_sublist, fun a ha b hb e => by
      have := (List.mem_filter.mp hb).2
      simp at this
      exact this (e ▸ (giv_sub hl).mem ha)⟩) fun x hx => by
      rcases List.mem_append.mp hx with h | h
      · exact gm x h
      · exact (List.mem_filter.mp h).1
    rw [List.length_append] at l2
    omega
  · have := nd_sub_len ndg gm
    omega
end

/-! ### a def that may raise -/
def OkDX (P : Program) (w : World) (K : PySem.W.Frag) (mg : Str → Option Value) (base : Heap) (k : Nat) (x : Str) (ps : List Str) (sp : Sp) : Prop :=
  ∃ fd, FnOk P w K mg base (L2N.CX P w) k (He.ga K x) fd ps sp ∧ mg x = some (.ref (He.ga K x)) ∧ PySem.W.keepIn K (.ref (He.ga K x)) = true ∧ Binds K fd ps []
theorem takes0N {X : Cx} : L2N.Takes X (fun _ _ _ _ => False) := fun _ _ x => by
  obtain ⟨_, _, _, _, _, _, _, _, _, _, _, _, _, _, _, _, z⟩ := x
  exact z.elim
theorem okDX_mk {P : Program} {w : World} {K : PySem.W.Frag} {mg : Str → Option Value} {base : Heap} {k : Nat} {x q : Str} {ps : List Str} {sp : Sp} {pa : Arguments} {bd : List Stmt} {sc : Scope} {fd : FuncData}
    (F : FunD K x q pa bd sc [] [] (He.ga K x) fd) (g : mg x = some (.ref (He.ga K x)))
    (h : ∀ (kV doc pm : Value) (an : Option Addr) (cdv ct : Value) (us : List Value), us.length = ps.length → bindArgs (PySem.W.fnOf x q pa bd sc .none kV doc pm an cdv ct) ⟨us, []⟩ = pure (ps.zip us))
    (ok : FnOk P w K mg base (L2N.CX P w) k (He.ga K x) fd ps sp) : OkDX P w K mg base k x ps sp := ⟨fd, ok, g, F.kp, F.bindsN h⟩
theorem pe_callDX {X : Cx} {k : Nat} {x : Str} {ps : List Str} {sp : Sp} {p pos : Pos} {e : Expr} {es : List Expr} {t : TA} (D : OkDX X.prog X.w X.K X.mg X.base k x ps sp) (hr : Room k X.A) (ha : PA X (e :: es) t) (hg : Gl X x := by rfl)
    (hdb : (x == ("__debug__" : Str)) = false := by decide) (he : starEach (e :: es) X.env = (false, eval e X.env) :: starEach es X.env := by rfl) (hpl : (backTo pos (starEach es X.env)).any (·.1) = false := by rfl) :
    PE X (.Call (.Name x p) (e :: es) [] pos) (tCall sp [] E0 t) := by
  obtain ⟨fd, F, hm, hk, hb⟩ := D
  exact pe_call F hr hg hm hk hb .nil (L2N.passes_call takes0N fun _ _ _ _ h => h) ha hdb he hpl
/-- over zip, in a comprehension -/
theorem lc_zip {K : PySem.W.Frag} {σ : L2.St} {H : Hp} {Q : VK} {tt : TT} {te : TE} {wvs : List Nat} {α β : Type} {R : V → α → Prop} {S : V → β → Prop} {a b : Addr} {vs ws : List V} {ds : List α} {es : List β} {i j : Nat} (h : H a = some (.lst vs)) (h' : H b = some (.lst ws)) (pr : Paired R vs ds) (ps : Paired S ws es) (le : ds.length = es.length)
    (Pv : Addr → List α → List β → Hp → Prop) (h0 : ∀ D, H D = none → Pv D [] [] (upd H D (.lst [])))
    (hl : ∀ D pre pre' H', H D = none → Pv D pre pre' H' → H' a = some (.lst vs) ∧ H' b = some (.lst ws))
    (hs : ∀ D pre pre' x y d e post post' H' T, H D = none → ds = pre ++ d :: post → es = pre' ++ e :: post' → pre.length = pre'.length → R x d → S y e → Pv D pre pre' H' → H' T = none →
      (wipe (((wipe σ wvs).set i (some x)).set j (some y)) wvs = wipe σ wvs ∧ tt (((wipe σ wvs).set i (some x)).set j (some y)) (upd H' T (.tup [x, y])) fun b H3 =>
        if b = true then te (((wipe σ wvs).set i (some x)).set j (some y)) H3 fun y H4 => ∃ acc, H4 D = some (.lst acc) ∧ acc.length < sizeLine ∧ Pv D (pre ++ [d]) (pre' ++ [e]) (upd H4 D (.lst (acc ++ [y]))) else Pv D (pre ++ [d]) (pre' ++ [e]) H3))
    (hd : ∀ D H', H D = none → Pv D ds es H' → Q (.ref D) H') : ∃ a' b' xs ys, [V.ref a, V.ref b] = [.ref a', .ref b'] ∧ SqL K H a' xs ∧ SqL K H b' ys ∧ LcW (Itz K a' b') (gTup K 2 (gCons (gName i) (gCons (gName j) gNil))) tt te wvs σ H Q := by
  have hlen := Paired.len pr
  have hlen' := Paired.len ps
  refine ⟨a, b, vs, ws, rfl, sq_of h, sq_of h', fun D nD => ⟨fun k m H' => m = vs.length - k ∧ k ≤ vs.length ∧ Pv D (ds.take k) (es.take k) H', ⟨vs.length, by simp, Nat.zero_le _, h0 D nD⟩, ?_⟩⟩
  rintro k m H' ⟨rfl, hk, p⟩
  obtain ⟨q, q'⟩ := hl D _ _ H' nD p
  by_cases hlt : k < vs.length
  · have hx : vs[k]? = some vs[k] := by simp [hlt]
    have hlt' : k < ws.length := by omega
    have hy : ws[k]? = some ws[k] := by simp [hlt']
    obtain ⟨d, hd', r⟩ := Paired.get pr hx
    obtain ⟨e, he', r'⟩ := Paired.get ps hy
    have hi : k < ds.length := by omega
    have hi' : k < es.length := by omega
    have e1 : ds.take (k + 1) = ds.take k ++ [d] := by rw [List.take_add_one, hd']; rfl
    have e1' : es.take (k + 1) = es.take k ++ [e] := by rw [List.take_add_one, he']; rfl
    have e2 : ds = ds.take k ++ d :: ds.drop (k + 1) := by
      have q := List.take_append_drop k ds
      rw [← List.getElem_cons_drop hi] at q
      have e3 : ds[k] = d := (List.getElem?_eq_some_iff.mp hd').2
      rw [e3] at q
      exact q.symm
    have e2' : es = es.take k ++ e :: es.drop (k + 1) := by
      have q := List.take_append_drop k es
      rw [← List.getElem_cons_drop hi'] at q
      have e3 : es[k] = e := (List.getElem?_eq_some_iff.mp he').2
      rw [e3] at q
      exact q.symm
    refine .inr ⟨⟨vs, ws, vs[k], ws[k], sq_of q, sq_of q', hx, hy⟩, fun H2 => Pv D (ds.take k ++ [d]) (es.take k ++ [e]) H2, fun H2 p' => ⟨vs.length - (k + 1), by omega, rfl, hlt, by rw [e1, e1']; exact p'⟩, fun v H2 y => ?_⟩
    obtain ⟨T, x, y1, rfl, nT, rfl, f1, f2⟩ := y
    have ex : x = vs[k] := Option.some.inj ((f1 _ (sq_of q)).symm.trans hx)
    have ey : y1 = ws[k] := Option.some.inj ((f2 _ (sq_of q')).symm.trans hy)
    subst ex ey
    have z := hs D (ds.take k) (es.take k) vs[k] ws[k] d e (ds.drop (k + 1)) (es.drop (k + 1)) H' T nD e2 e2' (by rw [List.length_take, List.length_take]; omega) r r' p nT
    exact ⟨T, _, rfl, st_of upd_same, rfl, _, _, rfl, _, _, rfl, rfl, z⟩
  · have e : k = vs.length := by omega
    subst e
    rw [hlen, List.take_length, le, List.take_length] at p
    exact .inl ⟨⟨vs, ws, sq_of q, sq_of q', .inl (Nat.le_refl _)⟩, hd D H' nD p⟩
/-! ### fewer_odd -/
abbrev rWs : Rp (List (List Int)) := rLst rInts
abbrev rRow : Rp (List Str × List (List Int)) := rTup rStrs rWs
theorem rWs.frm : Frm rWs := rLst.frm rInts.frm
theorem rRow.frm : Frm rRow := rTup.frm rStrs.frm rWs.frm
/-- the splits that a paper answers -/
noncomputable def due (Es : List (Int × Int)) (ns : List Int) : List (List Str) := (spl Es ns ns.length).filter fun sp => decide (sp.count dash < ns.length)
structure RowOk (n : Nat) (Es : List (Int × Int)) (ns : List Int) (col : Int → Int) (r : List Str × List (List Int)) : Prop where
  way : ∀ w ∈ r.2, Way n (outE Es ns) (sideS n Es ns r.1 col) (sideC n Es ns r.1 col) w
  apart : r.2.Pairwise Off
  len : r.2.length = ns.length - r.1.count dash
/-- a paper's rows -/
structure RowsOk (n : Nat) (Es : List (Int × Int)) (ns : List Int) (col : Int → Int) (rows : List (List Str × List (List Int))) : Prop where
  sp : rows.map (·.1) = due Es ns
  ok : ∀ r ∈ rows, RowOk n Es ns col r
def Told (n : Nat) (Es : List (Int × Int)) (ns : List Int) (M : Av) (H : Hp) (v : V) : Prop :=
  (∃ T, Rising n T ∧ Bip (Adj (outE Es T)) ∧ T.length < ns.length ∧ ∃ l, AtT M H v [.str "fewer", l] ∧ rInts M H l T) ∨
  (∃ col rows, Canon (Adj (outE Es ns)) (fun v => v ∈ outside n ns) col ∧ RowsOk n Es ns col rows ∧ (∀ T, Rising n T → Bip (Adj (outE Es T)) → ns.length ≤ T.length) ∧ ∃ l, AtT M H v [.str "paper", l] ∧ rLst rRow M H l rows)
abbrev Small (n : Nat) (Es : List (Int × Int)) (ns : List Int) : Prop := Rising n ns ∧ Bip (Adj (outE Es ns)) ∧ ns.length ≤ 5
def sp_fewer_odd (K : PySem.W.Frag) : Sp := fun vs H Q E => ∃ (g : V) (a : Addr) (n : Nat) (Es : List (Int × Int)) (ns : List Int), vs = [g, .ref a] ∧ rGraph K No H g (n, Es) ∧ H a = some (.lst (ns.map V.int)) ∧ GoodE n Es ∧ n ≤ 40 ∧
  (¬ Small n Es ns → ∀ H', Same H H' → E (.ref (He.ga K "BadArgument")) none H') ∧ (Small n Es ns → ∀ H' v, Same H H' → Told n Es ns (Trk H) H' v → Q v H')
theorem sp_fewer_odd.len {K : PySem.W.Frag} {vs : List V} {H : Hp} {Q : VK} {E : XK} (h : sp_fewer_odd K vs H Q E) : vs.length = (["graph", "nodes"] : List Str).length := by
  obtain ⟨g, a, n, Es, ns, rfl, _⟩ := h
  rfl
theorem due_snoc {Es : List (Int × Int)} {ns : List Int} (pre : List (List Str)) (sp : List Str) : ((pre ++ [sp]).filter fun sp => decide (sp.count dash < ns.length)) = (pre.filter fun sp => decide (sp.count dash < ns.length)) ++ (if sp.count dash < ns.length then [sp] else []) := by
  rw [List.filter_append]
  congr 1
  by_cases h : sp.count dash < ns.length <;> simp [h]
abbrev N_fewer_odd : List Str := ["graph", "nodes", "colours", "inner", "rows", "split", "given", "first", "second", "ways", "separator", "node", "letter"]
theorem sc_fewer_odd : FnScope N_fewer_odd ["graph", "nodes"] (defScope s_fewer_odd) := ⟨rfl, rfl, rfl, by decide +kernel, rfl, by decide +kernel, by decide +kernel⟩
theorem ok_fewer_odd {P : Program} {w : World} {K : PySem.W.Frag} {mg : Str → Option Value} {base : Heap} (W : Hd K mg) : OkDX P w K mg base 10 "fewer_odd" ["graph", "nodes"] (sp_fewer_odd K) := by
  obtain ⟨fd, F⟩ := W.df_fewer_odd
  refine okDX_mk F W.mg_fewer_odd (fun _ _ _ _ _ _ us hl => match us, hl with | [_, _], _ => rfl) ?_
  refine F.ok sc_fewer_odd (fun vs H Q E h => sp_fewer_odd.len h) (fun cdv A outer s H vs Q E hr h => ⟨_, (pss_cons (ps_if (pt_not (pt_val (pe_callD (ok_is_small W) (hr.mono (by decide)) (pa_cons (pv 0) (pa_cons (pv 1) pa_nil)))))
  (pss_one (L2N.ps_raise rfl (L2N.takes_of rfl rfl rfl rfl) (L2N.pmk_own PySem.F.excBase_ValueError W.exc_BadArgument.1 W.mg_BadArgument W.exc_BadArgument.2.1 (raises_own W.exc_BadArgument.2.2.1 W.exc_BadArgument.2.2.2) rfl)))
  pss_nil) (PSs.nox (pss_cons (ps_set (i := 2) sc_fewer_odd.nd rfl (by first | exact .inl rfl | exact .inr rfl) (pe_callD (ok_colours_without W) (hr.mono (by decide)) (pa_cons (pv 0) (pa_cons (pv 1) pa_nil))))
  (pss_cons (ps_set (i := 3) sc_fewer_odd.nd rfl (by first | exact .inl rfl | exact .inr rfl) (pe_callD (ok_graph_outside W) (hr.mono (by decide)) (pa_cons (pv 0) (pa_cons (pv 1) pa_nil))))
  (pss_cons (ps_set (i := 4) sc_fewer_odd.nd rfl (by first | exact .inl rfl | exact .inr rfl) (pe_lst pa_nil))
  (pss_cons (ps_for PassesOwn.never rfl (pi_list (pe_callD (ok_splits_of W) (hr.mono (by decide)) (pa_cons (pv 0) (pa_cons (pv 1) pa_nil)))) (pg_name (i := 5) sc_fewer_odd.nd rfl (by first | exact .inl rfl | exact .inr rfl))
  (pss_cons (ps_setLc (i := 6) (own := [("node", 11), ("letter", 12)]) (g := _) rfl sc_fewer_odd.nd rfl rfl (sw_true rfl rfl rfl (by decide +kernel)) (pi_zip (by rfl) (W.fr_zip) (pa_cons (pv 1) (pa_cons (pv 5) pa_nil))) (blkOk_by (N := N_fewer_odd) (sc := defScope s_fewer_odd) (by decide +kernel)) (fun _ _ _ _ _ => (pg_tupK K (n := 2) rfl (pgs_cons (pg_name (i := 11) sc_fewer_odd.nd rfl (Or.inl rfl)) (pgs_cons (pg_name (i := 12) sc_fewer_odd.nd rfl (Or.inl rfl)) pgs_nil)))) (fun _ _ _ _ _ => pts_one (pt_cmpR op_eq (pv 12) pe_str (nomark _))) (fun _ _ _ _ _ => (pv 11)))
  (pss_cons (ps_if (pt_cmpR op_eq (pe_callB (call_lenK K) (by rfl) (W.fr_len) PySem.boot_len (pa_cons (pv 6) pa_nil)) (pe_callB (call_lenK K) (by rfl) (W.fr_len) PySem.boot_len (pa_cons (pv 1) pa_nil)) (nomark _))
  (pss_one ps_continue)
  pss_nil)
  (pss_cons (ps_asg (pe_callD (ok_sides W) (hr.mono (by decide)) (pa_cons (pv 0) (pa_cons (pv 1) (pa_cons (pv 5) (pa_cons (pv 2) pa_nil))))) (pg_tupK K (n := 2) rfl (pgs_cons (pg_name (i := 7) sc_fewer_odd.nd rfl (by first | exact .inl rfl | exact .inr rfl)) (pgs_cons (pg_name (i := 8) sc_fewer_odd.nd rfl (by first | exact .inl rfl | exact .inr rfl)) pgs_nil))))
  (pss_cons (ps_asg (pe_callD (ok_disjoint_ways W) (hr.mono (by decide)) (pa_cons (pv 3) (pa_cons (pv 7) (pa_cons (pv 8) pa_nil)))) (pg_tupK K (n := 2) rfl (pgs_cons (pg_name (i := 9) sc_fewer_odd.nd rfl (by first | exact .inl rfl | exact .inr rfl)) (pgs_cons (pg_name (i := 10) sc_fewer_odd.nd rfl (by first | exact .inl rfl | exact .inr rfl)) pgs_nil))))
  (pss_cons (ps_if (pt_cmpR op_lt (pe_op op_add (pe_callB (call_lenK K) (by rfl) (W.fr_len) PySem.boot_len (pa_cons (pv 6) pa_nil)) (pe_callB (call_lenK K) (by rfl) (W.fr_len) PySem.boot_len (pa_cons (pv 10) pa_nil))) (pe_callB (call_lenK K) (by rfl) (W.fr_len) PySem.boot_len (pa_cons (pv 1) pa_nil)) (nomark _))
  (pss_one (ps_ret (pe_tup (pa_cons pe_str (pa_cons (pe_callB (cr_sortedK K) (by rfl) (W.fr_sorted) (by decide +kernel) (pa_cons (pe_op op_cat (pv 6) (pv 10)) pa_nil)) pa_nil)))))
  pss_nil)
  (pss_one (ps_expr (pe_bmK K PySem.F.plainAttrs_list PySem.F.slot_list_append PySem.F.type_list_append mt_append (pv 4) (pa_cons (pe_tup (pa_cons (pv 5) (pa_cons (pe_slice (sl_listK K) (pv 9) po_none (po_some (pe_op op_sub (pe_callB (call_lenK K) (by rfl) (W.fr_len) PySem.boot_len (pa_cons (pv 1) pa_nil)) (pe_callB (call_lenK K) (by rfl) (W.fr_len) PySem.boot_len (pa_cons (pv 6) pa_nil))))) pa_nil))) pa_nil))))))))))
  (pss_one (ps_ret (pe_tup (pa_cons pe_str (pa_cons (pv 4) pa_nil))))))))))), ?_⟩)
  try dsimp only [cxOf, Cx.nox, Cx.wish]
  obtain ⟨gv, a, n, Es, ns, rfl, rg, ha, good, h40, kE, kQ⟩ := h
  obtain ⟨g, dx, e, l, rfl, _, hg, re, rl⟩ := id rg
  walk_at "go"
  refine ⟨.ref g, .ref a, n, Es, ns, rfl, rg, ⟨a, rfl, fun z => z, ha⟩, good, h40, fun H1 b s1 hb => ?_⟩
  walk_at "go"
  cases b with
  | false =>
    walk_at "go"
    exact kE (fun z => Bool.false_ne_true (hb.mpr z)) H1 s1
  | true =>
  have sm := hb.mp rfl
  obtain ⟨ri, bp, l5⟩ := sm
  walk_at "go"
  refine ⟨.ref g, .ref a, n, Es, ns, rfl, rGraph.frm.mv (.same s1) rg, ⟨a, rfl, fun z => z, s1 _ _ ha⟩, good, h40, ri, bp, fun H2 d col s2 C nd hd => ?_⟩
  have s12 := Same.trans s1 s2
  walk_at "go"
  refine ⟨.ref g, .ref a, n, Es, ns, rfl, rGraph.frm.mv (.same s12) rg, ⟨a, rfl, fun z => z, s12 _ _ ha⟩, good, h40, fun H3 iv s3 ri' => ?_⟩
  have s13 := Same.trans s12 s3
  obtain ⟨ig, idx, ie, il, rfl, _, hig, ire, irl⟩ := id ri'
  walk_at "go"
  intro D nD
  have nD0 := s13.free nD
  have s4 : Same H3 (upd H3 D (.lst [])) := Same.new (Same.refl _) nD
  have s14 := Same.trans s13 s4
  walk_at "go"
  refine ⟨.ref g, a, n, Es, ns, rfl, rGraph.frm.mv (.same s14) rg, s14 _ _ ha, good, h40, ri, l5, fun H5 sv s5 rs => ?_⟩
  obtain ⟨svs, ⟨sa, rfl, nsa, hsa⟩, psv⟩ := rs
  have hD5 : H5 D = some (.lst []) := s5 _ _ upd_same
  have tD : Trk (upd H3 D (.lst [])) D := trk_of upd_same
  have saD : sa ≠ D := fun z => nsa (by rw [z]; exact tD)
  have s35 := Same.trans s4 s5
  have sl5 : (spl Es ns ns.length).length ≤ 3 ^ 5 := Nat.le_trans (spl_len Es ns _) (Nat.pow_le_pow_right (by omega) (by omega))
  walk_at "go"
  refine for_rep (R := rStrs (Trk (upd H3 D (.lst []))) H5) (h := hsa) (pr := psv) (fun pre σ' H' => (∃ w5 w6 w7 w8 w9 w10 : Option V, σ' = [some (.ref g), some (.ref a), some (.ref d), some (.ref ig), some (.ref D), w5, w6, w7, w8, w9, w10, none, none]) ∧ (∀ b o, b ≠ D → H5 b = some o → H' b = some o) ∧
    ∃ rows : List (List Str × List (List Int)), Col rRow (Trk H) H3 D H' rows ∧ rows.map (·.1) = (pre.filter fun sp => decide (sp.count dash < ns.length)) ∧ ∀ r ∈ rows, RowOk n Es ns col r) ?_ ?_ ?_ ?_
  · exact ⟨⟨_, _, _, _, _, _, rfl⟩, fun _ _ _ z => z, [], (Col.nil nD).step rRow.frm s5, rfl, by simp⟩
  · rintro pre σ' H' _ ⟨_, kp, _⟩
    exact kp _ _ saD hsa
  · rintro pre x sp post σ' H' esp ⟨q, rfl, nq, hq⟩ ⟨⟨w5, w6, w7, w8, w9, w10, rfl⟩, kp, rows, c, rsp, rok⟩
    have msp : sp ∈ spl Es ns ns.length := by rw [esp]; simp
    obtain ⟨lsp, _, _⟩ := mem_spl.mp msp
    have qD : q ≠ D := fun z => nq (by rw [z]; exact tD)
    have hq' := kp _ _ qD hq
    have sm := Same.trans s13 c.same
    have ha' := sm _ _ ha
    have rl : rows.length ≤ pre.length := by
      have := congrArg List.length rsp
      rw [List.length_map] at this
      rw [this]
      exact List.length_filter_le _ _
    have pl : pre.length < 3 ^ 5 := by have := congrArg List.length esp; simp at this; omega
    walk_at "go"
    refine lc_zip (R := fun x (i : Int) => x = .int i) (S := fun x (s : Str) => x = .str s) ha' hq' (paired_map ns) (paired_map sp) lsp.symm (fun D2 p1 p2 H2 => Same H' H2 ∧ H2 D2 = some (.lst ((giv p1 p2).map V.int)) ∧ p1.length = p2.length ∧ (giv p1 p2).length ≤ p1.length) ?_ ?_ ?_ ?_
    · exact fun D2 n2 => ⟨Same.new (Same.refl _) n2, upd_same, rfl, Nat.le_refl _⟩
    · rintro D2 p1 p2 H2 n2 ⟨s, _⟩
      exact ⟨s _ _ ha', s _ _ hq'⟩
    · rintro D2 p1 p2 x y u ch post1 post2 H2 T n2 e1 e2 el rfl rfl ⟨s, hD2, _, gl⟩ nT
      have gs := giv_snoc p1 p2 u ch el
      have l1 := congrArg List.length e1
      simp at l1
      have s2' := Same.new (o := .tup [.int u, .str ch]) s nT
      have hD3 := hp_new (o' := .tup [.int u, .str ch]) hD2 nT
      refine ⟨rfl, ?_⟩
      walk_at "go"
      refine g_ite (fun dd => ?_) (fun nd => ?_)
      · walk_at "go"
        refine ⟨_, hD3, small_of (by rw [List.length_map]; omega), Same.mut s2' n2, ?_, by simp [el], ?_⟩
        · rw [gs, if_pos (show ch = dash from dd), List.map_append]
          exact upd_same
        · rw [gs, if_pos (show ch = dash from dd)]
          simp
          omega
      · rw [gs, if_neg (show ¬ ch = dash from nd), List.append_nil]
        exact ⟨s2', hD3, by simp [el], by simp; omega⟩
    rintro G H2 nG ⟨s6, hG, _, _⟩
    have gl := giv_len lsp.symm
    have ha2 := s6 _ _ ha'
    have nGsm := sm.free nG
    walk_at "go"
    refine g_ite (fun eq => ?_) (fun ne => ?_)
    · walk_at "go"
      refine ⟨⟨_, _, _, _, _, _, rfl⟩, fun b o nb h => s6 _ _ (kp b o nb h), rows, c.step rRow.frm s6, ?_, rok⟩
      rw [due_snoc pre sp (Es := Es), if_neg (by omega), List.append_nil]
      exact rsp
    have lt : sp.count dash < ns.length := by
      have := List.count_le_length (a := dash) (l := sp)
      omega
    have c2 := c.step rRow.frm s6
    have sm2 := Same.trans s13 c2.same
    have d2 := c2.same _ _ (s3 _ _ hd)
    walk_at "go"
    refine ⟨.ref g, a, q, d, n, Es, ns, sp, col, rfl, rGraph.frm.mv (.same sm2) rg, ha2, s6 _ _ hq', d2, good, h40, l5, lsp, C.two, fun H7 v7 s7 r7 => ?_⟩
    obtain ⟨x7, y7, ⟨t7, rfl, _, ht7⟩, rA, rB⟩ := r7
    obtain ⟨fa, rfl, _, hfa⟩ := id rA
    obtain ⟨fb, rfl, _, hfb⟩ := id rB
    refine g_gtup2 ht7 ?_
    walk_at "go"
    refine ⟨.ref ig, .ref fa, .ref fb, n, outE Es ns, sideS n Es ns sp col, sideC n Es ns sp col, rfl, rGraph.frm.mv (.same (Same.trans c2.same s7)) ri', ⟨fa, rfl, fun z => z, hfa⟩, ⟨fb, rfl, fun z => z, hfb⟩, outE_good good ns, h40, sideS_rise n Es ns sp col, sideC_rise n Es ns sp col, fun H8 v8 ws X s8 DWs r8 => ?_⟩
    obtain ⟨x8, y8, ⟨t8, rfl, _, ht8⟩, rW, rX⟩ := r8
    obtain ⟨xa, rfl, nxa, hxa⟩ := id rX
    obtain ⟨wvs, ⟨wa, rfl, nwa, hwa⟩, pw⟩ := id rW
    have hxa : H8 xa = some (.lst (X.map V.int)) := hxa
    have pw : Paired (rInts (Trk H7) H8) wvs ws := pw
    clear rX rW
    refine g_gtup2 ht8 ?_
    have s78 := Same.trans s7 s8
    have hG8 := s78 _ _ hG
    have ha8 := s78 _ _ ha2
    have sH8 := Same.trans sm2 s78
    have xl := DWs.rise.len
    have snd := split_sound good ri C msp DWs
    walk_at "go"
    refine g_ite (fun few => ?_) (fun nfew => ?_)
    · walk_at "go"
      refine g_cat hG8 hxa (size_le (by rw [List.length_map, List.length_map]; omega)) fun p np => ?_
      rw [← List.map_append]
      walk_at "go"
      intro p2 np2
      walk_at "go"
      intro t nt
      refine kQ ⟨ri, bp, l5⟩ _ _ (Same.new (Same.new (Same.new sH8 np) np2) nt) (.inl ⟨isort (giv ns sp ++ X), snd.1, snd.2, ?_, .ref p2, ⟨t, rfl, fun z => z (sH8.free (new_old (new_old nt))), upd_same⟩, ⟨p2, rfl, fun z => z (sH8.free (new_old np2)), hp_new upd_same nt⟩⟩)
      rw [(isort_perm _).length_eq, List.length_append]
      omega
    · have k0 : ns.length - (giv ns sp).length ≤ ws.length := by rw [DWs.len]; omega
      have c3 := c2.step rRow.frm s78
      obtain ⟨_, vs8, hD8, _⟩ := id c3
      have hq8 := s78 _ _ (s6 _ _ hq')
      walk_at "go"
      intro ct nct
      have ek : ((ns.length : Nat) : Int) - ((giv ns sp).length : Nat) = ((ns.length - (giv ns sp).length : Nat) : Int) := by omega
      have wl := Paired.len pw
      rw [ek, cut_to (by omega)]
      walk_at "go"
      intro t nt
      have s9 : Same H8 (upd (upd H8 ct (.lst (wvs.take (ns.length - (giv ns sp).length)))) t (.tup [.ref q, .ref ct])) := Same.new (Same.new (Same.refl _) nct) nt
      have hD9 := s9 _ _ hD8
      have c4 := c3.step rRow.frm s9
      have ln := c4.len hD9
      walk_at "go"
      refine g_app hD9 (small_of (by omega)) ?_
      have nH8 : ∀ {b}, H8 b = none → ¬ (b = D ∨ Trk H b) := fun h z => z.elim (fun z => by rw [z, hD8] at h; cases h) fun z => z (sH8.free h)
      have pt : Paired (rInts (Trk H7) H8) (wvs.take (ns.length - (giv ns sp).length)) (ws.take (ns.length - (giv ns sp).length)) := by
        have e1 := List.take_append_drop (ns.length - (giv ns sp).length) ws
        have pw' : Paired (rInts (Trk H7) H8) wvs ws := pw
        rw [← e1] at pw'
        obtain ⟨a1, b1, e2, p1, p2⟩ := Paired.split pw'
        have l1 := Paired.len p1
        rw [e2, List.take_left' (by rw [l1, List.length_take]; omega)]
        exact p1
      have c5 := c4.app rRow.frm nD hD9 (v := .ref t) (d := (sp, ws.take (ns.length - (giv ns sp).length))) ⟨.ref q, .ref ct, ⟨t, rfl, nH8 (new_old nt), upd_same⟩, ⟨q, rfl, ?_, s9 _ _ hq8⟩, wvs.take (ns.length - (giv ns sp).length), ⟨ct, rfl, nH8 nct, hp_new upd_same nt⟩, L2.Paired.mapP pt fun _ _ z => rInts.frm.mv (Mov.trans (.same s9) (.weak fun b hb => ?_)) z⟩
      · refine ⟨⟨_, _, _, _, _, _, rfl⟩, fun b o nb h => ?_, rows ++ [(sp, ws.take (ns.length - (giv ns sp).length))], c5, ?_, fun r hr => ?_⟩
        · rw [upd_ne nb]
          exact s9 _ _ (s78 _ _ (s6 _ _ (kp b o nb h)))
        · rw [due_snoc pre sp (Es := Es), if_pos lt, List.map_append, rsp]
          rfl
        · rcases List.mem_append.mp hr with hr | hr
          · exact rok r hr
          · rw [List.mem_singleton.mp hr]
            exact ⟨fun w hw => DWs.way w (List.mem_of_mem_take hw), DWs.apart.sublist (List.take_sublist _ _), by show (ws.take (ns.length - (giv ns sp).length)).length = ns.length - sp.count dash; rw [List.length_take]; omega⟩
      · rintro (z | z)
        · exact qD z
        · exact nq (Trk.weak s14 z)
      · rcases hb with hb | hb
        · obtain ⟨_, vsx, hx, _⟩ := id c
          rw [hb]
          exact trk_of (s7 _ _ (s6 _ _ hx))
        · exact Trk.weak (Same.trans sm2 s7) hb
  · rintro σ' H' ⟨⟨w5, w6, w7, w8, w9, w10, rfl⟩, kp, rows, c, rsp, rok⟩
    walk_at "go"
    intro t nt
    have sH := Same.trans s13 c.same
    refine kQ ⟨ri, bp, l5⟩ _ _ (Same.new sH nt) (.inr ⟨col, rows, C, ⟨rsp, rok⟩, fun T rT bT => split_full good ri C (fun sp hs hc => ?_) rT bT, .ref D, ⟨t, rfl, fun z => z (sH.free nt), upd_same⟩, (rLst.frm rRow.frm).mv (.new nt) (c.done rRow.frm fun z => z nD0)⟩)
    have : sp ∈ rows.map (·.1) := by rw [rsp]; exact List.mem_filter.mpr ⟨hs, decide_eq_true hc⟩
    obtain ⟨r, hr, rfl⟩ := List.mem_map.mp this
    exact ⟨r.2, (rok r hr).way, (rok r hr).apart, (rok r hr).len⟩

/-! ### refuses_odd -/
theorem let_ok {c : Str} (h : c ∈ LET) : PyData.canLay0 (.str c) = true := by
  simp only [LET, List.mem_cons, List.not_mem_nil, or_false] at h
  rcases h with rfl | rfl | rfl <;> decide +kernel
theorem lay_all : ∀ {sp : List Str}, (∀ c ∈ sp, c ∈ LET) → PyData.canLayAll0 (sp.map PyData.str) = true ∧ PyData.depthAll (sp.map PyData.str) = 0
  | [], _ => ⟨by simp [PyData.canLayAll0], by simp [PyData.depthAll]⟩
  | c :: sp, h => by
    obtain ⟨a, b⟩ := lay_all (sp := sp) fun x hx => h x (List.mem_cons_of_mem _ hx)
    refine ⟨?_, ?_⟩
    · rw [List.map_cons, PyData.canLayAll0, a, let_ok (h c List.mem_cons_self)]
      rfl
    · rw [List.map_cons, PyData.depthAll, b]
      simp [PyData.depth]
theorem shaped_strs {sp : List Str} (h : ∀ c ∈ sp, c ∈ LET) : SeqAt.shaped (.list (sp.map PyData.str)) = true := by
  obtain ⟨a, b⟩ := lay_all h
  unfold SeqAt.shaped
  rw [PyData.canLay0, PyData.depth, a, b]
  decide
theorem dpAll_strs {K : PySem.W.Frag} {H : Hp} : ∀ sp : List Str, DpAll K H (sp.map V.str) (sp.map PyData.str)
  | [] => .nil
  | c :: sp => .cons (.str c) (dpAll_strs sp)
theorem g_neL {K : PySem.W.Frag} {H : Hp} {Q : VK} {a b : Addr} {sp : List Str} (h : ∀ c ∈ sp, c ∈ LET) (h1 : H a = some (.lst (sp.map V.str))) (h2 : H b = some (.lst (sp.map V.str))) (k : Q (.bl false) H) : rNeD K (.ref a) (.ref b) H Q := by
  have s := shaped_strs h
  refine ⟨.list (sp.map PyData.str), .list (sp.map PyData.str), .lst (sq_of h1) (dpAll_strs sp), .lst (sq_of h2) (dpAll_strs sp), s, s, ?_⟩
  rw [SeqAt.eqv_refl _ (SeqAt.canLay_of_shaped s)]
  exact k
def sp_refuses_odd (K : PySem.W.Frag) : Sp := fun vs H Q _ => ∃ (g : V) (a r : Addr) (n : Nat) (Es : List (Int × Int)) (ns : List Int) (rv : List V) (b : Bool), vs = [g, .ref a, .ref r] ∧ rGraph K No H g (n, Es) ∧ H a = some (.lst (ns.map V.int)) ∧ H r = some (.lst rv) ∧ GoodE n Es ∧ n ≤ 40 ∧ Small n Es ns ∧ rv.length ≤ 1000 ∧
  (b = true → ∃ col rows, Canon (Adj (outE Es ns)) (fun v => v ∈ outside n ns) col ∧ RowsOk n Es ns col rows ∧ Paired (rRow No H) rv rows) ∧ (b = false → rv.length ≠ (due Es ns).length) ∧ ∀ H', Same H H' → Q (.bl b) H'
theorem sp_refuses_odd.len {K : PySem.W.Frag} {vs : List V} {H : Hp} {Q : VK} {E : XK} (h : sp_refuses_odd K vs H Q E) : vs.length = (["graph", "nodes", "rows"] : List Str).length := by
  obtain ⟨g, a, r, n, Es, ns, rv, b, rfl, _⟩ := h
  rfl
theorem due_mem {Es : List (Int × Int)} {ns : List Int} {sp : List Str} (h : sp ∈ due Es ns) : sp ∈ spl Es ns ns.length ∧ sp.count dash < ns.length := by
  obtain ⟨a, b⟩ := List.mem_filter.mp h
  exact ⟨a, of_decide_eq_true b⟩
theorem canon_uniq {n : Nat} {Es : List (Int × Int)} {ns : List Int} (good : GoodE n Es) {c c' : Int → Int} (C : Canon (Adj (outE Es ns)) (fun v => v ∈ outside n ns) c) (C' : Canon (Adj (outE Es ns)) (fun v => v ∈ outside n ns) c') {v : Int} (h : v ∈ outside n ns) : c v = c' v :=
  Canon.uniq (A := Adj (outE Es ns)) (nd := fun v => v ∈ outside n ns) (fun _ _ a => a.symm) (fun u v a => (out_mem good a).1) C C' h
theorem sideC_uniq {n : Nat} {Es : List (Int × Int)} {ns : List Int} {sp : List Str} {c c' : Int → Int} (h : ∀ v, v ∈ outside n ns → c v = c' v) : sideC n Es ns sp c = sideC n Es ns sp c' := by
  unfold sideC
  refine List.filter_congr fun v hv => ?_
  unfold Chg
  rw [h v hv]
theorem sideS_uniq {n : Nat} {Es : List (Int × Int)} {ns : List Int} {sp : List Str} {c c' : Int → Int} (h : ∀ v, v ∈ outside n ns → c v = c' v) : sideS n Es ns sp c = sideS n Es ns sp c' := by
  unfold sideS
  refine List.filter_congr fun v hv => ?_
  unfold Sty
  rw [h v hv]
abbrev N_refuses_odd : List Str := ["graph", "nodes", "rows", "colours", "inner", "splits", "row", "split", "first", "second"]
theorem sc_refuses_odd : FnScope N_refuses_odd ["graph", "nodes", "rows"] (defScope s_refuses_odd) := ⟨rfl, rfl, rfl, by decide +kernel, rfl, by decide +kernel, by decide +kernel⟩
theorem ok_refuses_odd {P : Program} {w : World} {K : PySem.W.Frag} {mg : Str → Option Value} {base : Heap} (W : Hd K mg) : OkD P w K mg base 10 "refuses_odd" ["graph", "nodes", "rows"] (sp_refuses_odd K) := by
  obtain ⟨fd, F⟩ := W.df_refuses_odd
  refine okD_mk F W.mg_refuses_odd (fun _ _ _ _ _ _ us hl => match us, hl with | [_, _, _], _ => rfl) ?_
  refine F.ok sc_refuses_odd (fun vs H Q E h => sp_refuses_odd.len h) (fun cdv A outer s H vs Q E hr h => ⟨_, PSs.nox ((pss_cons (ps_if (PW.pt (pw_or (pt_not (pt_val (pe_callD (ok_is_small W) (hr.mono (by decide)) (pa_cons (pv 0) (pa_cons (pv 1) pa_nil))))) (pw_or1 (pt_not (pt_val (pe_callB (call_isiK K) (by rfl) (W.fr_isinstance) (by decide +kernel) (pa_cons (pv 2) (pa_cons (pe_bltn (v := .ty "list") (by rfl) (W.fr_list) (by decide +kernel) rfl) pa_nil))))))))
  (pss_one (ps_ret pe_bl))
  pss_nil)
  (pss_cons (ps_set (i := 3) sc_refuses_odd.nd rfl (by first | exact .inl rfl | exact .inr rfl) (pe_callD (ok_colours_without W) (hr.mono (by decide)) (pa_cons (pv 0) (pa_cons (pv 1) pa_nil))))
  (pss_cons (ps_set (i := 4) sc_refuses_odd.nd rfl (by first | exact .inl rfl | exact .inr rfl) (pe_callD (ok_graph_outside W) (hr.mono (by decide)) (pa_cons (pv 0) (pa_cons (pv 1) pa_nil))))
  (pss_cons (ps_setLc (i := 5) (own := [("split", 7)]) (g := gName 7) rfl sc_refuses_odd.nd rfl rfl (sw_true rfl rfl rfl (by decide +kernel)) (pi_list (pe_callD (ok_splits_of W) (hr.mono (by decide)) (pa_cons (pv 0) (pa_cons (pv 1) pa_nil)))) (blkOk_by (N := N_refuses_odd) (sc := defScope s_refuses_odd) (by decide +kernel)) (fun _ _ _ _ _ => pg_name (i := 7) sc_refuses_odd.nd rfl (Or.inl rfl)) (fun _ _ _ _ _ => pts_one (pt_cmpR op_lt (pe_bmK K PySem.F.plainAttrs_list PySem.F.slot_list_count PySem.F.type_list_count (mt_lcountS K) (pv 7) (pa_cons pe_str pa_nil)) (pe_callB (call_lenK K) (by rfl) (W.fr_len) PySem.boot_len (pa_cons (pv 1) pa_nil)) (nomark _))) (fun _ _ _ _ _ => (pv 7)))
  (pss_cons (ps_if (pt_cmpR op_ne (pe_callB (call_lenK K) (by rfl) (W.fr_len) PySem.boot_len (pa_cons (pv 2) pa_nil)) (pe_callB (call_lenK K) (by rfl) (W.fr_len) PySem.boot_len (pa_cons (pv 5) pa_nil)) (nomark _))
  (pss_one (ps_ret pe_bl))
  pss_nil)
  (pss_cons (ps_for PassesOwn.never rfl (pi_zip (by rfl) (W.fr_zip) (pa_cons (pv 2) (pa_cons (pv 5) pa_nil))) (pg_tupK K (n := 2) rfl (pgs_cons (pg_name (i := 6) sc_refuses_odd.nd rfl (by first | exact .inl rfl | exact .inr rfl)) (pgs_cons (pg_name (i := 7) sc_refuses_odd.nd rfl (by first | exact .inl rfl | exact .inr rfl)) pgs_nil)))
  (pss_cons (ps_if (PW.pt (pw_or (pt_not (pt_val (pe_callB (call_isiK K) (by rfl) (W.fr_isinstance) (by decide +kernel) (pa_cons (pv 6) (pa_cons (pe_bltn (v := .ty "tuple") (by rfl) (W.fr_tuple) (by decide +kernel) rfl) pa_nil))))) (pw_or (pt_cmpR op_ne (pe_callB (call_lenK K) (by rfl) (W.fr_len) PySem.boot_len (pa_cons (pv 6) pa_nil)) pe_int (nomark _)) (pw_or1 (pt_cmpR (op_neD hr.units) (pe_ix (ix_tupK K) (pv 6) pe_int (fun _ _ => rfl)) (pv 7) (nomark _))))))
  (pss_one (ps_ret pe_bl))
  pss_nil)
  (pss_cons (ps_asg (pe_callD (ok_sides W) (hr.mono (by decide)) (pa_cons (pv 0) (pa_cons (pv 1) (pa_cons (pv 7) (pa_cons (pv 3) pa_nil))))) (pg_tupK K (n := 2) rfl (pgs_cons (pg_name (i := 8) sc_refuses_odd.nd rfl (by first | exact .inl rfl | exact .inr rfl)) (pgs_cons (pg_name (i := 9) sc_refuses_odd.nd rfl (by first | exact .inl rfl | exact .inr rfl)) pgs_nil))))
  (pss_cons (ps_if (pt_not (pt_val (pe_callD (ok_are_ways W) (hr.mono (by decide)) (pa_cons (pv 4) (pa_cons (pv 8) (pa_cons (pv 9) (pa_cons (pe_ix (ix_tupK K) (pv 6) pe_int (fun _ _ => rfl)) pa_nil)))))))
  (pss_one (ps_ret pe_bl))
  pss_nil)
  (pss_one (ps_if (pt_cmpR op_ne (pe_callB (call_lenK K) (by rfl) (W.fr_len) PySem.boot_len (pa_cons (pe_ix (ix_tupK K) (pv 6) pe_int (fun _ _ => rfl)) pa_nil)) (pe_op op_sub (pe_callB (call_lenK K) (by rfl) (W.fr_len) PySem.boot_len (pa_cons (pv 1) pa_nil)) (pe_bmK K PySem.F.plainAttrs_list PySem.F.slot_list_count PySem.F.type_list_count (mt_lcountS K) (pv 7) (pa_cons pe_str pa_nil))) (nomark _))
  (pss_one (ps_ret pe_bl))
  pss_nil))))))
  (pss_one (ps_ret pe_bl))))))))), ?_⟩)
  try dsimp only [cxOf, Cx.nox, Cx.wish]
  obtain ⟨gv, a, r, n, Es, ns, rv, b, rfl, rg, ha, hr', good, h40, sml, l1000, kT, kF, k⟩ := h
  obtain ⟨g, dx, e, l, rfl, _, hg, re, rl⟩ := id rg
  obtain ⟨ri, bp, l5⟩ := id sml
  walk_at "go"
  refine ⟨.ref g, .ref a, n, Es, ns, rfl, rg, ⟨a, rfl, fun z => z, ha⟩, good, h40, fun H1 b1 s1 hb => ?_⟩
  obtain rfl : b1 = true := hb.mpr sml
  have hr1 := s1 _ _ hr'
  walk_at "go"
  refine ⟨.ref g, .ref a, n, Es, ns, rfl, rGraph.frm.mv (.same s1) rg, ⟨a, rfl, fun z => z, s1 _ _ ha⟩, good, h40, ri, bp, fun H2 d col s2 C nd hd => ?_⟩
  have s12 := Same.trans s1 s2
  walk_at "go"
  refine ⟨.ref g, .ref a, n, Es, ns, rfl, rGraph.frm.mv (.same s12) rg, ⟨a, rfl, fun z => z, s12 _ _ ha⟩, good, h40, fun H3 iv s3 ri' => ?_⟩
  have s13 := Same.trans s12 s3
  obtain ⟨ig, idx, ie, il, rfl, _, hig, ire, irl⟩ := id ri'
  walk_at "go"
  refine ⟨.ref g, a, n, Es, ns, rfl, rGraph.frm.mv (.same s13) rg, s13 _ _ ha, good, h40, ri, l5, fun H5 sv s5 rs => ?_⟩
  obtain ⟨svs, ⟨sa, rfl, nsa, hsa⟩, psv⟩ := rs
  have s15 := Same.trans s13 s5
  have sl5 : (spl Es ns ns.length).length ≤ 3 ^ 5 := Nat.le_trans (spl_len Es ns _) (Nat.pow_le_pow_right (by omega) (by omega))
  walk_at "go"
  refine lc_rep (R := rStrs (Trk H3) H5) (h := hsa) (pr := psv) (fun D pre H' => Same H5 H' ∧ ∃ xs, H' D = some (.lst xs) ∧ Paired (fun x sp => ∃ q, x = .ref q ∧ H5 q = some (.lst (sp.map V.str))) xs (pre.filter fun sp => decide (sp.count dash < ns.length))) ?_ ?_ ?_ ?_
  · exact fun D nD => ⟨Same.new (Same.refl _) nD, [], upd_same, .nil⟩
  · rintro D pre H' nD _ ⟨sm, _⟩
    exact sm _ _ hsa
  · rintro D pre x sp post H' nD esp ⟨q, rfl, _, hq⟩ ⟨sm, xs, hD, px⟩
    have hq' := sm _ _ hq
    have ha' := sm _ _ (s15 _ _ ha)
    have pl : pre.length < 3 ^ 5 := by have := congrArg List.length esp; simp at this; omega
    have xl := Paired.len px
    have fl := List.length_filter_le (fun sp => decide (sp.count dash < ns.length)) pre
    walk_at "go"
    refine g_ite (fun lt => ?_) (fun nlt => ?_)
    · have lt : sp.count dash < ns.length := by
        have : ((sp.count dash : Nat) : Int) < (ns.length : Nat) := lt
        omega
      walk_at "go"
      refine ⟨xs, hD, small_of (by omega), Same.mut sm nD, _, upd_same, ?_⟩
      rw [due_snoc pre sp (Es := Es), if_pos lt]
      exact Paired.snoc px ⟨q, rfl, hq⟩
    · have nlt : ¬ sp.count dash < ns.length := by
        have : ¬ ((sp.count dash : Nat) : Int) < (ns.length : Nat) := nlt
        omega
      refine ⟨sm, xs, hD, ?_⟩
      rw [due_snoc pre sp (Es := Es), if_neg nlt, List.append_nil]
      exact px
  rintro D H6 nD ⟨s6, xs, hD, px⟩
  have px : Paired (fun x sp => ∃ q, x = .ref q ∧ H5 q = some (.lst (sp.map V.str))) xs (due Es ns) := px
  have xl := Paired.len px
  have s16 := Same.trans s15 s6
  have hr6 := s16 _ _ hr'
  walk_at "go"
  cases b with
  | false =>
    have := kF rfl
    refine g_iteP (by omega) ?_
    walk_at "go"
    exact k H6 s16
  | true =>
  obtain ⟨col', rows, C', RO, pr⟩ := kT rfl
  have rl2 := Paired.len pr
  have dl : rows.length = (due Es ns).length := by rw [← RO.sp, List.length_map]
  refine g_iteQ (by omega) ?_
  walk_at "go"
  refine for_zip (R := rRow No H) (S := fun x sp => ∃ q, x = .ref q ∧ H5 q = some (.lst (sp.map V.str))) hr6 hD pr px dl (fun pre pre' σ' H' => (∃ w6 w7 w8 w9 : Option V, σ' = [some (.ref g), some (.ref a), some (.ref r), some (.ref d), some (.ref ig), some (.ref D), w6, w7, w8, w9]) ∧ Same H6 H') ?_ ?_ ?_ ?_
  · exact ⟨⟨_, _, _, _, rfl⟩, Same.refl _⟩
  · rintro pre pre' σ' H' ⟨_, sm⟩
    exact ⟨sm _ _ hr6, sm _ _ hD⟩
  · rintro pre pre' x y row sp post post' σ' H' T e1 e2 el ⟨x1, y1, ⟨t, rfl, _, ht⟩, ⟨q1, rfl, _, hq1⟩, rW⟩ ⟨q, rfl, hq⟩ ⟨⟨w6, w7, w8, w9, rfl⟩, sm⟩ nT
    obtain ⟨wvs, ⟨wa, rfl, _, hwa⟩, pw⟩ := id rW
    have esp : row.1 = sp := by
      have h1 := RO.sp
      rw [e1, e2, List.map_append, List.map_cons] at h1
      have := List.append_inj h1 (by simp [el])
      exact (List.cons.inj this.2).1
    have mrow : row ∈ rows := by rw [e1]; simp
    have msp := due_mem (Es := Es) (ns := ns) (sp := sp) (by rw [e2]; simp)
    obtain ⟨lsp, hL, _⟩ := mem_spl.mp msp.1
    have rok := RO.ok row mrow
    have s7 : Same H6 (upd H' T (.tup [.ref t, .ref q])) := Same.new sm nT
    have s17 := Same.trans s16 s7
    have ht7 := s17 _ _ ht
    have hq17 := s17 _ _ hq1
    have hq7 := (Same.trans s6 s7) _ _ hq
    have hd7 := (Same.trans s3 (Same.trans s5 (Same.trans s6 s7))) _ _ hd
    have ha7 := s17 _ _ ha
    have hwa7 := s17 _ _ hwa
    generalize upd H' T (.tup [.ref t, .ref q]) = H7 at s7 s17 ht7 hq17 hq7 hd7 ha7 hwa7 ⊢
    walk_at "go"
    refine g_iteQ (by simp) ?_
    walk_at "go"
    refine g_neL hL (by rw [← esp]; exact hq17) hq7 ?_
    walk_at "go"
    refine ⟨.ref g, a, q, d, n, Es, ns, sp, col, rfl, rGraph.frm.mv (.same s17) rg, ha7, hq7, hd7, good, h40, l5, lsp, C.two, fun H8 v8 s8 r8 => ?_⟩
    obtain ⟨x8, y8, ⟨t8, rfl, _, ht8⟩, ⟨fa, rfl, _, hfa⟩, ⟨fb, rfl, _, hfb⟩⟩ := r8
    refine g_gtup2 ht8 ?_
    have hfa : H8 fa = some (.lst ((sideS n Es ns sp col).map V.int)) := hfa
    have hfb : H8 fb = some (.lst ((sideC n Es ns sp col).map V.int)) := hfb
    have ht9 := s8 _ _ ht7
    have s18 := Same.trans s17 s8
    walk_at "go"
    have eS := sideS_uniq (Es := Es) (sp := sp) fun v hv => canon_uniq good C C' hv
    have eC := sideC_uniq (Es := Es) (sp := sp) fun v hv => canon_uniq good C C' hv
    have wl : row.2.length ≤ 5 := by rw [rok.len]; omega
    refine ⟨.ref ig, .ref wa, fa, fb, n, outE Es ns, sideS n Es ns sp col, sideC n Es ns sp col, row.2, rfl, rGraph.frm.mv (.same (Same.trans s5 (Same.trans s6 (Same.trans s7 s8)))) ri', hfa, hfb, rWs.frm.mv (.same s18) rW, outE_good good ns, h40, sideS_rise n Es ns sp col, sideC_rise n Es ns sp col, ?_, rok.apart, by omega, fun H9 s9 => ?_⟩
    · intro w hw
      rw [eS, eC, ← esp]
      exact rok.way w hw
    have ht10 := s9 _ _ ht9
    have hwa9 := s9 _ _ (s8 _ _ hwa7)
    have ha9 := s9 _ _ (s8 _ _ ha7)
    have hq9 := s9 _ _ (s8 _ _ hq7)
    have wl2 := Paired.len pw
    walk_at "go"
    refine g_iteQ (fun z => z ?_) ?_
    · have h1 := rok.len
      rw [esp] at h1
      have h2 := msp.2
      show ((wvs.length : Nat) : Int) = (ns.length : Nat) - ((sp.count dash : Nat) : Int)
      omega
    · exact ⟨⟨_, _, _, _, rfl⟩, Same.trans s7 (Same.trans s8 s9)⟩
  · rintro σ' H' ⟨⟨w6, w7, w8, w9, rfl⟩, sm⟩
    walk_at "go"
    exact k H' (Same.trans s16 sm)

/-! ### draws -/
def sp_law_mixed (K : PySem.W.Frag) : Sp := fun vs H Q _ => ∃ a k : Int, vs = [.int a, .int k] ∧ ∀ r : Int, Q (.int r) H
theorem sp_law_mixed.len {K : PySem.W.Frag} {vs : List V} {H : Hp} {Q : VK} {E : XK} (h : sp_law_mixed K vs H Q E) : vs.length = (["_law_number", "_law_k"] : List Str).length := by
  obtain ⟨a, k, rfl, _⟩ := h
  rfl
abbrev N_law_mixed : List Str := ["_law_number", "_law_k", "_law_step"]
theorem sc_law_mixed : FnScope N_law_mixed ["_law_number", "_law_k"] (defScope s_law_mixed) := ⟨rfl, rfl, rfl, by decide +kernel, rfl, by decide +kernel, by decide +kernel⟩
theorem ok_law_mixed {P : Program} {w : World} {K : PySem.W.Frag} {mg : Str → Option Value} {base : Heap} (W : Hd K mg) : OkD P w K mg base 1 "_law_mixed" ["_law_number", "_law_k"] (sp_law_mixed K) := by
  obtain ⟨fd, F⟩ := W.df_law_mixed
  refine okD_mk F W.mg_law_mixed (fun _ _ _ _ _ _ us hl => match us, hl with | [_, _], _ => rfl) ?_
  refine F.ok sc_law_mixed (fun vs H Q E h => sp_law_mixed.len h) (fun cdv A outer s H vs Q E hr h => ⟨_, PSs.nox ((pss_cons (ps_set (i := 2) sc_law_mixed.nd rfl (by first | exact .inl rfl | exact .inr rfl) (pe_op op_mod (pe_op op_add (pe_op op_add (pe_op op_mul (pv 0) pe_int) (pe_op op_mul (pv 1) pe_int)) pe_int) pe_int))
  (pss_one (ps_ret (pe_op op_mod (pe_op op_add (pe_op op_mul (pv 2) (pe_op op_add (pe_op op_fdiv (pv 2) pe_int) pe_int)) (pv 1)) pe_int))))), ?_⟩)
  try dsimp only [cxOf, Cx.nox, Cx.wish]
  obtain ⟨a, k, rfl, q⟩ := h
  walk_at "go"
  refine g_rI (.inr (by decide)) ?_
  walk_at "go"
  refine g_rI (.inr (by decide)) ?_
  walk_at "go"
  have h0 := Int.emod_nonneg (a * 48271 + k * 69621 + 12345) (b := 2147483647) (by decide)
  have h1 := Int.emod_lt_of_pos (a * 48271 + k * 69621 + 12345) (b := 2147483647) (by decide)
  refine g_rI (.inl ⟨by omega, by omega⟩) ?_
  walk_at "go"
  exact q _
def sp_law_numbers (K : PySem.W.Frag) : Sp := fun vs H Q _ => ∃ (a : Addr) (ns : List Int), vs = [.ref a] ∧ SqL K H a (ns.map V.int) ∧ ns.length ≤ 63 ∧ ∀ H' p (xs : List Int), Same H H' → H p = none → H' p = some (.lst (xs.map V.int)) → Q (.ref p) H'
theorem sp_law_numbers.len {K : PySem.W.Frag} {vs : List V} {H : Hp} {Q : VK} {E : XK} (h : sp_law_numbers K vs H Q E) : vs.length = (["_law_script"] : List Str).length := by
  obtain ⟨a, ns, rfl, _⟩ := h
  rfl
abbrev N_law_numbers : List Str := ["_law_script", "_law_numbers_here", "_law_cell", "_law_rest", "_law_k"]
theorem sc_law_numbers : FnScope N_law_numbers ["_law_script"] (defScope s_law_numbers) := ⟨rfl, rfl, rfl, by decide +kernel, rfl, by decide +kernel, by decide +kernel⟩
theorem ok_law_numbers {P : Program} {w : World} {K : PySem.W.Frag} {mg : Str → Option Value} {base : Heap} (W : Hd K mg) : OkD P w K mg base 2 "_law_numbers" ["_law_script"] (sp_law_numbers K) := by
  obtain ⟨fd, F⟩ := W.df_law_numbers
  refine okD_mk F W.mg_law_numbers (fun _ _ _ _ _ _ us hl => match us, hl with | [_], _ => rfl) ?_
  refine F.ok sc_law_numbers (fun vs H Q E h => sp_law_numbers.len h) (fun cdv A outer s H vs Q E hr h => ⟨_, PSs.nox ((pss_cons (ps_set (i := 1) sc_law_numbers.nd rfl (by first | exact .inl rfl | exact .inr rfl) (pe_lst pa_nil))
  (pss_cons (ps_for PassesOwn.never rfl (pi_list (pv 0)) (pg_name (i := 2) sc_law_numbers.nd rfl (by first | exact .inl rfl | exact .inr rfl))
  (pss_one (ps_if (pt_cmpR op_ge (pv 2) (pe_op op_pow pe_int pe_int) (nomark _))
  (pss_cons (ps_set (i := 3) sc_law_numbers.nd rfl (by first | exact .inl rfl | exact .inr rfl) (pv 2))
  (pss_one (ps_for PassesOwn.never rfl (pi_range1 (by rfl) (W.fr_range) (pa_cons pe_int pa_nil)) (pg_name (i := 4) sc_law_numbers.nd rfl (by first | exact .inl rfl | exact .inr rfl))
  (pss_one (ps_if (pt_cmpR op_gt (pv 3) pe_int (nomark _))
  (pss_cons (ps_expr (pe_bmK K PySem.F.plainAttrs_list PySem.F.slot_list_append PySem.F.type_list_append mt_append (pv 1) (pa_cons (pe_op op_mod (pv 3) pe_int) pa_nil)))
  (pss_one (ps_set (i := 3) sc_law_numbers.nd rfl (by first | exact .inl rfl | exact .inr rfl) (pe_op op_fdiv (pv 3) pe_int))))
  pss_nil)))))
  (pss_cons (ps_expr (pe_bmK K PySem.F.plainAttrs_list PySem.F.slot_list_append PySem.F.type_list_append mt_append (pv 1) (pa_cons (pe_op op_mod (pv 2) pe_int) pa_nil)))
  (pss_one (ps_for PassesOwn.never rfl (pi_range1 (by rfl) (W.fr_range) (pa_cons pe_int pa_nil)) (pg_name (i := 4) sc_law_numbers.nd rfl (by first | exact .inl rfl | exact .inr rfl))
  (pss_one (ps_expr (pe_bmK K PySem.F.plainAttrs_list PySem.F.slot_list_append PySem.F.type_list_append mt_append (pv 1) (pa_cons (pe_op op_mod (pe_callD (ok_law_mixed W) (hr.mono (by decide)) (pa_cons (pe_callD (ok_law_mixed W) (hr.mono (by decide)) (pa_cons (pe_op op_mod (pv 2) pe_int) (pa_cons (pv 4) pa_nil))) (pa_cons (pe_op op_add (pv 4) pe_int) pa_nil))) pe_int) pa_nil))))))))))
  (pss_one (ps_ret (pv 1)))))), ?_⟩)
  try dsimp only [cxOf, Cx.nox, Cx.wish]
  obtain ⟨a, ns, rfl, hs, hl, k⟩ := h
  walk_at "go"
  intro D nD
  have s0 : Same H (upd H D (.lst [])) := Same.new (Same.refl _) nD
  walk_at "go"
  refine ⟨a, rfl, ⟨_, Same.seq s0 hs⟩, forW_rep (R := fun x (i : Int) => x = .int i) (paired_map ns) (fun pre σ' H' => Same H H' ∧ (∃ w1 w2 w3 : Option V, σ' = [some (.ref a), some (.ref D), w1, w2, w3]) ∧ ∃ xs : List Int, H' D = some (.lst (xs.map V.int)) ∧ xs.length ≤ pre.length * 60) ?_ (fun _ _ H' _ p => Same.seq p.1 hs) ?_ ?_⟩
  · exact ⟨s0, ⟨_, _, _, rfl⟩, [], upd_same, Nat.le_refl _⟩
  · rintro pre x c post σ' H' e rfl ⟨sm, ⟨w1, w2, w3, rfl⟩, xs, hD, xl⟩
    have pl : pre.length < 63 := by have := congrArg List.length e; simp at this; omega
    walk_at "go"
    refine g_rI ⟨by decide, by decide, by decide⟩ ?_
    walk_at "go"
    refine g_ite (fun big => ?_) (fun nbig => ?_)
    · walk_at "go"
      refine for_rng1 (n := 60) (by decide) (by decide) (fun i σ' H2 => Same H H2 ∧ (∃ (z : Int) (w3 : Option V), σ' = [some (.ref a), some (.ref D), some (.int c), some (.int z), w3]) ∧ ∃ xs : List Int, H2 D = some (.lst (xs.map V.int)) ∧ xs.length ≤ pre.length * 60 + i) ?_ ?_ ?_
      · exact ⟨sm, ⟨_, _, rfl⟩, xs, hD, by omega⟩
      · rintro i σ' H2 hi ⟨sm2, ⟨z, w3, rfl⟩, xs, hD2, xl2⟩
        walk_at "go"
        refine g_ite (fun pos => ?_) (fun npos => ?_)
        · walk_at "go"
          refine g_appI hD2 (small_of (by omega)) ?_
          walk_at "go"
          exact ⟨Same.mut sm2 nD, ⟨_, _, rfl⟩, _, upd_same, by simp; omega⟩
        · walk_at "go"
          exact ⟨sm2, ⟨_, _, rfl⟩, xs, hD2, by omega⟩
      · rintro σ' H2 ⟨sm2, ⟨z, w3, rfl⟩, xs, hD2, xl2⟩
        exact ⟨sm2, ⟨_, _, _, rfl⟩, xs, hD2, by simp; have e60 : Int.toNat 60 = 60 := rfl; omega⟩
    · walk_at "go"
      refine g_appI hD (small_of (by omega)) ?_
      walk_at "go"
      refine for_rng1 (n := 5) (by decide) (by decide) (fun i σ' H2 => Same H H2 ∧ (∃ w2 w3 : Option V, σ' = [some (.ref a), some (.ref D), some (.int c), w2, w3]) ∧ ∃ xs : List Int, H2 D = some (.lst (xs.map V.int)) ∧ xs.length ≤ pre.length * 60 + 1 + i) ?_ ?_ ?_
      · exact ⟨Same.mut sm nD, ⟨_, _, rfl⟩, _, upd_same, by simp; omega⟩
      · rintro i σ' H2 hi ⟨sm2, ⟨w2, w3, rfl⟩, xs, hD2, xl2⟩
        walk_at "go"
        refine ⟨_, _, rfl, fun r => ?_⟩
        walk_at "go"
        refine ⟨_, _, rfl, fun r2 => ?_⟩
        walk_at "go"
        refine g_appI hD2 (small_of (by omega)) ?_
        exact ⟨Same.mut sm2 nD, ⟨_, _, rfl⟩, _, upd_same, by simp; omega⟩
      · rintro σ' H2 ⟨sm2, ⟨w2, w3, rfl⟩, xs, hD2, xl2⟩
        exact ⟨sm2, ⟨_, _, _, rfl⟩, xs, hD2, by simp; have e5 : Int.toNat 5 = 5 := rfl; omega⟩
  · rintro σ' H' ⟨sm, ⟨w1, w2, w3, rfl⟩, xs, hD, xl⟩
    walk_at "go"
    exact k H' D xs sm nD hD
/-- d is the draws' state -/
def Drw (H : Hp) (d nl : Addr) : Prop := ∃ (xs : List Int) (at_ : Int), H d = some (.lst [.ref nl, .int at_]) ∧ H nl = some (.lst (xs.map V.int)) ∧ 0 ≤ at_
def KeepD (d : Addr) (H H' : Hp) : Prop := ∀ b o, b ≠ d → H b = some o → H' b = some o
theorem KeepD.refl (d : Addr) (H : Hp) : KeepD d H H := fun _ _ _ h => h
theorem KeepD.trans {d : Addr} {H H1 H2 : Hp} (a : KeepD d H H1) (b : KeepD d H1 H2) : KeepD d H H2 := fun c o n h => b c o n (a c o n h)
theorem KeepD.same {d : Addr} {H H' : Hp} (s : Same H H') : KeepD d H H' := fun b o _ h => s b o h
theorem KeepD.free {d b : Addr} {H H' : Hp} (k : KeepD d H H') (n : b ≠ d) (h : H' b = none) : H b = none := by
  cases e : H b with
  | none => rfl
  | some o => rw [k b o n e] at h; cases h
theorem Drw.same {d nl : Addr} {H H' : Hp} (s : Same H H') (D : Drw H d nl) : Drw H' d nl := by
  obtain ⟨xs, at_, h1, h2, h3⟩ := D
  exact ⟨xs, at_, s _ _ h1, s _ _ h2, h3⟩
theorem Drw.is {d nl : Addr} {H : Hp} (D : Drw H d nl) : H d ≠ none := by
  obtain ⟨xs, at_, h1, _⟩ := D
  rw [h1]
  simp
/-- another address has been written -/
theorem Drw.mut {d nl p : Addr} {H0 H : Hp} {o : HO} (D0 : Drw H0 d nl) (D : Drw H d nl) (n : H0 p = none) : Drw (upd H p o) d nl := by
  obtain ⟨xs0, at0_, g1, g2, _⟩ := D0
  obtain ⟨xs, at_, h1, h2, h3⟩ := D
  exact ⟨xs, at_, by rw [upd_ne (ne_of_none g1 n)]; exact h1, by rw [upd_ne (ne_of_none g2 n)]; exact h2, h3⟩
theorem KeepD.mut {d p : Addr} {H0 H : Hp} {o : HO} (k : KeepD d H0 H) (n : H0 p = none) : KeepD d H0 (upd H p o) := fun b u nb h => by
  rw [upd_ne (ne_of_none h n)]
  exact k b u nb h
theorem KeepD.new {d p : Addr} {H0 H : Hp} {o : HO} (k : KeepD d H0 H) (n : H p = none) (nd : H d ≠ none) : KeepD d H0 (upd H p o) := fun b u nb h => by
  rw [upd_ne (ne_of_none (k b u nb h) n)]
  exact k b u nb h
theorem g_setL {H : Hp} {Q : Hp → Prop} {a : Addr} {xs : List V} {i : Int} {v : V} (h : H a = some (.lst xs)) (h0 : 0 ≤ i) (h1 : i < xs.length) (k : Q (upd H a (.lst (xs.set i.toNat v)))) : L2.rSetL (.ref a) (.int i) v H Q := by
  refine ⟨a, _, i, i.toNat, rfl, rfl, h, ?_, k⟩
  unfold ixN
  rw [if_pos h0, if_pos h1]
def sp_law_draw (K : PySem.W.Frag) : Sp := fun vs H Q _ => ∃ d nl : Addr, vs = [.ref d] ∧ Drw H d nl ∧ ∀ H' (x : Int), KeepD d H H' → Drw H' d nl → Q (.int x) H'
theorem sp_law_draw.len {K : PySem.W.Frag} {vs : List V} {H : Hp} {Q : VK} {E : XK} (h : sp_law_draw K vs H Q E) : vs.length = (["_law_draws"] : List Str).length := by
  obtain ⟨d, nl, rfl, _⟩ := h
  rfl
abbrev N_law_draw : List Str := ["_law_draws", "_law_at", "_law_first"]
theorem sc_law_draw : FnScope N_law_draw ["_law_draws"] (defScope s_law_draw) := ⟨rfl, rfl, rfl, by decide +kernel, rfl, by decide +kernel, by decide +kernel⟩
theorem ok_law_draw {P : Program} {w : World} {K : PySem.W.Frag} {mg : Str → Option Value} {base : Heap} (W : Hd K mg) : OkD P w K mg base 2 "_law_draw" ["_law_draws"] (sp_law_draw K) := by
  obtain ⟨fd, F⟩ := W.df_law_draw
  refine okD_mk F W.mg_law_draw (fun _ _ _ _ _ _ us hl => match us, hl with | [_], _ => rfl) ?_
  refine F.ok sc_law_draw (fun vs H Q E h => sp_law_draw.len h) (fun cdv A outer s H vs Q E hr h => ⟨_, PSs.nox ((pss_cons (ps_set (i := 1) sc_law_draw.nd rfl (by first | exact .inl rfl | exact .inr rfl) (pe_ix (ix_listK K) (pv 0) pe_int (fun _ _ => rfl)))
  (pss_cons (ps_asg (pe_op op_add (pv 1) pe_int) (pg_sub (pv 0) pe_int set_list (fun _ => rfl)))
  (pss_cons (ps_if (pt_cmpR op_lt (pv 1) (pe_callB (call_lenK K) (by rfl) (W.fr_len) PySem.boot_len (pa_cons (pe_ix (ix_listK K) (pv 0) pe_int (fun _ _ => rfl)) pa_nil)) (nomark _))
  (pss_one (ps_ret (pe_ix (ix_listK K) (pe_ix (ix_listK K) (pv 0) pe_int (fun _ _ => rfl)) (pv 1) (fun _ _ => rfl))))
  pss_nil)
  (pss_cons (ps_set (i := 2) sc_law_draw.nd rfl (by first | exact .inl rfl | exact .inr rfl) (pe_op op_add pe_int (pv 1)))
  (pss_cons (ps_if (pt_cmpR op_gt (pe_callB (call_lenK K) (by rfl) (W.fr_len) PySem.boot_len (pa_cons (pe_ix (ix_listK K) (pv 0) pe_int (fun _ _ => rfl)) pa_nil)) pe_int (nomark _))
  (pss_one (ps_set (i := 2) sc_law_draw.nd rfl (by first | exact .inl rfl | exact .inr rfl) (pe_op op_add (pv 2) (pe_op op_mul pe_int (pe_ix (ix_listK K) (pe_ix (ix_listK K) (pv 0) pe_int (fun _ _ => rfl)) pe_int (fun _ _ => rfl))))))
  pss_nil)
  (pss_one (ps_ret (pe_op op_mod (pe_callD (ok_law_mixed W) (hr.mono (by decide)) (pa_cons (pe_callD (ok_law_mixed W) (hr.mono (by decide)) (pa_cons (pv 2) (pa_cons (pv 1) pa_nil))) (pa_cons pe_int pa_nil))) pe_int))))))))), ?_⟩)
  try dsimp only [cxOf, Cx.nox, Cx.wish]
  obtain ⟨d, nl, rfl, ⟨xs, at_, h1, h2, h3⟩, k⟩ := h
  walk_at "go"
  refine g_ix h1 (i := 1) (atI_at (by decide) rfl) ?_
  walk_at "go"
  refine g_setL (i := 1) h1 (by decide) (by simp) ?_
  have nd : nl ≠ d := by
    rintro rfl
    rw [h1] at h2
    cases xs with
    | nil => cases h2
    | cons x r => cases h2
  have e1 : ([V.ref nl, V.int at_].set (1 : Int).toNat (V.int (at_ + 1))) = [V.ref nl, V.int (at_ + 1)] := rfl
  rw [e1]
  have k1 : KeepD d H (upd H d (.lst [.ref nl, .int (at_ + 1)])) := fun b o n h => by rw [upd_ne n]; exact h
  have g1 : upd H d (.lst [.ref nl, .int (at_ + 1)]) d = some (.lst [.ref nl, .int (at_ + 1)]) := upd_same
  have g2 := k1 _ _ nd h2
  generalize upd H d (.lst [.ref nl, .int (at_ + 1)]) = H1 at k1 g1 g2 ⊢
  have D1 : Drw H1 d nl := ⟨xs, at_ + 1, g1, g2, by omega⟩
  walk_at "go"
  refine g_ix g1 (i := 0) at0 ?_
  walk_at "go"
  refine g_ite (fun lt => ?_) (fun nlt => ?_)
  · walk_at "go"
    refine g_ix g1 (i := 0) at0 ?_
    walk_at "go"
    refine g_ixI g2 (atI_at h3 (List.getElem?_eq_getElem (by omega))) ?_
    exact k H1 _ k1 D1
  · walk_at "go"
    refine g_ix g1 (i := 0) at0 ?_
    walk_at "go"
    refine g_ite (fun gt => ?_) (fun ngt => ?_)
    · walk_at "go"
      refine g_ix g1 (i := 0) at0 ?_
      walk_at "go"
      refine g_ixI g2 (atI_at (Int.le_refl 0) (List.getElem?_eq_getElem (by show 0 < xs.length; omega))) ?_
      walk_at "go"
      refine ⟨_, _, rfl, fun r => ?_⟩
      walk_at "go"
      refine ⟨_, _, rfl, fun r2 => ?_⟩
      walk_at "go"
      exact k H1 _ k1 D1
    · walk_at "go"
      refine ⟨_, _, rfl, fun r => ?_⟩
      walk_at "go"
      refine ⟨_, _, rfl, fun r2 => ?_⟩
      walk_at "go"
      exact k H1 _ k1 D1

/-! ### law_near, law_without -/
def sp_law_near (K : PySem.W.Frag) : Sp := fun vs H Q _ => ∃ (n : Nat) (e : V) (Es : List (Int × Int)), vs = [.int n, e] ∧ rLst rPair No H e Es ∧ GoodE n Es ∧ n ≤ 40 ∧ ∀ H' v, Same H H' → rLst rInts (Trk H) H' v (links n Es) → Q v H'
theorem sp_law_near.len {K : PySem.W.Frag} {vs : List V} {H : Hp} {Q : VK} {E : XK} (h : sp_law_near K vs H Q E) : vs.length = (["_law_n", "_law_edges_here"] : List Str).length := by
  obtain ⟨n, e, Es, rfl, _⟩ := h
  rfl
abbrev N_law_near : List Str := ["_law_n", "_law_edges_here", "_law_near_here", "_law_edge", "_law_v", "_law_row"]
theorem sc_law_near : FnScope N_law_near ["_law_n", "_law_edges_here"] (defScope s_law_near) := ⟨rfl, rfl, rfl, by decide +kernel, rfl, by decide +kernel, by decide +kernel⟩
theorem ok_law_near {P : Program} {w : World} {K : PySem.W.Frag} {mg : Str → Option Value} {base : Heap} (W : Hd K mg) : OkD P w K mg base 1 "_law_near" ["_law_n", "_law_edges_here"] (sp_law_near K) := by
  obtain ⟨fd, F⟩ := W.df_law_near
  refine okD_mk F W.mg_law_near (fun _ _ _ _ _ _ us hl => match us, hl with | [_, _], _ => rfl) ?_
  refine F.ok sc_law_near (fun vs H Q E h => sp_law_near.len h) (fun cdv A outer s H vs Q E hr h => ⟨_, PSs.nox ((pss_cons (ps_setLc (i := 2) (own := [("_law_v", 4)]) (g := gName 4) rfl sc_law_near.nd rfl rfl (sw_true rfl rfl rfl (by decide +kernel)) (pi_range1 (by rfl) (W.fr_range) (pa_cons (pv 0) pa_nil)) (blkOk_by (N := N_law_near) (sc := defScope s_law_near) (by decide +kernel)) (fun _ _ _ _ _ => pg_name (i := 4) sc_law_near.nd rfl (Or.inl rfl)) (fun _ _ _ _ _ => pts_nil) (fun _ _ _ _ _ => (pe_lst pa_nil)))
  (pss_cons (ps_for PassesOwn.never rfl (pi_list (pv 1)) (pg_name (i := 3) sc_law_near.nd rfl (by first | exact .inl rfl | exact .inr rfl))
  (pss_cons (ps_expr (pe_bmK K PySem.F.plainAttrs_list PySem.F.slot_list_append PySem.F.type_list_append mt_append (pe_ix (ix_listK K) (pv 2) (pe_ix (ix_tupK K) (pv 3) pe_int (fun _ _ => rfl)) (fun _ _ => rfl)) (pa_cons (pe_ix (ix_tupK K) (pv 3) pe_int (fun _ _ => rfl)) pa_nil)))
  (pss_one (ps_expr (pe_bmK K PySem.F.plainAttrs_list PySem.F.slot_list_append PySem.F.type_list_append mt_append (pe_ix (ix_listK K) (pv 2) (pe_ix (ix_tupK K) (pv 3) pe_int (fun _ _ => rfl)) (fun _ _ => rfl)) (pa_cons (pe_ix (ix_tupK K) (pv 3) pe_int (fun _ _ => rfl)) pa_nil))))))
  (pss_one (ps_ret (pe_lc (own := [("_law_row", 5)]) (g := gName 5) (tt := _) rfl sc_law_near.nd (pi_list (pv 2)) (blkOk_by (N := N_law_near) (sc := defScope s_law_near) (by decide +kernel)) (fun _ _ _ _ _ => pg_name (i := 5) sc_law_near.nd rfl (Or.inl rfl)) (fun _ _ _ _ _ => pts_nil) (fun _ _ _ _ _ => (pe_callB (cr_sortedK K) (by rfl) (W.fr_sorted) (by decide +kernel) (pa_cons (pv 5) pa_nil))))))))), ?_⟩)
  try dsimp only [cxOf, Cx.nox, Cx.wish]
  obtain ⟨n, ev, Es, rfl, ⟨es, ⟨a, rfl, _, ha⟩, pr0⟩, good, h40, k⟩ := h
  walk_at "go"
  refine lc_rng1 (n := (n : Int)) (by omega) (by omega) (fun Dl i H' => Same H H' ∧ ∃ ls : List Addr, H' Dl = some (.lst (ls.map V.ref)) ∧ Rows H' ls i (fun _ => []) ∧ ∀ l ∈ ls, H l = none ∧ l ≠ Dl) ?_ ?_ ?_
  · intro Dl nD
    exact ⟨Same.new (Same.refl _) nD, [], upd_same, ⟨rfl, List.nodup_nil, by simp⟩, by simp⟩
  · rintro Dl i H' nD hi ⟨s2, ls, hD, hR, hN⟩
    walk_at "go"
    intro p np
    have npD : Dl ≠ p := ne_of_none hD np
    refine ⟨_, by walk_at "hp", small_of (by rw [List.length_map, hR.1]; omega), ?_⟩
    have e : ls.map V.ref ++ [V.ref p] = (ls ++ [p]).map V.ref := by simp
    rw [e]
    have npl : ∀ l ∈ ls, l ≠ p := fun l hl => by
      obtain ⟨i', hi', e'⟩ := List.mem_iff_getElem.mp hl
      exact ne_of_none (hR.2.2 i' l (by rw [List.getElem?_eq_getElem hi', e'])) np
    refine ⟨Same.mut (Same.new s2 np) nD, _, upd_same, ⟨by rw [List.length_append, hR.1]; rfl, nd_snoc hR.2.1 (fun z => npl p z rfl), fun j l hl => ?_⟩, fun l hl => ?_⟩
    · have m : l ∈ ls ++ [p] := List.mem_of_getElem? hl
      rcases List.mem_append.mp m with m | m
      · obtain ⟨j', hj', e'⟩ := List.mem_iff_getElem.mp m
        have q := hR.2.2 j' l (by rw [List.getElem?_eq_getElem hj', e'])
        rw [upd_ne (hN l m).2, upd_ne (npl l m)]
        exact q
      · have e2 := List.mem_singleton.mp m
        subst e2
        rw [upd_ne npD.symm, upd_same]
        rfl
    · rcases List.mem_append.mp hl with m | m
      · exact hN l m
      · have e2 := List.mem_singleton.mp m
        subst e2
        exact ⟨s2.free np, npD.symm⟩
  rintro Dl H3 nD ⟨s3, ls, hD3, hR3, hN⟩
  rw [Int.toNat_natCast] at hR3
  have ha3 := s3 _ _ ha
  walk_at "go"
  refine for_rep (R := rPair No H) (h := ha3) (pr := pr0) (fun pre σ' H' => Same H H' ∧ (∃ u : Option V, σ' = [some (.int n), some (.ref a), some (.ref Dl), u, none, none]) ∧
      H' Dl = some (.lst (ls.map V.ref)) ∧ Rows H' ls n (fun i => adjs pre (i : Int))) ?_ ?_ ?_ ?_
  · exact ⟨s3, ⟨_, rfl⟩, hD3, hR3⟩
  · rintro pre σ' H' _ ⟨sm, _⟩
    exact sm _ _ ha
  · rintro pre x d post σ' H' e ⟨t, rfl, _, ht⟩ ⟨sm, ⟨u, rfl⟩, hD4, hR4⟩
    have ht4 := sm _ _ ht
    have gd := good.1 d (by rw [e]; simp)
    have gp := good.pre e
    have c1 : ((d.1.toNat : Nat) : Int) = d.1 := by omega
    have c2 : ((d.2.toNat : Nat) : Int) = d.2 := by omega
    walk_at "go"
    refine g_row hD4 hR4 (by omega) (by omega) fun l1 hl1 hv1 => ?_
    walk_at "go"
    refine g_appI hv1 (small_of (by have := adjs_len gp ((d.1.toNat : Nat) : Int); omega)) ?_
    have m1 := hN l1 (List.mem_of_getElem? hl1)
    have hR5 := hR4.put hl1 d.2
    have hD5 : (upd H' l1 (.lst ((adjs pre ((d.1.toNat : Nat) : Int) ++ [d.2]).map V.int))) Dl = some (.lst (ls.map V.ref)) := by rw [upd_ne m1.2.symm]; exact hD4
    have sm5 := Same.mut (o := .lst ((adjs pre ((d.1.toNat : Nat) : Int) ++ [d.2]).map V.int)) sm m1.1
    have ht5 := sm5 _ _ ht
    generalize upd H' l1 (.lst ((adjs pre ((d.1.toNat : Nat) : Int) ++ [d.2]).map V.int)) = H5 at hR5 hD5 sm5 ht5 ⊢
    walk_at "go"
    refine g_row hD5 hR5 (by omega) (by omega) fun l2 hl2 hv2 => ?_
    walk_at "go"
    have ne12 : ¬ d.2.toNat = d.1.toNat := by omega
    simp only [ne12, if_false] at hv2
    refine g_appI hv2 (small_of (by have := adjs_len gp ((d.2.toNat : Nat) : Int); omega)) ?_
    have m2 := hN l2 (List.mem_of_getElem? hl2)
    have hR6 := hR5.put hl2 d.1
    simp only [ne12, if_false] at hR6
    refine ⟨Same.mut sm5 m2.1, ⟨_, rfl⟩, by rw [upd_ne m2.2.symm]; exact hD5, hR6.ext fun i hi => ?_⟩
    rw [adjs_snoc]
    by_cases i2 : i = d.2.toNat
    · subst i2
      have q1 : ¬ d.1 = ((d.2.toNat : Nat) : Int) := by omega
      simp [q1, c2]
    · by_cases i1 : i = d.1.toNat
      · subst i1
        simp [i2, c1]
      · have q1 : ¬ d.1 = (i : Int) := by omega
        have q2 : ¬ d.2 = (i : Int) := by omega
        simp [i1, i2, q1, q2]
  · rintro σ' H' ⟨sm, ⟨u, rfl⟩, hD4, hR4⟩
    walk_at "go"
    have prs : Paired (rInts No H') (ls.map V.ref) ((List.range n).map fun (i : Nat) => adjs Es (i : Int)) := hR4.pair fun _ _ z => z
    refine lc_rep hD4 prs (fun D' pre H5 => Col rInts (Trk H) H' D' H5 (pre.map isort)) ?_ ?_ ?_ ?_
    · intro D' nD'
      exact Col.nil nD'
    · rintro D' pre H5 nD' _ c
      exact c.same _ _ hD4
    · rintro D' pre x d post H5 nD' e ⟨b, rfl, _, hb⟩ c
      have hb5 := c.same _ _ hb
      walk_at "go"
      intro p np
      have c2 := c.step rInts.frm (Same.new (o := .lst ((isort d).map V.int)) (Same.refl H5) np)
      obtain ⟨_, vs2, hv2, _⟩ := id c2
      have npD : p ≠ D' := by
        rintro rfl
        obtain ⟨_, _, h, _⟩ := c
        rw [h] at np
        cases np
      refine ⟨vs2, hv2, ?_, ?_⟩
      · have l1 := c2.len hv2
        have l2 := congrArg List.length e
        rw [l1]
        simp at l2 ⊢
        exact small_of (by omega)
      · have c3 := c2.app rInts.frm nD' hv2 (v := .ref p) (d := isort d) ⟨p, rfl, fun z => z.elim npD fun z => z ((Same.trans sm c.same).free np), upd_same⟩
        rw [List.map_append]
        exact c3
    · rintro D' H5 nD' c
      have sm5 := Same.trans sm c.same
      have q := c.done rInts.frm fun z => z (sm.free nD')
      have e5 : ((List.range n).map fun (i : Nat) => adjs Es (i : Int)).map isort = links n Es := by
        unfold links nb
        rw [List.map_map]
        rfl
      rw [e5] at q
      exact k _ _ sm5 q
def sp_law_without (K : PySem.W.Frag) : Sp := fun vs H Q _ => ∃ (n : Nat) (a : Addr) (ns : List Int), vs = [.int n, .ref a] ∧ H a = some (.lst (ns.map V.int)) ∧ n ≤ 1000 ∧ ∀ H' p, Same H H' → H p = none → H' p = some (.lst ((outside n ns).map V.int)) → Q (.ref p) H'
theorem sp_law_without.len {K : PySem.W.Frag} {vs : List V} {H : Hp} {Q : VK} {E : XK} (h : sp_law_without K vs H Q E) : vs.length = (["_law_n", "_law_nodes"] : List Str).length := by
  obtain ⟨n, a, ns, rfl, _⟩ := h
  rfl
abbrev N_law_without : List Str := ["_law_n", "_law_nodes", "_law_v"]
theorem sc_law_without : FnScope N_law_without ["_law_n", "_law_nodes"] (defScope s_law_without) := ⟨rfl, rfl, rfl, by decide +kernel, rfl, by decide +kernel, by decide +kernel⟩
theorem ok_law_without {P : Program} {w : World} {K : PySem.W.Frag} {mg : Str → Option Value} {base : Heap} (W : Hd K mg) : OkD P w K mg base 1 "_law_without" ["_law_n", "_law_nodes"] (sp_law_without K) := by
  obtain ⟨fd, F⟩ := W.df_law_without
  refine okD_mk F W.mg_law_without (fun _ _ _ _ _ _ us hl => match us, hl with | [_, _], _ => rfl) ?_
  refine F.ok sc_law_without (fun vs H Q E h => sp_law_without.len h) (fun cdv A outer s H vs Q E hr h => ⟨_, PSs.nox ((pss_one (ps_ret (pe_lc (own := [("_law_v", 2)]) (g := gName 2) (tt := _) rfl sc_law_without.nd (pi_range1 (by rfl) (W.fr_range) (pa_cons (pv 0) pa_nil)) (blkOk_by (N := N_law_without) (sc := defScope s_law_without) (by decide +kernel)) (fun _ _ _ _ _ => pg_name (i := 2) sc_law_without.nd rfl (Or.inl rfl)) (fun _ _ _ _ _ => pts_one (pt_cmpR (op_ninK K) (pv 2) (pv 1) (by rfl))) (fun _ _ _ _ _ => (pv 2)))))), ?_⟩)
  try dsimp only [cxOf, Cx.nox, Cx.wish]
  obtain ⟨n, a, ns, rfl, ha, h1000, k⟩ := h
  walk_at "go"
  refine lc_rng1 (n := (n : Int)) (by omega) (by omega) (fun D i H' => Same H H' ∧ H' D = some (.lst ((outside i ns).map V.int)) ∧ (outside i ns).length ≤ i) ?_ ?_ ?_
  · intro D nD
    exact ⟨Same.new (Same.refl _) nD, upd_same, Nat.le_refl _⟩
  · rintro D i H' nD hi ⟨sm, hD, hl⟩
    have ha' := sm _ _ ha
    walk_at "go"
    refine g_ite (fun h => ?_) (fun h => ?_)
    · walk_at "go"
      refine ⟨_, hD, small_of (by rw [List.length_map]; omega), Same.mut sm nD, ?_, ?_⟩
      · rw [range_snoc, if_neg h, List.map_append]
        exact upd_same
      · rw [range_snoc, if_neg h, List.length_append]
        simp
        omega
    · walk_at "go"
      have h : (i : Int) ∈ ns := Classical.byContradiction fun z => h z
      refine ⟨sm, ?_, ?_⟩
      · rw [range_snoc, if_pos h, List.append_nil]
        exact hD
      · rw [range_snoc, if_pos h, List.append_nil]
        omega
  · rintro D H' nD ⟨sm, hD, hl⟩
    rw [Int.toNat_natCast] at hD
    exact k H' D sm nD hD
/-! ### law_is_nodes, law_is_path, law_are_ways -/
def sp_law_is_nodes (K : PySem.W.Frag) : Sp := fun vs H Q _ => ∃ (n : Nat) (a : Addr) (ns : List Int), vs = [.int n, .ref a] ∧ H a = some (.lst (ns.map V.int)) ∧ Rising n ns ∧ n ≤ 1000 ∧ ∀ H', Same H H' → Q (.bl true) H'
theorem sp_law_is_nodes.len {K : PySem.W.Frag} {vs : List V} {H : Hp} {Q : VK} {E : XK} (h : sp_law_is_nodes K vs H Q E) : vs.length = (["_law_n", "_law_nodes"] : List Str).length := by
  obtain ⟨n, a, ns, rfl, _⟩ := h
  rfl
abbrev N_law_is_nodes : List Str := ["_law_n", "_law_nodes", "_law_k"]
theorem sc_law_is_nodes : FnScope N_law_is_nodes ["_law_n", "_law_nodes"] (defScope s_law_is_nodes) := ⟨rfl, rfl, rfl, by decide +kernel, rfl, by decide +kernel, by decide +kernel⟩
theorem ok_law_is_nodes {P : Program} {w : World} {K : PySem.W.Frag} {mg : Str → Option Value} {base : Heap} (W : Hd K mg) : OkD P w K mg base 1 "_law_is_nodes" ["_law_n", "_law_nodes"] (sp_law_is_nodes K) := by
  obtain ⟨fd, F⟩ := W.df_law_is_nodes
  refine okD_mk F W.mg_law_is_nodes (fun _ _ _ _ _ _ us hl => match us, hl with | [_, _], _ => rfl) ?_
  refine F.ok sc_law_is_nodes (fun vs H Q E h => sp_law_is_nodes.len h) (fun cdv A outer s H vs Q E hr h => ⟨_, PSs.nox ((pss_cons (ps_if (pt_not (pt_val (pe_callB (call_isiK K) (by rfl) (W.fr_isinstance) (by decide +kernel) (pa_cons (pv 1) (pa_cons (pe_bltn (v := .ty "list") (by rfl) (W.fr_list) (by decide +kernel) rfl) pa_nil)))))
  (pss_one (ps_ret pe_bl))
  pss_nil)
  (pss_cons (ps_for PassesOwn.never rfl (pi_range1 (by rfl) (W.fr_range) (pa_cons (pe_callB (call_lenK K) (by rfl) (W.fr_len) PySem.boot_len (pa_cons (pv 1) pa_nil)) pa_nil)) (pg_name (i := 2) sc_law_is_nodes.nd rfl (by first | exact .inl rfl | exact .inr rfl))
  (pss_cons (ps_if (PW.pt (pw_or (pt_not (pt_val (pe_callB (call_isiK K) (by rfl) (W.fr_isinstance) (by decide +kernel) (pa_cons (pe_ix (ix_listK K) (pv 1) (pv 2) (fun _ _ => rfl)) (pa_cons (pe_bltn (v := .ty "int") (by rfl) (W.fr_int) (by decide +kernel) rfl) pa_nil))))) (pw_or (pt_val (pe_callB (call_isiK K) (by rfl) (W.fr_isinstance) (by decide +kernel) (pa_cons (pe_ix (ix_listK K) (pv 1) (pv 2) (fun _ _ => rfl)) (pa_cons (pe_bltn (v := .ty "bool") (by rfl) (W.fr_bool) (by decide +kernel) rfl) pa_nil)))) (pw_or1 (pt_not (pt_chain op_le op_lt pe_int (pe_ix (ix_listK K) (pv 1) (pv 2) (fun _ _ => rfl)) (pv 0)))))))
  (pss_one (ps_ret pe_bl))
  pss_nil)
  (pss_one (ps_if (PW.pt (pw_and (pt_cmpR op_gt (pv 2) pe_int (nomark _)) (pw_and1 (pt_cmpR op_ge (pe_ix (ix_listK K) (pv 1) (pe_op op_sub (pv 2) pe_int) (fun _ _ => rfl)) (pe_ix (ix_listK K) (pv 1) (pv 2) (fun _ _ => rfl)) (nomark _)))))
  (pss_one (ps_ret pe_bl))
  pss_nil))))
  (pss_one (ps_ret pe_bl))))), ?_⟩)
  try dsimp only [cxOf, Cx.nox, Cx.wish]
  obtain ⟨n, a, ns, rfl, ha, ri, h1000, k⟩ := h
  have nl := ri.len
  walk_at "go"
  refine for_rng1 (n := (ns.length : Nat)) (by omega) (by omega) (fun i σ' H' => H' = H ∧ ∃ u : Option V, σ' = [some (.int n), some (.ref a), u]) ?_ ?_ ?_
  · exact ⟨rfl, _, rfl⟩
  · rintro i σ' H' hi ⟨rfl, u, rfl⟩
    have il : i < ns.length := by omega
    have hx : ns[i]? = some ns[i] := List.getElem?_eq_getElem il
    have rx := ri.2 _ (List.getElem_mem il)
    walk_at "go"
    refine g_ixI ha (atI_at (by omega) (by rw [Int.toNat_natCast]; exact hx)) ?_
    walk_at "go"
    refine g_ixI ha (atI_at (by omega) (by rw [Int.toNat_natCast]; exact hx)) ?_
    walk_at "go"
    refine g_ixI ha (atI_at (by omega) (by rw [Int.toNat_natCast]; exact hx)) ?_
    walk_at "go"
    refine g_iteP rx.1 ?_
    walk_at "go"
    refine g_iteNP rx.2 ?_
    walk_at "go"
    refine g_ite (fun gt => ?_) (fun ngt => ?_)
    · have hy : ns[i - 1]? = some (ns[i - 1]'(by omega)) := List.getElem?_eq_getElem _
      have lt := List.pairwise_iff_getElem.mp ri.1 (i - 1) i (by omega) il (by omega)
      walk_at "go"
      refine g_ixI ha (atI_at (by omega) (by rw [show ((i : Int) - 1).toNat = i - 1 by omega]; exact hy)) ?_
      walk_at "go"
      refine g_ixI ha (atI_at (by omega) (by rw [Int.toNat_natCast]; exact hx)) ?_
      walk_at "go"
      refine g_iteQ (by omega) ?_
      exact ⟨rfl, _, rfl⟩
    · walk_at "go"
      exact ⟨rfl, _, rfl⟩
  · rintro σ' H' ⟨rfl, u, rfl⟩
    walk_at "go"
    exact k H' (Same.refl _)

/-! ### law_is_path, law_are_ways: of what is right -/
def sp_law_is_path (K : PySem.W.Frag) : Sp := fun vs H Q _ => ∃ (la p : Addr) (lk : List V) (n : Nat) (Es : List (Int × Int)) (w : List Int), vs = [.ref la, .ref p] ∧ H la = some (.lst lk) ∧ Paired (rInts No H) lk (links n Es) ∧ H p = some (.lst (w.map V.int)) ∧ GoodE n Es ∧ n ≤ 40 ∧ PathL n Es w ∧ ∀ H', Same H H' → Q (.bl true) H'
theorem sp_law_is_path.len {K : PySem.W.Frag} {vs : List V} {H : Hp} {Q : VK} {E : XK} (h : sp_law_is_path K vs H Q E) : vs.length = (["_law_near_here", "_law_nodes"] : List Str).length := by
  obtain ⟨la, p, lk, n, Es, w, rfl, _⟩ := h
  rfl
abbrev N_law_is_path : List Str := ["_law_near_here", "_law_nodes", "_law_k"]
theorem sc_law_is_path : FnScope N_law_is_path ["_law_near_here", "_law_nodes"] (defScope s_law_is_path) := ⟨rfl, rfl, rfl, by decide +kernel, rfl, by decide +kernel, by decide +kernel⟩
theorem ok_law_is_path {P : Program} {w : World} {K : PySem.W.Frag} {mg : Str → Option Value} {base : Heap} (W : Hd K mg) : OkD P w K mg base 1 "_law_is_path" ["_law_near_here", "_law_nodes"] (sp_law_is_path K) := by
  obtain ⟨fd, F⟩ := W.df_law_is_path
  refine okD_mk F W.mg_law_is_path (fun _ _ _ _ _ _ us hl => match us, hl with | [_, _], _ => rfl) ?_
  refine F.ok sc_law_is_path (fun vs H Q E h => sp_law_is_path.len h) (fun cdv A outer s H vs Q E hr h => ⟨_, PSs.nox ((pss_cons (ps_if (PW.pt (pw_or (pt_not (pt_val (pe_callB (call_isiK K) (by rfl) (W.fr_isinstance) (by decide +kernel) (pa_cons (pv 1) (pa_cons (pe_bltn (v := .ty "list") (by rfl) (W.fr_list) (by decide +kernel) rfl) pa_nil))))) (pw_or1 (pt_cmpR op_lt (pe_callB (call_lenK K) (by rfl) (W.fr_len) PySem.boot_len (pa_cons (pv 1) pa_nil)) pe_int (nomark _)))))
  (pss_one (ps_ret pe_bl))
  pss_nil)
  (pss_cons (ps_for PassesOwn.never rfl (pi_range1 (by rfl) (W.fr_range) (pa_cons (pe_callB (call_lenK K) (by rfl) (W.fr_len) PySem.boot_len (pa_cons (pv 1) pa_nil)) pa_nil)) (pg_name (i := 2) sc_law_is_path.nd rfl (by first | exact .inl rfl | exact .inr rfl))
  (pss_cons (ps_if (PW.pt (pw_or (pt_not (pt_val (pe_callB (call_isiK K) (by rfl) (W.fr_isinstance) (by decide +kernel) (pa_cons (pe_ix (ix_listK K) (pv 1) (pv 2) (fun _ _ => rfl)) (pa_cons (pe_bltn (v := .ty "int") (by rfl) (W.fr_int) (by decide +kernel) rfl) pa_nil))))) (pw_or (pt_val (pe_callB (call_isiK K) (by rfl) (W.fr_isinstance) (by decide +kernel) (pa_cons (pe_ix (ix_listK K) (pv 1) (pv 2) (fun _ _ => rfl)) (pa_cons (pe_bltn (v := .ty "bool") (by rfl) (W.fr_bool) (by decide +kernel) rfl) pa_nil)))) (pw_or1 (pt_not (pt_chain op_le op_lt pe_int (pe_ix (ix_listK K) (pv 1) (pv 2) (fun _ _ => rfl)) (pe_callB (call_lenK K) (by rfl) (W.fr_len) PySem.boot_len (pa_cons (pv 0) pa_nil))))))))
  (pss_one (ps_ret pe_bl))
  pss_nil)
  (pss_one (ps_if (PW.pt (pw_or (pt_cmpR (op_inK K) (pe_ix (ix_listK K) (pv 1) (pv 2) (fun _ _ => rfl)) (pe_slice (sl_listK K) (pv 1) po_none (po_some (pv 2))) (by rfl)) (pw_or1 (PW.pt (pw_and (pt_cmpR op_gt (pv 2) pe_int (nomark _)) (pw_and1 (pt_cmpR (op_ninK K) (pe_ix (ix_listK K) (pv 1) (pv 2) (fun _ _ => rfl)) (pe_ix (ix_listK K) (pv 0) (pe_ix (ix_listK K) (pv 1) (pe_op op_sub (pv 2) pe_int) (fun _ _ => rfl)) (fun _ _ => rfl)) (by rfl))))))))
  (pss_one (ps_ret pe_bl))
  pss_nil))))
  (pss_one (ps_ret pe_bl))))), ?_⟩)
  try dsimp only [cxOf, Cx.nox, Cx.wish]
  obtain ⟨la, p, lk, n, Es, w, rfl, hla, pl, hp, good, h40, W', k⟩ := h
  have wl := W'.len
  have ne := List.length_pos_iff.mpr W'.ne
  have lkl : lk.length = n := (Paired.len pl).trans (links_len n Es)
  walk_at "go"
  refine g_iteQ (by omega) ?_
  walk_at "go"
  refine for_rng1 (n := (w.length : Nat)) (by omega) (by omega) (fun i σ' H' => Same H H' ∧ ∃ u : Option V, σ' = [some (.ref la), some (.ref p), u]) ?_ ?_ ?_
  · exact ⟨Same.refl _, _, rfl⟩
  · rintro i σ' H' hi ⟨sm, u, rfl⟩
    have il : i < w.length := by omega
    obtain ⟨v, hv⟩ : ∃ v, w[i]? = some v := ⟨_, List.getElem?_eq_getElem il⟩
    have rv := W'.rg v (List.mem_of_getElem? hv)
    have hp' := sm _ _ hp
    have hla' := sm _ _ hla
    have gi : atI w (i : Nat) = some v := atI_at (by omega) (by rw [Int.toNat_natCast]; exact hv)
    walk_at "go"
    refine g_ixI hp' gi ?_
    walk_at "go"
    refine g_ixI hp' gi ?_
    walk_at "go"
    refine g_ixI hp' gi ?_
    walk_at "go"
    refine g_iteP rv.1 ?_
    walk_at "go"
    refine g_iteNP (by omega) ?_
    walk_at "go"
    refine g_ixI hp' gi ?_
    walk_at "go"
    intro c nc
    have cut : cutV (w.map V.int) none (some (i : Nat)) = (w.take i).map V.int := by
      rw [cut_to (by rw [List.length_map]; omega), ← List.map_take]
    rw [cut]
    have s2 := Same.new (o := .lst ((w.take i).map V.int)) sm nc
    have hp2 := s2 _ _ hp
    have hla2 := s2 _ _ hla
    have hc : upd H' c (.lst ((w.take i).map V.int)) c = some (.lst ((w.take i).map V.int)) := upd_same
    generalize upd H' c (.lst ((w.take i).map V.int)) = H2 at s2 hp2 hla2 hc ⊢
    walk_at "go"
    have nin : v ∉ w.take i := fun z => by
      obtain ⟨j, hj, e⟩ := List.mem_iff_getElem.mp z
      rw [List.length_take] at hj
      rw [List.getElem_take] at e
      have e2 := (List.getElem?_eq_some_iff.mp hv).2
      have := (List.getElem_inj W'.nd).mp (e.trans e2.symm)
      omega
    refine g_iteQ nin ?_
    walk_at "go"
    refine g_ite (fun gt => ?_) (fun ngt => ?_)
    · obtain ⟨q, hq⟩ : ∃ q, w[i - 1]? = some q := ⟨w[i - 1]'(by omega), List.getElem?_eq_getElem _⟩
      have aq : Adj Es q v := W'.ch (i - 1) q v hq (by rw [show i - 1 + 1 = i by omega]; exact hv)
      have rq := good.at aq
      obtain ⟨y, hy, ⟨b, rfl, _, hb⟩⟩ := Paired.get' pl (links_get (n := n) (E := Es) (v := q.toNat) (by omega))
      have cq : ((q.toNat : Nat) : Int) = q := by omega
      rw [cq] at hb
      have hb2 := s2 _ _ hb
      walk_at "go"
      refine g_ixI hp2 gi ?_
      walk_at "go"
      refine g_ixI hp2 (atI_at (by omega) (by rw [show ((i : Int) - 1).toNat = i - 1 by omega]; exact hq)) ?_
      refine g_ix hla2 (atI_at rq.1 hy) ?_
      walk_at "go"
      refine g_iteQ (fun z => z ((mem_nb good).mpr aq)) ?_
      exact ⟨s2, _, rfl⟩
    · walk_at "go"
      exact ⟨s2, _, rfl⟩
  · rintro σ' H' ⟨sm, u, rfl⟩
    walk_at "go"
    exact k H' sm
theorem Way.pathO {n : Nat} {Es : List (Int × Int)} {S A B w : List Int} (W : Way n (outE Es S) A B w) : PathL n Es w := ⟨W.rg, W.nd, fun i x y h1 h2 => (outE_adj.mp (W.ch i x y h1 h2)).1, W.path.ne⟩
def sp_law_are_ways (K : PySem.W.Frag) : Sp := fun vs H Q _ => ∃ (la fa fb fr : Addr) (wl : V) (lk : List V) (n : Nat) (Es : List (Int × Int)) (S A B : List Int) (ws : List (List Int)), vs = [.ref la, .ref fa, .ref fb, .ref fr, wl] ∧ H la = some (.lst lk) ∧ Paired (rInts No H) lk (links n Es) ∧
  H fa = some (.lst (A.map V.int)) ∧ H fb = some (.lst (B.map V.int)) ∧ H fr = some (.lst ((outside n S).map V.int)) ∧ rLst rInts No H wl ws ∧ GoodE n Es ∧ n ≤ 40 ∧ (∀ a ∈ A, a ∉ S) ∧
  (∀ w ∈ ws, Way n (outE Es S) A B w) ∧ ws.Pairwise Off ∧ ws.length ≤ 40 ∧ ∀ H', Same H H' → Q (.bl true) H'
theorem sp_law_are_ways.len {K : PySem.W.Frag} {vs : List V} {H : Hp} {Q : VK} {E : XK} (h : sp_law_are_ways K vs H Q E) : vs.length = (["_law_near_here", "_law_border", "_law_far", "_law_free", "_law_ways"] : List Str).length := by
  obtain ⟨la, fa, fb, fr, wl, lk, n, Es, S, A, B, ws, rfl, _⟩ := h
  rfl
theorem Way.free {n : Nat} {Es : List (Int × Int)} {S A B w : List Int} (W : Way n (outE Es S) A B w) (h : ∀ a ∈ A, a ∉ S) : ∀ x ∈ w, x ∈ outside n S := by
  intro x hx
  refine mem_outside.mpr ⟨W.rg x hx, ?_⟩
  obtain ⟨i, hi⟩ := List.mem_iff_getElem?.mp hx
  obtain ⟨y, r, e, yA, _⟩ := W.fst
  cases i with
  | zero =>
    rw [e] at hi
    simp at hi
    rw [← hi]
    exact h y yA
  | succ i =>
    obtain ⟨z, hz⟩ : ∃ z, w[i]? = some z := ⟨w[i]'(by have := (List.getElem?_eq_some_iff.mp hi).1; omega), List.getElem?_eq_getElem _⟩
    exact (outE_adj.mp (W.ch i z x hz hi)).2.2
abbrev N_law_are_ways : List Str := ["_law_near_here", "_law_border", "_law_far", "_law_free", "_law_ways", "_law_used", "_law_way", "_law_k"]
theorem sc_law_are_ways : FnScope N_law_are_ways ["_law_near_here", "_law_border", "_law_far", "_law_free", "_law_ways"] (defScope s_law_are_ways) := ⟨rfl, rfl, rfl, by decide +kernel, rfl, by decide +kernel, by decide +kernel⟩
theorem ok_law_are_ways {P : Program} {w : World} {K : PySem.W.Frag} {mg : Str → Option Value} {base : Heap} (W : Hd K mg) : OkD P w K mg base 2 "_law_are_ways" ["_law_near_here", "_law_border", "_law_far", "_law_free", "_law_ways"] (sp_law_are_ways K) := by
  obtain ⟨fd, F⟩ := W.df_law_are_ways
  refine okD_mk F W.mg_law_are_ways (fun _ _ _ _ _ _ us hl => match us, hl with | [_, _, _, _, _], _ => rfl) ?_
  refine F.ok sc_law_are_ways (fun vs H Q E h => sp_law_are_ways.len h) (fun cdv A outer s H vs Q E hr h => ⟨_, PSs.nox ((pss_cons (ps_set (i := 5) sc_law_are_ways.nd rfl (by first | exact .inl rfl | exact .inr rfl) (pe_lst pa_nil))
  (pss_cons (ps_if (pt_not (pt_val (pe_callB (call_isiK K) (by rfl) (W.fr_isinstance) (by decide +kernel) (pa_cons (pv 4) (pa_cons (pe_bltn (v := .ty "list") (by rfl) (W.fr_list) (by decide +kernel) rfl) pa_nil)))))
  (pss_one (ps_ret pe_bl))
  pss_nil)
  (pss_cons (ps_for PassesOwn.never rfl (pi_list (pv 4)) (pg_name (i := 6) sc_law_are_ways.nd rfl (by first | exact .inl rfl | exact .inr rfl))
  (pss_cons (ps_if (pt_not (pt_val (pe_callD (ok_law_is_path W) (hr.mono (by decide)) (pa_cons (pv 0) (pa_cons (pv 6) pa_nil)))))
  (pss_one (ps_ret pe_bl))
  pss_nil)
  (pss_cons (ps_for PassesOwn.never rfl (pi_range1 (by rfl) (W.fr_range) (pa_cons (pe_callB (call_lenK K) (by rfl) (W.fr_len) PySem.boot_len (pa_cons (pv 6) pa_nil)) pa_nil)) (pg_name (i := 7) sc_law_are_ways.nd rfl (by first | exact .inl rfl | exact .inr rfl))
  (pss_cons (ps_if (PW.pt (pw_or (pt_cmpR (op_inK K) (pe_ix (ix_listK K) (pv 6) (pv 7) (fun _ _ => rfl)) (pv 5) (by rfl)) (pw_or1 (pt_cmpR (op_ninK K) (pe_ix (ix_listK K) (pv 6) (pv 7) (fun _ _ => rfl)) (pv 3) (by rfl)))))
  (pss_one (ps_ret pe_bl))
  pss_nil)
  (pss_one (ps_if (PW.pt (pw_or (PW.pt (pw_and (pt_cmpR op_gt (pv 7) pe_int (nomark _)) (pw_and1 (pt_cmpR (op_inK K) (pe_ix (ix_listK K) (pv 6) (pv 7) (fun _ _ => rfl)) (pv 1) (by rfl))))) (pw_or1 (PW.pt (pw_and (pt_cmpR op_lt (pv 7) (pe_op op_sub (pe_callB (call_lenK K) (by rfl) (W.fr_len) PySem.boot_len (pa_cons (pv 6) pa_nil)) pe_int) (nomark _)) (pw_and1 (pt_cmpR (op_inK K) (pe_ix (ix_listK K) (pv 6) (pv 7) (fun _ _ => rfl)) (pv 2) (by rfl))))))))
  (pss_one (ps_ret pe_bl))
  pss_nil))))
  (pss_cons (ps_if (PW.pt (pw_or (pt_cmpR (op_ninK K) (pe_ix (ix_listK K) (pv 6) pe_int (fun _ _ => rfl)) (pv 1) (by rfl)) (pw_or1 (pt_cmpR (op_ninK K) (pe_ix (ix_listK K) (pv 6) (pe_op op_sub (pe_callB (call_lenK K) (by rfl) (W.fr_len) PySem.boot_len (pa_cons (pv 6) pa_nil)) pe_int) (fun _ _ => rfl)) (pv 2) (by rfl)))))
  (pss_one (ps_ret pe_bl))
  pss_nil)
  (pss_one (ps_set (i := 5) sc_law_are_ways.nd rfl (by first | exact .inl rfl | exact .inr rfl) (pe_op op_cat (pv 5) (pv 6))))))))
  (pss_one (ps_ret pe_bl)))))), ?_⟩)
  try dsimp only [cxOf, Cx.nox, Cx.wish]
  obtain ⟨la, fa, fb, fr, wv, lk, n, Es, S, A, B, ws, rfl, hla, pl, ha, hb, hf, ⟨vs, ⟨q, rfl, _, hq⟩, pw⟩, good, h40, AS, Wy, ap, l40, k⟩ := h
  walk_at "go"
  intro U nU
  have s0 : Same H (upd H U (.lst [])) := Same.new (Same.refl _) nU
  have hq0 := s0 _ _ hq
  walk_at "go"
  refine for_rep (R := rInts No H) (h := hq0) (pr := pw) (fun pre σ' H' => Same H H' ∧ ∃ (p : Addr) (u v : Option V), σ' = [some (.ref la), some (.ref fa), some (.ref fb), some (.ref fr), some (.ref q), some (.ref p), u, v] ∧ H' p = some (.lst (pre.flatten.map V.int))) ?_ ?_ ?_ ?_
  · exact ⟨s0, U, _, _, rfl, upd_same⟩
  · rintro pre σ' H' _ ⟨sm, _⟩
    exact sm _ _ hq
  · rintro pre x w post σ' H' ew ⟨p, rfl, _, hp⟩ ⟨sm, P, u, v, rfl, hP⟩
    have Ww := Wy w (by rw [ew]; simp)
    have wl := Ww.pathO.len
    have pl' : Paired (rInts No H') lk (links n Es) := L2.Paired.mapP pl fun _ _ z => rInts.frm.mv (.same sm) z
    walk_at "go"
    refine ⟨la, p, lk, n, Es, w, rfl, sm _ _ hla, pl', sm _ _ hp, good, h40, Ww.pathO, fun H2 s2 => ?_⟩
    have hP2 := s2 _ _ hP
    have sm2 := Same.trans sm s2
    have hp2 := sm2 _ _ hp
    have ha2 := sm2 _ _ ha
    have hb2 := sm2 _ _ hb
    have hf2 := sm2 _ _ hf
    obtain ⟨x0, r, e1, xA, nA⟩ := Ww.fst
    obtain ⟨ys, z, e2, zB, nB⟩ := Ww.lst
    walk_at "go"
    refine for_rng1 (n := (w.length : Nat)) (by omega) (by omega) (fun i σ' H3 => H3 = H2 ∧ ∃ u : Option V, σ' = [some (.ref la), some (.ref fa), some (.ref fb), some (.ref fr), some (.ref q), some (.ref P), some (.ref p), u]) ?_ ?_ ?_
    · exact ⟨rfl, _, rfl⟩
    · rintro i σ' H3 hi ⟨rfl, u, rfl⟩
      have il : i < w.length := by omega
      obtain ⟨y, hy⟩ : ∃ y, w[i]? = some y := ⟨_, List.getElem?_eq_getElem il⟩
      have my := List.mem_of_getElem? hy
      have gi : atI w (i : Nat) = some y := atI_at (by omega) (by rw [Int.toNat_natCast]; exact hy)
      walk_at "go"
      refine g_ixI hp2 gi ?_
      walk_at "go"
      refine g_iteQ (fun zz => ?_) ?_
      · obtain ⟨w', hw', hy'⟩ := List.mem_flatten.mp zz
        rw [ew] at ap
        exact (List.pairwise_append.mp ap).2.2 w' hw' w List.mem_cons_self y hy' my
      walk_at "go"
      refine g_ixI hp2 gi ?_
      walk_at "go"
      refine g_iteQ (fun zz => zz (Ww.free AS y my)) ?_
      walk_at "go"
      have part2 : ¬ ((i : Int) < (w.length : Nat) - 1 ∧ y ∈ B) := by
        rintro ⟨h1, h2⟩
        have : y ∈ ys := by
          rw [e2] at hy il h1
          simp at il h1
          rw [List.getElem?_append_left (by omega)] at hy
          exact List.mem_of_getElem? hy
        exact nB y this h2
      have fin : (if decide ((i : Int) < (w.length : Nat) - 1) = true then (if decide (y ∈ B) = true then False else True) else True) := by
        refine g_ite (fun h1 => ?_) fun _ => trivial
        exact g_iteQ (fun h2 => part2 ⟨h1, h2⟩) trivial
      refine g_ite (fun gt => ?_) (fun ngt => ?_)
      · walk_at "go"
        refine g_ixI hp2 gi ?_
        walk_at "go"
        refine g_iteQ (fun h2 => ?_) ?_
        · have : y ∈ r := by
            rw [e1] at hy
            obtain ⟨j, rfl⟩ : ∃ j, i = j + 1 := ⟨i - 1, by omega⟩
            simp at hy
            exact List.mem_of_getElem? hy
          exact nA y this h2
        walk_at "go"
        refine g_ite (fun h1 => ?_) (fun h1 => ?_)
        · walk_at "go"
          refine g_ixI hp2 gi ?_
          walk_at "go"
          refine g_iteQ (fun h2 => part2 ⟨h1, h2⟩) ?_
          exact ⟨rfl, _, rfl⟩
        · walk_at "go"
          exact ⟨rfl, _, rfl⟩
      · walk_at "go"
        refine g_ite (fun h1 => ?_) (fun h1 => ?_)
        · walk_at "go"
          refine g_ixI hp2 gi ?_
          walk_at "go"
          refine g_iteQ (fun h2 => part2 ⟨h1, h2⟩) ?_
          exact ⟨rfl, _, rfl⟩
        · walk_at "go"
          exact ⟨rfl, _, rfl⟩
    · rintro σ' H3 ⟨rfl, u, rfl⟩
      walk_at "go"
      refine g_ixI hp2 (atI_at (by omega) (by rw [e1]; rfl)) ?_
      walk_at "go"
      refine g_iteQ (fun zz => zz xA) ?_
      walk_at "go"
      refine g_ixI hp2 (n := z) (atI_at (by rw [e2]; simp) (by rw [show (((w.length : Nat) : Int) - 1).toNat = w.length - 1 by omega, e2]; simp)) ?_
      walk_at "go"
      refine g_iteQ (fun zz => zz zB) ?_
      walk_at "go"
      have fl := flat_len (ps := ws) (m := 40) fun w hw => Nat.le_trans (Wy w hw).path.len h40
      have fl2 : (pre ++ [w]).flatten.length ≤ ws.flatten.length := by
        rw [ew]
        simp
      rw [List.flatten_append, List.length_append] at fl2
      simp only [List.flatten_cons, List.flatten_nil, List.append_nil] at fl2
      have : ws.length * 40 ≤ 40 * 40 := Nat.mul_le_mul_right 40 l40
      refine g_cat hP2 hp2 (size_le (by rw [List.length_map, List.length_map]; omega)) fun p3 np3 => ?_
      walk_at "go"
      refine ⟨Same.new sm2 np3, p3, _, _, rfl, ?_⟩
      rw [List.flatten_append]
      simp
      exact upd_same
  · rintro σ' H' ⟨sm, P, u, v, rfl, hP⟩
    walk_at "go"
    exact k H' sm

/-! ### law_two -/
theorem lkp_app {m0 rest : List (Int × Int)} {x c : Int} (h : lkp m0 x = some c) : lkp (m0 ++ rest) x = some c := by
  unfold lkp at h ⊢
  rw [List.find?_append]
  cases e : m0.find? (fun p => decide (p.1 = x)) with
  | none => rw [e] at h; cases h
  | some p => rw [e] at h; exact h
theorem lkp_app_none {m0 rest : List (Int × Int)} {x : Int} (h : lkp m0 x = none) : lkp (m0 ++ rest) x = lkp rest x := by
  unfold lkp at h ⊢
  rw [List.find?_append]
  cases e : m0.find? (fun p => decide (p.1 = x)) with
  | none => rfl
  | some p => rw [e] at h; cases h
section
variable {n : Nat} {Es : List (Int × Int)} {S : List Int}
structure TwO (n : Nat) (Es : List (Int × Int)) (S : List Int) (m : List (Int × Int)) : Prop where
  nd : (m.map (·.1)).Nodup
  sub : ∀ x, lkp m x ≠ none → x ∈ outside n S
  val : ∀ x c, lkp m x = some c → c = 0 ∨ c = 1
  cl : ∀ x c, lkp m x = some c → ∀ y, Adj (outE Es S) x y → ∃ c', lkp m y = some c' ∧ c' ≠ c
  root : ∀ x, lkp m x ≠ none → ∃ r, Conn (Adj (outE Es S)) r x ∧ lkp m r = some 0 ∧ ∀ u, Conn (Adj (outE Es S)) r u → r ≤ u
theorem TwO.nil : TwO n Es S [] := ⟨by simp, fun x h => absurd rfl h, fun x c h => by simp [lkp] at h, fun x c h => by simp [lkp] at h, fun x h => absurd rfl h⟩
theorem TwO.len {m : List (Int × Int)} (T : TwO n Es S m) : m.length ≤ n := by
  have := nd_len T.nd fun x hx => (outside_rising n S).2 x (T.sub x (lkp_in.mp hx))
  rw [List.length_map] at this
  exact this
theorem TwO.conn {m : List (Int × Int)} (T : TwO n Es S m) {x y : Int} (h : Conn (Adj (outE Es S)) x y) (hx : lkp m x ≠ none) : lkp m y ≠ none := by
  induction h with
  | refl => exact hx
  | step _ a ih =>
    obtain ⟨c, hc⟩ := Option.ne_none_iff_exists'.mp ih
    obtain ⟨c', h', _⟩ := T.cl _ c hc _ a
    rw [h']
    simp
structure TwI (n : Nat) (Es : List (Int × Int)) (S : List Int) (m0 : List (Int × Int)) (v : Int) (m : List (Int × Int)) (q : List Int) (at_ : Nat) : Prop where
  app : ∃ rest, m = m0 ++ rest ∧ rest.map (·.1) = q
  nd : (m.map (·.1)).Nodup
  sub : ∀ x ∈ q, x ∈ outside n S ∧ Conn (Adj (outE Es S)) v x
  val : ∀ x c, lkp m x = some c → c = 0 ∨ c = 1
  st : lkp m v = some 0
  vq : v ∈ q
  par : ∀ c : Int → Bool, (∀ u w, Adj (outE Es S) u w → c u ≠ c w) → ∀ x ∈ q, ∀ k, lkp m x = some k → (c x = c v ↔ k = 0)
  done : ∀ (i : Nat) x, i < at_ → q[i]? = some x → ∀ k, lkp m x = some k → ∀ y, Adj (outE Es S) x y → ∃ k', lkp m y = some k' ∧ k' ≠ k
theorem TwI.mem {m0 m : List (Int × Int)} {v : Int} {q : List Int} {a : Nat} (I : TwI n Es S m0 v m q a) {x : Int} (h : lkp m x ≠ none) : lkp m0 x ≠ none ∨ x ∈ q := by
  obtain ⟨rest, e, eq⟩ := I.app
  have := lkp_in.mpr h
  rw [e, List.map_append] at this
  rcases List.mem_append.mp this with h | h
  · exact .inl (lkp_in.mp h)
  · exact .inr (eq ▸ h)
theorem TwI.has {m0 m : List (Int × Int)} {v : Int} {q : List Int} {a : Nat} (I : TwI n Es S m0 v m q a) {x : Int} (h : x ∈ q) : lkp m x ≠ none := by
  obtain ⟨rest, e, eq⟩ := I.app
  refine lkp_in.mp ?_
  rw [e, List.map_append]
  exact List.mem_append_right _ (eq ▸ h)
theorem TwI.ql {m0 m : List (Int × Int)} {v : Int} {q : List Int} {a : Nat} (I : TwI n Es S m0 v m q a) : q.length ≤ n := by
  obtain ⟨rest, e, eq⟩ := I.app
  have := I.nd
  rw [e, List.map_append, eq] at this
  exact nd_len (List.nodup_append.mp this).2.1 fun x hx => (outside_rising n S).2 x (I.sub x hx).1
theorem TwI.ml {m0 m : List (Int × Int)} {v : Int} {q : List Int} {a : Nat} (T : TwO n Es S m0) (I : TwI n Es S m0 v m q a) : m.length ≤ n := by
  have := nd_len I.nd fun x hx => (outside_rising n S).2 x (by
    rcases I.mem (lkp_in.mp hx) with h | h
    · exact T.sub x h
    · exact (I.sub x h).1)
  rw [List.length_map] at this
  exact this
theorem TwI.start {m0 : List (Int × Int)} {v : Int} (T : TwO n Es S m0) (hv : v ∈ outside n S) (nv : lkp m0 v = none) : TwI n Es S m0 v (m0 ++ [(v, 0)]) [v] 0 := by
  have l := lkp_snoc m0 v 0
  refine ⟨⟨_, rfl, rfl⟩, ?_, fun x hx => ?_, fun x c h => ?_, by rw [l v nv, if_pos rfl], by simp, fun c hc x hx k hk => ?_, fun i x h => by omega⟩
  · rw [List.map_append]
    exact nd_snoc T.nd (lkp_none.mp nv)
  · rw [List.mem_singleton.mp hx]
    exact ⟨hv, .refl⟩
  · rw [l x nv] at h
    split at h
    · cases h
      exact .inl rfl
    · exact T.val x c h
  · rw [List.mem_singleton.mp hx, l v nv, if_pos rfl] at hk
    cases hk
    rw [List.mem_singleton.mp hx]
    simp
theorem TwI.push {m0 m : List (Int × Int)} {v : Int} {q : List Int} {a : Nat} (I : TwI n Es S m0 v m q a) (good : GoodE n Es) {x u k : Int} (hx : x ∈ q) (hk : lkp m x = some k) (ad : Adj (outE Es S) x u) (nu : lkp m u = none) (le : a ≤ q.length) : TwI n Es S m0 v (m ++ [(u, 1 - k)]) (q ++ [u]) a := by
  obtain ⟨rest, e, eq⟩ := I.app
  have l := fun j => lkp_snoc m u (1 - k) j nu
  have old : ∀ {y c}, lkp m y = some c → lkp (m ++ [(u, 1 - k)]) y = some c := fun h => lkp_app h
  have kv := I.val x k hk
  refine ⟨⟨rest ++ [(u, 1 - k)], by rw [e, List.append_assoc], by rw [List.map_append, eq]; rfl⟩, ?_, fun y hy => ?_, fun y c h => ?_, old I.st, List.mem_append_left _ I.vq, fun c hc y hy j hj => ?_, fun i y hi hy j hj z az => ?_⟩
  · rw [List.map_append]
    exact nd_snoc I.nd (lkp_none.mp nu)
  · rcases List.mem_append.mp hy with hy | hy
    · exact I.sub y hy
    · rw [List.mem_singleton.mp hy]
      exact ⟨(out_mem good ad).2, .step (I.sub x hx).2 ad⟩
  · rw [l y] at h
    split at h
    · cases h
      omega
    · exact I.val y c h
  · rcases List.mem_append.mp hy with hy | hy
    · obtain ⟨j', hj'⟩ := Option.ne_none_iff_exists'.mp (I.has hy)
      rw [old hj'] at hj
      cases hj
      exact I.par c hc y hy _ hj'
    · rw [List.mem_singleton.mp hy, l u, if_pos rfl] at hj
      cases hj
      rw [List.mem_singleton.mp hy]
      have p := I.par c hc x hx k hk
      have ne := hc x u ad
      rcases kv with rfl | rfl
      · have := p.mpr rfl
        constructor
        · intro z
          exact absurd (this.trans z.symm) ne
        · intro z
          omega
      · have h1 : ¬ c x = c v := fun z => by have := p.mp z; omega
        refine ⟨fun _ => by omega, fun _ => ?_⟩
        cases q1 : c x <;> cases q2 : c u <;> cases q3 : c v <;> simp [q1, q2, q3] at h1 ne ⊢
  · have hi2 : i < q.length := by omega
    rw [List.getElem?_append_left hi2] at hy
    obtain ⟨j', hj'⟩ := Option.ne_none_iff_exists'.mp (I.has (List.mem_of_getElem? hy))
    rw [old hj'] at hj
    cases hj
    obtain ⟨k', h1, h2⟩ := I.done i y hi hy _ hj' z az
    exact ⟨k', old h1, h2⟩
theorem TwI.close {m0 m : List (Int × Int)} {v : Int} {q : List Int} {a : Nat} (T : TwO n Es S m0) (I : TwI n Es S m0 v m q a) (le : q.length ≤ a) (mn : ∀ u, Conn (Adj (outE Es S)) v u → v ≤ u) : TwO n Es S m := by
  obtain ⟨rest, e, eq⟩ := I.app
  have old : ∀ {y c}, lkp m0 y = some c → lkp m y = some c := fun h => by rw [e]; exact lkp_app h
  refine ⟨I.nd, fun x hx => ?_, I.val, fun x c hc y ad => ?_, fun x hx => ?_⟩
  · rcases I.mem hx with h | h
    · exact T.sub x h
    · exact (I.sub x h).1
  · rcases I.mem (x := x) (by rw [hc]; simp) with h | h
    · obtain ⟨c0, h0⟩ := Option.ne_none_iff_exists'.mp h
      rw [old h0] at hc
      cases hc
      obtain ⟨c', h1, h2⟩ := T.cl x _ h0 y ad
      exact ⟨c', old h1, h2⟩
    · obtain ⟨i, hi⟩ := List.mem_iff_getElem?.mp h
      exact I.done i x (by have := (List.getElem?_eq_some_iff.mp hi).1; omega) hi c hc y ad
  · rcases I.mem hx with h | h
    · obtain ⟨r, h1, h2, h3⟩ := T.root x h
      exact ⟨r, h1, old h2, h3⟩
    · exact ⟨v, (I.sub x h).2, I.st, mn⟩
/-- two of one colour are joined: no two colours will do -/
theorem TwI.clash {m0 m : List (Int × Int)} {v : Int} {q : List Int} {a : Nat} (T : TwO n Es S m0) (I : TwI n Es S m0 v m q a) {x u k : Int} (hx : x ∈ q) (hk : lkp m x = some k) (ad : Adj (outE Es S) x u) (hu : lkp m u = some k) : ¬ Bip (Adj (outE Es S)) := by
  rintro ⟨c, hc⟩
  have nx : lkp m0 x = none := Classical.byContradiction fun z => by
    obtain ⟨rest, e, eq⟩ := I.app
    have := I.nd
    rw [e, List.map_append, eq] at this
    exact (List.nodup_append.mp this).2.2 x (lkp_in.mpr z) x hx rfl
  have mu : u ∈ q := by
    rcases I.mem (x := u) (by rw [hu]; simp) with h | h
    · exact absurd nx (T.conn (.step .refl ad.symm) h)
    · exact h
  have p1 := I.par c hc x hx k hk
  have p2 := I.par c hc u mu k hu
  have ne := hc x u ad
  rcases I.val x k hk with rfl | rfl
  · exact ne ((p1.mpr rfl).trans (p2.mpr rfl).symm)
  · have h1 : ¬ c x = c v := fun z => by have := p1.mp z; omega
    have h2 : ¬ c u = c v := fun z => by have := p2.mp z; omega
    cases q1 : c x <;> cases q2 : c u <;> cases q3 : c v <;> simp [q1, q2, q3] at h1 h2 ne
theorem TwO.canon {m : List (Int × Int)} (good : GoodE n Es) (T : TwO n Es S m) (all : ∀ v ∈ outside n S, lkp m v ≠ none) : Canon (Adj (outE Es S)) (fun v => v ∈ outside n S) (fun v => (lkp m v).getD 0) := by
  have key : ∀ v ∈ outside n S, ∃ c, lkp m v = some c := fun v hv => Option.ne_none_iff_exists'.mp (all v hv)
  refine ⟨fun u v a => ?_, fun v hv => ?_, fun v hv => ?_⟩
  · obtain ⟨mu, mv⟩ := out_mem good a
    obtain ⟨c, hc⟩ := key u mu
    obtain ⟨c', h1, h2⟩ := T.cl u c hc v a
    rw [hc, h1]
    exact fun z => h2 z.symm
  · obtain ⟨c, hc⟩ := key v hv
    rw [hc]
    exact T.val v c hc
  · obtain ⟨r, h1, h2, h3⟩ := T.root v (all v hv)
    exact ⟨r, T.sub r (by rw [h2]; simp), h1, by rw [h2]; rfl, h3⟩
end
def sp_law_two (K : PySem.W.Frag) : Sp := fun vs H Q _ => ∃ (la fa : Addr) (lk : List V) (n : Nat) (Es : List (Int × Int)) (S : List Int), vs = [.ref la, .ref fa] ∧ H la = some (.lst lk) ∧ Paired (rInts No H) lk (links n Es) ∧ H fa = some (.lst ((outside n S).map V.int)) ∧ GoodE n Es ∧ n ≤ 40 ∧
  (Bip (Adj (outE Es S)) → ∀ H' d m, Same H H' → H d = none → H' d = some (.dK (dI m)) → (m.map (·.1)).Nodup → (∀ v, v ∈ m.map (·.1) ↔ v ∈ outside n S) → Canon (Adj (outE Es S)) (fun v => v ∈ outside n S) (fun v => (lkp m v).getD 0) → Q (.ref d) H') ∧
  (¬ Bip (Adj (outE Es S)) → ∀ H', Same H H' → Q .non H')
theorem sp_law_two.len {K : PySem.W.Frag} {vs : List V} {H : Hp} {Q : VK} {E : XK} (h : sp_law_two K vs H Q E) : vs.length = (["_law_near_here", "_law_allowed"] : List Str).length := by
  obtain ⟨la, fa, lk, n, Es, S, rfl, _⟩ := h
  rfl
abbrev N_law_two : List Str := ["_law_near_here", "_law_allowed", "_law_colours", "_law_v", "_law_queue", "_law_at", "_law_u"]
theorem sc_law_two : FnScope N_law_two ["_law_near_here", "_law_allowed"] (defScope s_law_two) := ⟨rfl, rfl, rfl, by decide +kernel, rfl, by decide +kernel, by decide +kernel⟩
theorem ok_law_two {P : Program} {w : World} {K : PySem.W.Frag} {mg : Str → Option Value} {base : Heap} (W : Hd K mg) : OkD P w K mg base 1 "_law_two" ["_law_near_here", "_law_allowed"] (sp_law_two K) := by
  obtain ⟨fd, F⟩ := W.df_law_two
  refine okD_mk F W.mg_law_two (fun _ _ _ _ _ _ us hl => match us, hl with | [_, _], _ => rfl) ?_
  refine F.ok sc_law_two (fun vs H Q E h => sp_law_two.len h) (fun cdv A outer s H vs Q E hr h => ⟨_, PSs.nox ((pss_cons (ps_set (i := 2) sc_law_two.nd rfl (by first | exact .inl rfl | exact .inr rfl) pe_dnewK)
  (pss_cons (ps_for PassesOwn.never rfl (pi_list (pv 1)) (pg_name (i := 3) sc_law_two.nd rfl (by first | exact .inl rfl | exact .inr rfl))
  (pss_one (ps_if (pt_cmp (pc_dnotin (hu_of hr) (pv 3) (pv 2)) (by rfl))
  (pss_cons (ps_dput (hu_of hr) (pv 2) (pv 3) pe_int rfl)
  (pss_cons (ps_set (i := 4) sc_law_two.nd rfl (by first | exact .inl rfl | exact .inr rfl) (pe_lst (pa_cons (pv 3) pa_nil)))
  (pss_one (ps_for PassesOwn.never rfl (pi_range1 (by rfl) (W.fr_range) (pa_cons (pe_callB (call_lenK K) (by rfl) (W.fr_len) PySem.boot_len (pa_cons (pv 0) pa_nil)) pa_nil)) (pg_name (i := 5) sc_law_two.nd rfl (by first | exact .inl rfl | exact .inr rfl))
  (pss_one (ps_if (pt_cmpR op_lt (pv 5) (pe_callB (call_lenK K) (by rfl) (W.fr_len) PySem.boot_len (pa_cons (pv 4) pa_nil)) (nomark _))
  (pss_one (ps_for PassesOwn.never rfl (pi_list (pe_ix (ix_listK K) (pv 0) (pe_ix (ix_listK K) (pv 4) (pv 5) (fun _ _ => rfl)) (fun _ _ => rfl))) (pg_name (i := 6) sc_law_two.nd rfl (by first | exact .inl rfl | exact .inr rfl))
  (pss_one (ps_if (PW.pt (pw_and (pt_cmpR (op_inK K) (pv 6) (pv 1) (by rfl)) (pw_and1 (pt_cmp (pc_dnotin (hu_of hr) (pv 6) (pv 2)) (by rfl)))))
  (pss_cons (ps_dput (hu_of hr) (pv 2) (pv 6) (pe_op op_sub pe_int (pe_dget (hu_of hr) (pv 2) (pe_ix (ix_listK K) (pv 4) (pv 5) (fun _ _ => rfl)) (fun _ _ => rfl))) rfl)
  (pss_one (ps_expr (pe_bmK K PySem.F.plainAttrs_list PySem.F.slot_list_append PySem.F.type_list_append mt_append (pv 4) (pa_cons (pv 6) pa_nil)))))
  (pss_one (ps_if (PW.pt (pw_and (pt_cmpR (op_inK K) (pv 6) (pv 1) (by rfl)) (pw_and1 (pt_cmpR op_eq (pe_dget (hu_of hr) (pv 2) (pv 6) (fun _ _ => rfl)) (pe_dget (hu_of hr) (pv 2) (pe_ix (ix_listK K) (pv 4) (pv 5) (fun _ _ => rfl)) (fun _ _ => rfl)) (nomark _)))))
  (pss_one (ps_ret pe_non))
  pss_nil))))))
  pss_nil))))))
  pss_nil)))
  (pss_one (ps_ret (pv 2)))))), ?_⟩)
  try dsimp only [cxOf, Cx.nox, Cx.wish]
  obtain ⟨la, fa, lk, n, Es, S, rfl, hla, pl, hf, good, h40, kB, kN⟩ := h
  have lkl : lk.length = n := (Paired.len pl).trans (links_len n Es)
  walk_at "go"
  intro d nd
  have s0 : Same H (upd H d (.dK (dI []))) := Same.new (Same.refl _) nd
  have hf0 := s0 _ _ hf
  walk_at "go"
  refine for_ints (ns := outside n S) hf0 (fun pre σ' H' => Same H H' ∧ (∃ w1 w2 w3 w4 : Option V, σ' = [some (.ref la), some (.ref fa), some (.ref d), w1, w2, w3, w4]) ∧ ∃ m, H' d = some (.dK (dI m)) ∧ TwO n Es S m ∧ ∀ x ∈ pre, lkp m x ≠ none) ?_ ?_ ?_ ?_
  · exact ⟨s0, ⟨_, _, _, _, rfl⟩, [], upd_same, TwO.nil, by simp⟩
  · rintro pre σ' H' _ ⟨sm, _⟩
    exact sm _ _ hf
  · rintro pre v post σ' H1 e ⟨sm, ⟨w1, w2, w3, w4, rfl⟩, m0, hd, T, P⟩
    have mv : v ∈ outside n S := by rw [e]; simp
    have tl := T.len
    walk_at "go"
    refine g_iteNS (fun c hc => ?_) (fun nv => ?_)
    · walk_at "go"
      refine ⟨sm, ⟨_, _, _, _, rfl⟩, m0, hd, T, fun x hx => ?_⟩
      rcases List.mem_append.mp hx with hx | hx
      · exact P x hx
      · rw [List.mem_singleton.mp hx, hc]
        simp
    have mn : ∀ u, Conn (Adj (outE Es S)) v u → v ≤ u := fun u hu => by
      refine Classical.byContradiction fun z => ?_
      have mu : u ∈ outside n S := by
        cases hu with
        | refl => exact mv
        | step _ a => exact (out_mem good a).2
      have up : u ∈ pre := by
        rw [e] at mu
        have r := (outside_rising n S).1
        rw [e] at r
        rcases List.mem_append.mp mu with h | h
        · exact h
        · rcases List.mem_cons.mp h with h | h
          · omega
          · have := (List.pairwise_cons.mp (List.pairwise_append.mp r).2.1).1 u h
            omega
      exact T.conn (hu.symm fun _ _ a => a.symm) (P u up) nv
    walk_at "go"
    refine g_rdput hd (by omega) ?_
    rw [putI_new _ nv]
    have s1 : Same H (upd H1 d (.dK (dI (m0 ++ [(v, 0)])))) := Same.mut sm nd
    walk_at "go"
    intro D nD
    have ndD : d ≠ D := (new_ne nD).symm
    have nD0 := s1.free nD
    walk_at "go"
    refine for_rng1 (n := (lk.length : Nat)) (by omega) (by omega) (fun i σ' H' => Same H H' ∧ (∃ w3 w4 : Option V, σ' = [some (.ref la), some (.ref fa), some (.ref d), some (.int v), some (.ref D), w3, w4]) ∧ ∃ m q, H' d = some (.dK (dI m)) ∧ H' D = some (.lst (q.map V.int)) ∧ TwI n Es S m0 v m q i) ?_ ?_ ?_
    · exact ⟨Same.new s1 nD, ⟨_, _, rfl⟩, _, [v], by rw [upd_ne ndD]; exact upd_same, upd_same, TwI.start T mv nv⟩
    · rintro i σ' H2 hi ⟨sm2, ⟨w3, w4, rfl⟩, m, q, hd2, hD2, I⟩
      have ql := I.ql
      walk_at "go"
      refine g_ite (fun lt => ?_) (fun nlt => ?_)
      · have lt : i < q.length := by omega
        obtain ⟨x, hx⟩ : ∃ x, q[i]? = some x := ⟨_, List.getElem?_eq_getElem lt⟩
        have mx := List.mem_of_getElem? hx
        have rx := (mem_outside.mp (I.sub x mx).1).1
        obtain ⟨k, hk⟩ := Option.ne_none_iff_exists'.mp (I.has mx)
        have hla2 := sm2 _ _ hla
        obtain ⟨y, hy, ⟨b, rfl, _, hb⟩⟩ := Paired.get' pl (links_get (n := n) (E := Es) (v := x.toNat) (by omega))
        have cx : ((x.toNat : Nat) : Int) = x := by omega
        rw [cx] at hb
        have gi : ∀ {q2 : List Int}, q2[i]? = some x → atI q2 (i : Nat) = some x := fun h => atI_at (by omega) (by rw [Int.toNat_natCast]; exact h)
        walk_at "go"
        refine g_ixI hD2 (gi hx) ?_
        refine g_ix hla2 (atI_at rx.1 hy) ?_
        refine for_ints (ns := nb Es x) (sm2 _ _ hb) (fun pre2 σ' H' => Same H H' ∧ (∃ w4 : Option V, σ' = [some (.ref la), some (.ref fa), some (.ref d), some (.int v), some (.ref D), some (.int (i : Nat)), w4]) ∧ ∃ m q, H' d = some (.dK (dI m)) ∧ H' D = some (.lst (q.map V.int)) ∧ TwI n Es S m0 v m q i ∧ q[i]? = some x ∧ lkp m x = some k ∧ ∀ u ∈ pre2, u ∈ outside n S → ∃ k', lkp m u = some k' ∧ k' ≠ k) ?_ ?_ ?_ ?_
        · exact ⟨sm2, ⟨_, rfl⟩, m, q, hd2, hD2, I, hx, hk, by simp⟩
        · rintro pre2 σ' H' _ ⟨sm3, _⟩
          exact sm3 _ _ hb
        · rintro pre2 u post2 σ' H3 e3 ⟨sm3, ⟨w4, rfl⟩, m, q, hd3, hD3, I, hx, hk, P2⟩
          have au : Adj Es x u := (mem_nb good).mp (by rw [e3]; simp)
          have hf3 := sm3 _ _ hf
          have mx := List.mem_of_getElem? hx
          have ml := TwI.ml T I
          have ql := I.ql
          walk_at "go"
          refine g_ite (fun mu => ?_) (fun nmu => ?_)
          · have ad : Adj (outE Es S) x u := outE_adj.mpr ⟨au, (mem_outside.mp (I.sub x mx).1).2, (mem_outside.mp mu).2⟩
            walk_at "go"
            refine g_iteNS (fun c hc => ?_) (fun nu => ?_)
            · walk_at "go"
              refine g_iteP mu ?_
              walk_at "go"
              refine g_rdget hd3 hc ?_
              walk_at "go"
              refine g_ixI hD3 (gi hx) ?_
              refine g_rdget hd3 hk ?_
              walk_at "go"
              refine g_ite (fun eq => ?_) (fun neq => ?_)
              · walk_at "go"
                subst eq
                exact kN (TwI.clash T I mx hk ad hc) H3 sm3
              · walk_at "go"
                refine ⟨sm3, ⟨_, rfl⟩, m, q, hd3, hD3, I, hx, hk, fun y hy my => ?_⟩
                rcases List.mem_append.mp hy with hy | hy
                · exact P2 y hy my
                · rw [List.mem_singleton.mp hy]
                  exact ⟨c, hc, neq⟩
            · walk_at "go"
              refine g_ixI hD3 (gi hx) ?_
              refine g_rdget hd3 hk ?_
              walk_at "go"
              refine g_rdput hd3 (by omega) ?_
              rw [putI_new _ nu]
              have I2 := I.push good mx hk ad nu (by have := (List.getElem?_eq_some_iff.mp hx).1; omega)
              have hD4 : upd H3 d (.dK (dI (m ++ [(u, 1 - k)]))) D = some (.lst (q.map V.int)) := by rw [upd_ne ndD.symm]; exact hD3
              walk_at "go"
              refine g_appI hD4 (small_of (by omega)) ?_
              refine ⟨Same.mut (Same.mut sm3 nd) nD0, ⟨_, rfl⟩, _, _, by rw [upd_ne ndD]; exact upd_same, upd_same, I2, get_app hx, lkp_app hk, fun y hy my => ?_⟩
              rcases List.mem_append.mp hy with hy | hy
              · obtain ⟨k', h1, h2⟩ := P2 y hy my
                exact ⟨k', lkp_app h1, h2⟩
              · rw [List.mem_singleton.mp hy]
                refine ⟨1 - k, by rw [lkp_snoc m u (1 - k) u nu, if_pos rfl], ?_⟩
                omega
          · walk_at "go"
            refine g_iteQ nmu ?_
            walk_at "go"
            refine ⟨sm3, ⟨_, rfl⟩, m, q, hd3, hD3, I, hx, hk, fun y hy my => ?_⟩
            rcases List.mem_append.mp hy with hy | hy
            · exact P2 y hy my
            · rw [List.mem_singleton.mp hy] at my
              exact absurd my nmu
        · rintro σ' H3 ⟨sm3, ⟨w4, rfl⟩, m, q, hd3, hD3, I, hx, hk, P2⟩
          refine ⟨sm3, ⟨_, _, rfl⟩, m, q, hd3, hD3, ⟨I.app, I.nd, I.sub, I.val, I.st, I.vq, I.par, fun j y hj hy c hc z az => ?_⟩⟩
          by_cases ej : j = i
          · subst ej
            rw [hx] at hy
            cases hy
            rw [hk] at hc
            cases hc
            exact P2 z ((mem_nb good).mpr (outE_adj.mp az).1) (out_mem good az).2
          · exact I.done j y (by omega) hy c hc z az
      · walk_at "go"
        refine ⟨sm2, ⟨_, _, rfl⟩, m, q, hd2, hD2, ⟨I.app, I.nd, I.sub, I.val, I.st, I.vq, I.par, fun j y hj hy c hc z az => ?_⟩⟩
        have := (List.getElem?_eq_some_iff.mp hy).1
        exact I.done j y (by omega) hy c hc z az
    · rintro σ' H2 ⟨sm2, ⟨w3, w4, rfl⟩, m, q, hd2, hD2, I⟩
      have ql := I.ql
      refine ⟨sm2, ⟨_, _, _, _, rfl⟩, m, hd2, TwI.close T I (by omega) mn, fun x hx => ?_⟩
      rcases List.mem_append.mp hx with hx | hx
      · obtain ⟨rest, em, _⟩ := I.app
        obtain ⟨c, hc⟩ := Option.ne_none_iff_exists'.mp (P x hx)
        rw [em, lkp_app hc]
        simp
      · rw [List.mem_singleton.mp hx, I.st]
        simp
  · rintro σ' H1 ⟨sm, ⟨w1, w2, w3, w4, rfl⟩, m, hd, T, P⟩
    walk_at "go"
    have C := T.canon good P
    exact kB (Canon.bipO good C) H1 d m sm nd hd T.nd (fun v => ⟨fun h => T.sub v (lkp_in.mp h), fun h => lkp_in.mpr (P v h)⟩) C

/-! ### law_equal, law_all_equal: of what is equal -/
def rIxLT (K : PySem.W.Frag) : R2 := fun x y H Q => rIxL K x y H Q ∨ rIxT K x y H Q
theorem ix_ltK {X : Cx} (K : PySem.W.Frag) (hK : X.K = K := by rfl) : IxR X (rIxLT K) := hK ▸ ix_list.or ix_tup
def EqV : Nat → Hp → V → V → Prop
  | 0, _, x, y => (∃ i : Int, x = .int i ∧ y = .int i) ∨ ∃ s : Str, x = .str s ∧ y = .str s
  | k + 1, H, x, y => (∃ i : Int, x = .int i ∧ y = .int i) ∨ (∃ a b xs ys, x = .ref a ∧ y = .ref b ∧ H a = some (.lst xs) ∧ H b = some (.lst ys) ∧ xs.length ≤ 10000 ∧ Paired (EqV k H) xs ys) ∨
    (∃ a b xs ys, x = .ref a ∧ y = .ref b ∧ H a = some (.tup xs) ∧ H b = some (.tup ys) ∧ xs.length ≤ 10000 ∧ Paired (EqV k H) xs ys) ∨ ∃ s : Str, x = .str s ∧ y = .str s
def EqSp (k : Nat) : Sp := fun vs H Q _ => ∃ x y, vs = [x, y] ∧ EqV k H x y ∧ Q (.bl true) H
def AllSp (k : Nat) : Sp := fun vs H Q _ => ∃ a b xs ys, vs = [.ref a, .ref b] ∧ ((H a = some (.lst xs) ∧ H b = some (.lst ys)) ∨ (H a = some (.tup xs) ∧ H b = some (.tup ys))) ∧ xs.length ≤ 10000 ∧ Paired (EqV k H) xs ys ∧ Q (.bl true) H
def NoSp : Sp := fun _ _ _ _ => False
abbrev N_law_equal : List Str := ["_law_actual", "_law_due"]
theorem sc_law_equal : FnScope N_law_equal ["_law_actual", "_law_due"] (defScope s_law_equal) := ⟨rfl, rfl, rfl, by decide +kernel, rfl, by decide +kernel, by decide +kernel⟩
abbrev N_law_all_equal : List Str := ["_law_actual", "_law_due", "_law_k"]
theorem sc_law_all_equal : FnScope N_law_all_equal ["_law_actual", "_law_due"] (defScope s_law_all_equal) := ⟨rfl, rfl, rfl, by decide +kernel, rfl, by decide +kernel, by decide +kernel⟩
section
variable {P : Program} {w : World} {K : PySem.W.Frag} {mg : Str → Option Value} {base : Heap}
abbrev eqPs : List Str := ["_law_actual", "_law_due"]
theorem eq_bind {x q : Str} {st : Stmt} : ∀ (kV doc pm : Value) (an : Option Addr) (cdv ct : Value) (us : List Value), us.length = eqPs.length → True := fun _ _ _ _ _ _ _ _ => trivial
theorem all_no (W : Hd K mg) : OkD P w K mg base 0 "_law_all_equal" eqPs NoSp := by
  obtain ⟨fd, F⟩ := W.df_law_all_equal
  exact okD_mk F W.mg_law_all_equal (fun _ _ _ _ _ _ us hl => match us, hl with | [_, _], _ => rfl) ⟨fun _ _ _ _ h => h.elim, fun _ _ _ _ _ _ _ _ _ _ _ _ _ h => h.elim⟩
theorem eq_0 (W : Hd K mg) {j : Nat} (A : OkD P w K mg base j "_law_all_equal" eqPs NoSp) : OkD P w K mg base (j + 1) "_law_equal" eqPs (EqSp 0) := by
  obtain ⟨fd, F⟩ := W.df_law_equal
  refine okD_mk F W.mg_law_equal (fun _ _ _ _ _ _ us hl => match us, hl with | [_, _], _ => rfl) ?_
  refine F.ok sc_law_equal (fun vs H Q E h => by obtain ⟨x, y, rfl, _⟩ := h; rfl) (fun cdv A' outer s H vs Q E hr h => ⟨_, PSs.nox ((pss_cons (ps_if (pt_val (pe_callB (call_isiK K) (by rfl) (W.fr_isinstance) (by decide +kernel) (pa_cons (pv 1) (pa_cons (pe_bltn (v := .ty "list") (by rfl) (W.fr_list) (by decide +kernel) rfl) pa_nil))))
  (pss_cons (ps_if (PW.pt (pw_or (pt_not (pt_val (pe_callB (call_isiK K) (by rfl) (W.fr_isinstance) (by decide +kernel) (pa_cons (pv 0) (pa_cons (pe_bltn (v := .ty "list") (by rfl) (W.fr_list) (by decide +kernel) rfl) pa_nil))))) (pw_or1 (pt_cmpR op_ne (pe_callB (call_lenK K) (by rfl) (W.fr_len) PySem.boot_len (pa_cons (pv 0) pa_nil)) (pe_callB (call_lenK K) (by rfl) (W.fr_len) PySem.boot_len (pa_cons (pv 1) pa_nil)) (nomark _)))))
  (pss_one (ps_ret pe_bl))
  pss_nil)
  (pss_one (ps_ret (pe_callD A hr (pa_cons (pv 0) (pa_cons (pv 1) pa_nil))))))
  pss_nil)
  (pss_cons (ps_if (pt_val (pe_callB (call_isiK K) (by rfl) (W.fr_isinstance) (by decide +kernel) (pa_cons (pv 1) (pa_cons (pe_bltn (v := .ty "tuple") (by rfl) (W.fr_tuple) (by decide +kernel) rfl) pa_nil))))
  (pss_cons (ps_if (PW.pt (pw_or (pt_not (pt_val (pe_callB (call_isiK K) (by rfl) (W.fr_isinstance) (by decide +kernel) (pa_cons (pv 0) (pa_cons (pe_bltn (v := .ty "tuple") (by rfl) (W.fr_tuple) (by decide +kernel) rfl) pa_nil))))) (pw_or1 (pt_cmpR op_ne (pe_callB (call_lenK K) (by rfl) (W.fr_len) PySem.boot_len (pa_cons (pv 0) pa_nil)) (pe_callB (call_lenK K) (by rfl) (W.fr_len) PySem.boot_len (pa_cons (pv 1) pa_nil)) (nomark _)))))
  (pss_one (ps_ret pe_bl))
  pss_nil)
  (pss_one (ps_ret (pe_callD A hr (pa_cons (pv 0) (pa_cons (pv 1) pa_nil))))))
  pss_nil)
  (pss_cons (ps_if (pt_val (pe_callB (call_isiK K) (by rfl) (W.fr_isinstance) (by decide +kernel) (pa_cons (pv 1) (pa_cons (pe_bltn (v := .ty "bool") (by rfl) (W.fr_bool) (by decide +kernel) rfl) pa_nil))))
  (pss_one (ps_ret (pe_and (pe_callB (call_isiK K) (by rfl) (W.fr_isinstance) (by decide +kernel) (pa_cons (pv 0) (pa_cons (pe_bltn (v := .ty "bool") (by rfl) (W.fr_bool) (by decide +kernel) rfl) pa_nil))) (pe_one (pe_cmpR op_eq (pv 0) (pv 1) (nomark _))))))
  pss_nil)
  (pss_cons (ps_if (pt_val (pe_callB (call_isiK K) (by rfl) (W.fr_isinstance) (by decide +kernel) (pa_cons (pv 1) (pa_cons (pe_bltn (v := .ty "int") (by rfl) (W.fr_int) (by decide +kernel) rfl) pa_nil))))
  (pss_one (ps_ret (pe_and (pe_callB (call_isiK K) (by rfl) (W.fr_isinstance) (by decide +kernel) (pa_cons (pv 0) (pa_cons (pe_bltn (v := .ty "int") (by rfl) (W.fr_int) (by decide +kernel) rfl) pa_nil))) (pe_and (pe_not (pe_callB (call_isiK K) (by rfl) (W.fr_isinstance) (by decide +kernel) (pa_cons (pv 0) (pa_cons (pe_bltn (v := .ty "bool") (by rfl) (W.fr_bool) (by decide +kernel) rfl) pa_nil)))) (pe_one (pe_cmpR op_eq (pv 0) (pv 1) (nomark _)))))))
  pss_nil)
  (pss_cons (ps_if (pt_val (pe_callB (call_isiK K) (by rfl) (W.fr_isinstance) (by decide +kernel) (pa_cons (pv 1) (pa_cons (pe_bltn (v := .ty "str") (by rfl) (W.fr_str) (by decide +kernel) rfl) pa_nil))))
  (pss_one (ps_ret (pe_and (pe_callB (call_isiK K) (by rfl) (W.fr_isinstance) (by decide +kernel) (pa_cons (pv 0) (pa_cons (pe_bltn (v := .ty "str") (by rfl) (W.fr_str) (by decide +kernel) rfl) pa_nil))) (pe_one (pe_cmpR op_eq (pv 0) (pv 1) (nomark _))))))
  pss_nil)
  (pss_one (ps_ret (pe_cmpR op_isNq (pv 0) pe_non (nomark _)))))))))), ?_⟩)
  try dsimp only [cxOf, Cx.nox, Cx.wish]
  obtain ⟨x, y, rfl, h, k⟩ := h
  rcases h with ⟨i, rfl, rfl⟩ | ⟨z, rfl, rfl⟩
  · walk_at "go"
    have e : decide (i = i) = true := decide_eq_true rfl
    rw [e]
    exact k
  · walk_at "go"
    have e : decide (z = z) = true := decide_eq_true rfl
    rw [e]
    exact k
theorem eq_S (W : Hd K mg) {j k : Nat} (A : OkD P w K mg base j "_law_all_equal" eqPs (AllSp k)) : OkD P w K mg base (j + 1) "_law_equal" eqPs (EqSp (k + 1)) := by
  obtain ⟨fd, F⟩ := W.df_law_equal
  refine okD_mk F W.mg_law_equal (fun _ _ _ _ _ _ us hl => match us, hl with | [_, _], _ => rfl) ?_
  refine F.ok sc_law_equal (fun vs H Q E h => by obtain ⟨x, y, rfl, _⟩ := h; rfl) (fun cdv A' outer s H vs Q E hr h => ⟨_, PSs.nox ((pss_cons (ps_if (pt_val (pe_callB (call_isiK K) (by rfl) (W.fr_isinstance) (by decide +kernel) (pa_cons (pv 1) (pa_cons (pe_bltn (v := .ty "list") (by rfl) (W.fr_list) (by decide +kernel) rfl) pa_nil))))
  (pss_cons (ps_if (PW.pt (pw_or (pt_not (pt_val (pe_callB (call_isiK K) (by rfl) (W.fr_isinstance) (by decide +kernel) (pa_cons (pv 0) (pa_cons (pe_bltn (v := .ty "list") (by rfl) (W.fr_list) (by decide +kernel) rfl) pa_nil))))) (pw_or1 (pt_cmpR op_ne (pe_callB (call_lenK K) (by rfl) (W.fr_len) PySem.boot_len (pa_cons (pv 0) pa_nil)) (pe_callB (call_lenK K) (by rfl) (W.fr_len) PySem.boot_len (pa_cons (pv 1) pa_nil)) (nomark _)))))
  (pss_one (ps_ret pe_bl))
  pss_nil)
  (pss_one (ps_ret (pe_callD A hr (pa_cons (pv 0) (pa_cons (pv 1) pa_nil))))))
  pss_nil)
  (pss_cons (ps_if (pt_val (pe_callB (call_isiK K) (by rfl) (W.fr_isinstance) (by decide +kernel) (pa_cons (pv 1) (pa_cons (pe_bltn (v := .ty "tuple") (by rfl) (W.fr_tuple) (by decide +kernel) rfl) pa_nil))))
  (pss_cons (ps_if (PW.pt (pw_or (pt_not (pt_val (pe_callB (call_isiK K) (by rfl) (W.fr_isinstance) (by decide +kernel) (pa_cons (pv 0) (pa_cons (pe_bltn (v := .ty "tuple") (by rfl) (W.fr_tuple) (by decide +kernel) rfl) pa_nil))))) (pw_or1 (pt_cmpR op_ne (pe_callB (call_lenK K) (by rfl) (W.fr_len) PySem.boot_len (pa_cons (pv 0) pa_nil)) (pe_callB (call_lenK K) (by rfl) (W.fr_len) PySem.boot_len (pa_cons (pv 1) pa_nil)) (nomark _)))))
  (pss_one (ps_ret pe_bl))
  pss_nil)
  (pss_one (ps_ret (pe_callD A hr (pa_cons (pv 0) (pa_cons (pv 1) pa_nil))))))
  pss_nil)
  (pss_cons (ps_if (pt_val (pe_callB (call_isiK K) (by rfl) (W.fr_isinstance) (by decide +kernel) (pa_cons (pv 1) (pa_cons (pe_bltn (v := .ty "bool") (by rfl) (W.fr_bool) (by decide +kernel) rfl) pa_nil))))
  (pss_one (ps_ret (pe_and (pe_callB (call_isiK K) (by rfl) (W.fr_isinstance) (by decide +kernel) (pa_cons (pv 0) (pa_cons (pe_bltn (v := .ty "bool") (by rfl) (W.fr_bool) (by decide +kernel) rfl) pa_nil))) (pe_one (pe_cmpR op_eq (pv 0) (pv 1) (nomark _))))))
  pss_nil)
  (pss_cons (ps_if (pt_val (pe_callB (call_isiK K) (by rfl) (W.fr_isinstance) (by decide +kernel) (pa_cons (pv 1) (pa_cons (pe_bltn (v := .ty "int") (by rfl) (W.fr_int) (by decide +kernel) rfl) pa_nil))))
  (pss_one (ps_ret (pe_and (pe_callB (call_isiK K) (by rfl) (W.fr_isinstance) (by decide +kernel) (pa_cons (pv 0) (pa_cons (pe_bltn (v := .ty "int") (by rfl) (W.fr_int) (by decide +kernel) rfl) pa_nil))) (pe_and (pe_not (pe_callB (call_isiK K) (by rfl) (W.fr_isinstance) (by decide +kernel) (pa_cons (pv 0) (pa_cons (pe_bltn (v := .ty "bool") (by rfl) (W.fr_bool) (by decide +kernel) rfl) pa_nil)))) (pe_one (pe_cmpR op_eq (pv 0) (pv 1) (nomark _)))))))
  pss_nil)
  (pss_cons (ps_if (pt_val (pe_callB (call_isiK K) (by rfl) (W.fr_isinstance) (by decide +kernel) (pa_cons (pv 1) (pa_cons (pe_bltn (v := .ty "str") (by rfl) (W.fr_str) (by decide +kernel) rfl) pa_nil))))
  (pss_one (ps_ret (pe_and (pe_callB (call_isiK K) (by rfl) (W.fr_isinstance) (by decide +kernel) (pa_cons (pv 0) (pa_cons (pe_bltn (v := .ty "str") (by rfl) (W.fr_str) (by decide +kernel) rfl) pa_nil))) (pe_one (pe_cmpR op_eq (pv 0) (pv 1) (nomark _))))))
  pss_nil)
  (pss_one (ps_ret (pe_cmpR op_isNq (pv 0) pe_non (nomark _)))))))))), ?_⟩)
  try dsimp only [cxOf, Cx.nox, Cx.wish]
  obtain ⟨x, y, rfl, h, q⟩ := h
  rcases h with ⟨i, rfl, rfl⟩ | ⟨a, b, xs, ys, rfl, rfl, h1, h2, l, p⟩ | ⟨a, b, xs, ys, rfl, rfl, h1, h2, l, p⟩ | ⟨z, rfl, rfl⟩
  · walk_at "go"
    have e : decide (i = i) = true := decide_eq_true rfl
    rw [e]
    exact q
  · have e := Paired.len p
    walk_at "go"
    refine g_iteQ (by omega) ?_
    walk_at "go"
    exact ⟨a, b, xs, ys, rfl, .inl ⟨h1, h2⟩, l, p, q⟩
  · have e := Paired.len p
    walk_at "go"
    refine g_iteQ (by omega) ?_
    walk_at "go"
    exact ⟨a, b, xs, ys, rfl, .inr ⟨h1, h2⟩, l, p, q⟩
  · walk_at "go"
    have e : decide (z = z) = true := decide_eq_true rfl
    rw [e]
    exact q
theorem all_S (W : Hd K mg) {j k : Nat} (A : OkD P w K mg base j "_law_equal" eqPs (EqSp k)) : OkD P w K mg base (j + 1) "_law_all_equal" eqPs (AllSp k) := by
  obtain ⟨fd, F⟩ := W.df_law_all_equal
  refine okD_mk F W.mg_law_all_equal (fun _ _ _ _ _ _ us hl => match us, hl with | [_, _], _ => rfl) ?_
  refine F.ok sc_law_all_equal (fun vs H Q E h => by obtain ⟨a, b, xs, ys, rfl, _⟩ := h; rfl) (fun cdv A' outer s H vs Q E hr h => ⟨_, PSs.nox ((pss_cons (ps_for PassesOwn.never rfl (pi_range1 (by rfl) (W.fr_range) (pa_cons (pe_callB (call_lenK K) (by rfl) (W.fr_len) PySem.boot_len (pa_cons (pv 1) pa_nil)) pa_nil)) (pg_name (i := 2) sc_law_all_equal.nd rfl (by first | exact .inl rfl | exact .inr rfl))
  (pss_one (ps_if (pt_not (pt_val (pe_callD A hr (pa_cons (pe_ix (ix_ltK K) (pv 0) (pv 2) (fun _ _ => rfl)) (pa_cons (pe_ix (ix_ltK K) (pv 1) (pv 2) (fun _ _ => rfl)) pa_nil)))))
  (pss_one (ps_ret pe_bl))
  pss_nil)))
  (pss_one (ps_ret pe_bl)))), ?_⟩)
  try dsimp only [cxOf, Cx.nox, Cx.wish]
  obtain ⟨a, b, xs, ys, rfl, h, l, p, q⟩ := h
  have e := Paired.len p
  have step : ∀ (i : Nat), i < ys.length → ∃ x y, xs[i]? = some x ∧ ys[i]? = some y ∧ EqV k H x y := fun i hi => by
    obtain ⟨x, hx, r⟩ := Paired.get' p (List.getElem?_eq_getElem hi)
    exact ⟨x, _, hx, List.getElem?_eq_getElem hi, r⟩
  have len2 : ∀ {Q : VK}, Q (.int (ys.length : Nat)) H → rLenS K [.ref b] H Q := fun {Q} z => by
    rcases h with ⟨_, h2⟩ | ⟨_, h2⟩
    · exact g_len h2 z
    · exact g_lenT h2 z
  have ix : ∀ {Q : VK} {c : Addr} {zs : List V} {i : Nat} {z : V}, (H c = some (.lst zs) ∨ H c = some (.tup zs)) → zs[i]? = some z → Q z H → rIxLT K (.ref c) (.int (i : Nat)) H Q := fun {Q c zs i z} hc hz hq => by
    have g : atI zs (i : Nat) = some z := atI_at (by omega) (by rw [Int.toNat_natCast]; exact hz)
    rcases hc with hc | hc
    · exact .inl (g_ix hc g hq)
    · exact .inr (g_ixT hc g hq)
  have ha : H a = some (.lst xs) ∨ H a = some (.tup xs) := h.imp (·.1) (·.1)
  have hb : H b = some (.lst ys) ∨ H b = some (.tup ys) := h.imp (·.2) (·.2)
  clear h
  walk_at "go"
  refine len2 ?_
  walk_at "go"
  refine for_rng1 (n := (ys.length : Nat)) (by omega) (by omega) (fun i σ' H' => H' = H ∧ ∃ u : Option V, σ' = [some (.ref a), some (.ref b), u]) ?_ ?_ ?_
  · exact ⟨rfl, _, rfl⟩
  · rintro i σ' H' hi ⟨rfl, u, rfl⟩
    obtain ⟨x, y, hx, hy, r⟩ := step i (by omega)
    walk_at "go"
    refine ix ha hx ?_
    walk_at "go"
    refine ix hb hy ?_
    walk_at "go"
    refine ⟨x, y, rfl, r, ?_⟩
    walk_at "go"
    exact ⟨rfl, _, rfl⟩
  · rintro σ' H' ⟨rfl, u, rfl⟩
    walk_at "go"
    exact q
theorem OkD.mono {j k : Nat} {x : Str} {ps : List Str} {sp : Sp} (O : OkD P w K mg base j x ps sp) (h : j ≤ k) : OkD P w K mg base k x ps sp := by
  obtain ⟨fd, F, r⟩ := O
  exact ⟨fd, F.mono h, r⟩
abbrev sp_law_equal (K : PySem.W.Frag) : Sp := EqSp 2
theorem ok_law_equal (W : Hd K mg) : OkD P w K mg base 12 "_law_equal" eqPs (sp_law_equal K) := (eq_S W (all_S W (eq_S W (all_S W (eq_0 W (all_no W)))))).mono (by decide)
end
theorem EqV.ints {H : Hp} {a b : Addr} {ns : List Int} {k : Nat} (h1 : H a = some (.lst (ns.map V.int))) (h2 : H b = some (.lst (ns.map V.int))) (l : ns.length ≤ 10000) : EqV (k + 1) H (.ref a) (.ref b) := by
  refine .inr (.inl ⟨a, b, _, _, rfl, rfl, h1, h2, by rw [List.length_map]; exact l, ?_⟩)
  clear h1 h2 l
  induction ns with
  | nil => exact .nil
  | cons n r ih =>
    refine .cons ?_ ih
    cases k with
    | zero => exact .inl ⟨n, rfl, rfl⟩
    | succ k => exact .inl ⟨n, rfl, rfl⟩
theorem EqV.strs {H : Hp} {a b : Addr} {ns : List Str} {k : Nat} (h1 : H a = some (.lst (ns.map V.str))) (h2 : H b = some (.lst (ns.map V.str))) (l : ns.length ≤ 10000) : EqV (k + 1) H (.ref a) (.ref b) := by
  refine .inr (.inl ⟨a, b, _, _, rfl, rfl, h1, h2, by rw [List.length_map]; exact l, ?_⟩)
  clear h1 h2 l
  induction ns with
  | nil => exact .nil
  | cons n r ih =>
    refine .cons ?_ ih
    cases k with
    | zero => exact .inr ⟨n, rfl, rfl⟩
    | succ k => exact .inr (.inr (.inr ⟨n, rfl, rfl⟩))
theorem EqV.pairs {H : Hp} {a b : Addr} {xs ys : List V} {ps : List (Int × Int)} (h1 : H a = some (.lst xs)) (h2 : H b = some (.lst ys)) (p1 : Paired (rPair No H) xs ps) (p2 : Paired (rPair No H) ys ps) (l : ps.length ≤ 10000) : EqV 2 H (.ref a) (.ref b) := by
  refine .inr (.inl ⟨a, b, xs, ys, rfl, rfl, h1, h2, by rw [Paired.len p1]; exact l, ?_⟩)
  clear h1 h2 l
  induction p1 generalizing ys with
  | nil =>
    cases p2
    exact .nil
  | cons r t ih =>
    cases p2 with
    | cons r2 t2 =>
      obtain ⟨c, rfl, _, hc⟩ := r
      obtain ⟨d, rfl, _, hd⟩ := r2
      exact .cons (.inr (.inr (.inl ⟨c, d, _, _, rfl, rfl, hc, hd, by simp, .cons (.inl ⟨_, rfl, rfl⟩) (.cons (.inl ⟨_, rfl, rfl⟩) .nil)⟩))) (ih t2)

/-! ### law_splits, law_is_right -/
def allF : Nat → List (List Str)
  | 0 => [[]]
  | k + 1 => (allF k).flatMap fun s => [s ++ [("-" : Str)], s ++ [("0" : Str)], s ++ [("1" : Str)]]
theorem allF_len : ∀ k, (allF k).length = 3 ^ k
  | 0 => rfl
  | k + 1 => by
    rw [allF, Nat.pow_succ, ← allF_len k]
    generalize allF k = l
    induction l with
    | nil => rfl
    | cons s l ih =>
      rw [List.flatMap_cons, List.length_append, ih, List.length_cons]
      simp only [List.length_cons, List.length_nil]
      omega
theorem allF_mem : ∀ {k : Nat} {s : List Str}, s ∈ allF k → s.length = k ∧ ∀ c ∈ s, c ∈ LET
  | 0, s, h => by
    rw [allF] at h
    rw [List.mem_singleton.mp h]
    simp
  | k + 1, s, h => by
    rw [allF] at h
    obtain ⟨t, ht, h⟩ := List.mem_flatMap.mp h
    obtain ⟨a, b⟩ := allF_mem ht
    simp only [List.mem_cons, List.not_mem_nil, or_false] at h
    rcases h with rfl | rfl | rfl <;> refine ⟨by simp [a], fun c hc => ?_⟩ <;> rcases List.mem_append.mp hc with hc | hc <;> first | exact b c hc | (rw [List.mem_singleton.mp hc]; simp [LET])
open Classical in
theorem allF_right (Es : List (Int × Int)) (ns : List Int) : ∀ k, (allF k).filter (fun s => decide (RightP Es ns s)) = spl Es ns k
  | 0 => by
    have : RightP Es ns [] := fun i j s u v _ h => by simp at h
    simp [allF, spl, this]
  | k + 1 => by
    rw [allF, spl, ← allF_right Es ns k]
    generalize allF k = l
    induction l with
    | nil => rfl
    | cons s l ih =>
      rw [List.flatMap_cons, List.filter_append, ih]
      by_cases h : RightP Es ns s
      · rw [show (s :: l).filter (fun s => decide (RightP Es ns s)) = s :: l.filter (fun s => decide (RightP Es ns s)) from List.filter_cons_of_pos (decide_eq_true h), List.flatMap_cons]
        congr 1
        unfold fitL LET
        have e : ∀ c, decide (RightP Es ns (s ++ [c])) = decide (FitP Es ns s c) := fun c => decide_eq_decide.mpr (right_snoc.trans ⟨fun z => z.2, fun z => ⟨h, z⟩⟩)
        simp only [List.filter_cons, List.filter_nil, e]
        by_cases a1 : FitP Es ns s "-" <;> by_cases a2 : FitP Es ns s "0" <;> by_cases a3 : FitP Es ns s "1" <;> simp [a1, a2, a3]
      · have e : ∀ c, ¬ RightP Es ns (s ++ [c]) := fun c z => h (right_snoc.mp z).1
        rw [show (s :: l).filter (fun s => decide (RightP Es ns s)) = l.filter (fun s => decide (RightP Es ns s)) from List.filter_cons_of_neg (by simp [h])]
        simp [e]
def sp_law_splits (K : PySem.W.Frag) : Sp := fun vs H Q _ => ∃ m : Nat, vs = [.int m] ∧ m ≤ 5 ∧ ∀ H' v, Same H H' → rLst rStrs (Trk H) H' v (allF m) → Q v H'
theorem sp_law_splits.len {K : PySem.W.Frag} {vs : List V} {H : Hp} {Q : VK} {E : XK} (h : sp_law_splits K vs H Q E) : vs.length = (["_law_many"] : List Str).length := by
  obtain ⟨m, rfl, _⟩ := h
  rfl
abbrev N_law_splits : List Str := ["_law_many", "_law_found", "_law_k", "_law_grown", "_law_some"]
theorem sc_law_splits : FnScope N_law_splits ["_law_many"] (defScope s_law_splits) := ⟨rfl, rfl, rfl, by decide +kernel, rfl, by decide +kernel, by decide +kernel⟩
theorem ok_law_splits {P : Program} {w : World} {K : PySem.W.Frag} {mg : Str → Option Value} {base : Heap} (W : Hd K mg) : OkD P w K mg base 1 "_law_splits" ["_law_many"] (sp_law_splits K) := by
  obtain ⟨fd, F⟩ := W.df_law_splits
  refine okD_mk F W.mg_law_splits (fun _ _ _ _ _ _ us hl => match us, hl with | [_], _ => rfl) ?_
  refine F.ok sc_law_splits (fun vs H Q E h => sp_law_splits.len h) (fun cdv A outer s H vs Q E hr h => ⟨_, PSs.nox ((pss_cons (ps_set (i := 1) sc_law_splits.nd rfl (by first | exact .inl rfl | exact .inr rfl) (pe_lst (pa_cons (pe_lst pa_nil) pa_nil)))
  (pss_cons (ps_for PassesOwn.never rfl (pi_range1 (by rfl) (W.fr_range) (pa_cons (pv 0) pa_nil)) (pg_name (i := 2) sc_law_splits.nd rfl (by first | exact .inl rfl | exact .inr rfl))
  (pss_cons (ps_set (i := 3) sc_law_splits.nd rfl (by first | exact .inl rfl | exact .inr rfl) (pe_lst pa_nil))
  (pss_cons (ps_for PassesOwn.never rfl (pi_list (pv 1)) (pg_name (i := 4) sc_law_splits.nd rfl (by first | exact .inl rfl | exact .inr rfl))
  (pss_one (ps_set (i := 3) sc_law_splits.nd rfl (by first | exact .inl rfl | exact .inr rfl) (pe_op op_cat (pv 3) (pe_lst (pa_cons (pe_op op_cat (pv 4) (pe_lst (pa_cons pe_str pa_nil))) (pa_cons (pe_op op_cat (pv 4) (pe_lst (pa_cons pe_str pa_nil))) (pa_cons (pe_op op_cat (pv 4) (pe_lst (pa_cons pe_str pa_nil))) pa_nil))))))))
  (pss_one (ps_set (i := 1) sc_law_splits.nd rfl (by first | exact .inl rfl | exact .inr rfl) (pv 3))))))
  (pss_one (ps_ret (pv 1)))))), ?_⟩)
  try dsimp only [cxOf, Cx.nox, Cx.wish]
  obtain ⟨m, rfl, m5, k⟩ := h
  walk_at "go"
  intro e0 ne0
  walk_at "go"
  intro S nS
  have nse : S ≠ e0 := new_ne nS
  have nS0 := new_old nS
  have s0 : Same H (upd (upd H e0 (.lst [])) S (.lst [.ref e0])) := Same.new (Same.new (Same.refl _) ne0) nS
  walk_at "go"
  refine for_rng1 (n := (m : Nat)) (by omega) (by omega) (fun i σ' H' => (∃ (v : V) (w1 w2 w3 : Option V), σ' = [some (.int m), some v, w1, w2, w3] ∧ rLst rStrs (Trk H) H' v (allF i)) ∧ Same H H') ?_ ?_ ?_
  · refine ⟨⟨.ref S, none, none, none, rfl, [.ref e0], ⟨S, rfl, fun z => z nS0, upd_same⟩, .cons ⟨e0, rfl, fun z => z ne0, ?_⟩ .nil⟩, s0⟩
    rw [upd_ne nse.symm]
    exact upd_same
  · rintro i σ' H1 hi ⟨⟨v, w1, w2, w3, rfl, vs, ⟨p, rfl, np, hp⟩, pv⟩, sm⟩
    have al : (allF i).length ≤ 3 ^ 5 := by rw [allF_len]; exact Nat.pow_le_pow_right (by omega) (by omega)
    walk_at "go"
    intro g0 ng0
    have s1 : Same H1 (upd H1 g0 (.lst [])) := Same.new (Same.refl _) ng0
    walk_at "go"
    refine for_rep (R := rStrs (Trk H) H1) (h := s1 _ _ hp) (pr := pv) (fun pre σ' H' => (∃ (v : V) (w3 : Option V), σ' = [some (.int m), some (.ref p), some (.int (i : Nat)), some v, w3] ∧ rLst rStrs (Trk H) H' v (pre.flatMap fun s => [s ++ [("-" : Str)], s ++ [("0" : Str)], s ++ [("1" : Str)]])) ∧ Same H1 H') ?_ ?_ ?_ ?_
    · exact ⟨⟨.ref g0, _, rfl, [], ⟨g0, rfl, fun z => z (sm.free ng0), upd_same⟩, .nil⟩, s1⟩
    · rintro pre σ' H' _ ⟨_, s⟩
      exact s _ _ hp
    · rintro pre x sp post σ' H2 e ⟨q, rfl, nq, hq⟩ ⟨⟨v, w3, rfl, gvs, ⟨ga, rfl, nga, hga⟩, pg⟩, s2⟩
      have lsp := (allF_mem (k := i) (s := sp) (by rw [e]; simp)).1
      have hq2 := s2 _ _ hq
      have gl := Paired.len pg
      have fl := flatMap_len (l := pre) (f := fun s : List Str => [s ++ [("-" : Str)], s ++ [("0" : Str)], s ++ [("1" : Str)]]) (m := 3) fun s _ => by simp
      have pl : pre.length ≤ (allF i).length := by rw [e]; simp
      have sH := Same.trans sm s2
      walk_at "go"
      intro t1 nt1
      refine g_cat (by walk_at "hp") upd_same (size_le (by simp; omega)) fun u1 nu1 => ?_
      have sa : Same H2 (upd (upd H2 t1 (.lst [.str "-"])) u1 (.lst (sp.map V.str ++ [.str "-"]))) := Same.new (Same.new (Same.refl _) nt1) nu1
      have ha1 : upd (upd H2 t1 (.lst [.str "-"])) u1 (.lst (sp.map V.str ++ [.str "-"])) u1 = some (.lst ((sp ++ [("-" : Str)]).map V.str)) := by rw [List.map_append]; exact upd_same
      have fu1 := sH.free (new_old nu1)
      generalize upd (upd H2 t1 (.lst [.str "-"])) u1 (.lst (sp.map V.str ++ [.str "-"])) = Ha at sa ha1 ⊢
      have hqa := sa _ _ hq2
      walk_at "go"
      intro t2 nt2
      refine g_cat (by walk_at "hp") upd_same (size_le (by simp; omega)) fun u2 nu2 => ?_
      have sb : Same Ha (upd (upd Ha t2 (.lst [.str "0"])) u2 (.lst (sp.map V.str ++ [.str "0"]))) := Same.new (Same.new (Same.refl _) nt2) nu2
      have hb1 : upd (upd Ha t2 (.lst [.str "0"])) u2 (.lst (sp.map V.str ++ [.str "0"])) u2 = some (.lst ((sp ++ [("0" : Str)]).map V.str)) := by rw [List.map_append]; exact upd_same
      have fu2 := (Same.trans sH sa).free (new_old nu2)
      generalize upd (upd Ha t2 (.lst [.str "0"])) u2 (.lst (sp.map V.str ++ [.str "0"])) = Hb at sb hb1 ⊢
      have hqb := sb _ _ hqa
      walk_at "go"
      intro t3 nt3
      refine g_cat (by walk_at "hp") upd_same (size_le (by simp; omega)) fun u3 nu3 => ?_
      have sc : Same Hb (upd (upd Hb t3 (.lst [.str "1"])) u3 (.lst (sp.map V.str ++ [.str "1"]))) := Same.new (Same.new (Same.refl _) nt3) nu3
      have hc1 : upd (upd Hb t3 (.lst [.str "1"])) u3 (.lst (sp.map V.str ++ [.str "1"])) u3 = some (.lst ((sp ++ [("1" : Str)]).map V.str)) := by rw [List.map_append]; exact upd_same
      have fu3 := (Same.trans sH (Same.trans sa sb)).free (new_old nu3)
      generalize upd (upd Hb t3 (.lst [.str "1"])) u3 (.lst (sp.map V.str ++ [.str "1"])) = Hc at sc hc1 ⊢
      have s2c := Same.trans sa (Same.trans sb sc)
      have hgac := s2c _ _ hga
      walk_at "go"
      intro L nL
      refine g_cat (by walk_at "hp") upd_same (size_le (by simp; omega)) fun pf npf => ?_
      walk_at "go"
      have sd : Same Hc (upd (upd Hc L (.lst [.ref u1, .ref u2, .ref u3])) pf (.lst (gvs ++ [.ref u1, .ref u2, .ref u3]))) := Same.new (Same.new (Same.refl _) nL) npf
      refine ⟨⟨.ref pf, _, rfl, _, ⟨pf, rfl, fun z => z ((Same.trans sH s2c).free (new_old npf)), upd_same⟩, ?_⟩, Same.trans s2 (Same.trans s2c sd)⟩
      rw [List.flatMap_append]
      refine Paired.app (L2.Paired.mapP pg fun _ _ z => rStrs.frm.mv (.same (Same.trans s2c sd)) z) ?_
      exact .cons ⟨u1, rfl, fun z => z fu1, (Same.trans sb (Same.trans sc sd)) _ _ ha1⟩ (.cons ⟨u2, rfl, fun z => z fu2, (Same.trans sc sd) _ _ hb1⟩ (.cons ⟨u3, rfl, fun z => z fu3, sd _ _ hc1⟩ .nil))
    · rintro σ' H2 ⟨⟨v, w3, rfl, r⟩, s2⟩
      walk_at "go"
      exact ⟨⟨v, _, _, _, rfl, r⟩, Same.trans sm s2⟩
  · rintro σ' H1 ⟨⟨v, w1, w2, w3, rfl, r⟩, sm⟩
    rw [Int.toNat_natCast] at r
    walk_at "go"
    exact k H1 v sm r
def sp_law_is_right (K : PySem.W.Frag) : Sp := fun vs H Q _ => ∃ (la a q : Addr) (lk : List V) (n : Nat) (Es : List (Int × Int)) (ns : List Int) (sp : List Str), vs = [.ref la, .ref a, .ref q] ∧ H la = some (.lst lk) ∧ Paired (rInts No H) lk (links n Es) ∧ H a = some (.lst (ns.map V.int)) ∧ H q = some (.lst (sp.map V.str)) ∧ GoodE n Es ∧ n ≤ 40 ∧ Rising n ns ∧ sp.length = ns.length ∧
  ∀ b, (b = true ↔ RightP Es ns sp) → Q (.bl b) H
theorem sp_law_is_right.len {K : PySem.W.Frag} {vs : List V} {H : Hp} {Q : VK} {E : XK} (h : sp_law_is_right K vs H Q E) : vs.length = (["_law_near_here", "_law_nodes", "_law_split"] : List Str).length := by
  obtain ⟨la, a, q, lk, n, Es, ns, sp, rfl, _⟩ := h
  rfl
abbrev N_law_is_right : List Str := ["_law_near_here", "_law_nodes", "_law_split", "_law_one", "_law_two_here"]
theorem sc_law_is_right : FnScope N_law_is_right ["_law_near_here", "_law_nodes", "_law_split"] (defScope s_law_is_right) := ⟨rfl, rfl, rfl, by decide +kernel, rfl, by decide +kernel, by decide +kernel⟩
theorem ok_law_is_right {P : Program} {w : World} {K : PySem.W.Frag} {mg : Str → Option Value} {base : Heap} (W : Hd K mg) : OkD P w K mg base 1 "_law_is_right" ["_law_near_here", "_law_nodes", "_law_split"] (sp_law_is_right K) := by
  obtain ⟨fd, F⟩ := W.df_law_is_right
  refine okD_mk F W.mg_law_is_right (fun _ _ _ _ _ _ us hl => match us, hl with | [_, _, _], _ => rfl) ?_
  refine F.ok sc_law_is_right (fun vs H Q E h => sp_law_is_right.len h) (fun cdv A outer s H vs Q E hr h => ⟨_, PSs.nox ((pss_cons (ps_for PassesOwn.never rfl (pi_range1 (by rfl) (W.fr_range) (pa_cons (pe_callB (call_lenK K) (by rfl) (W.fr_len) PySem.boot_len (pa_cons (pv 1) pa_nil)) pa_nil)) (pg_name (i := 3) sc_law_is_right.nd rfl (by first | exact .inl rfl | exact .inr rfl))
  (pss_one (ps_for PassesOwn.never rfl (pi_range1 (by rfl) (W.fr_range) (pa_cons (pv 3) pa_nil)) (pg_name (i := 4) sc_law_is_right.nd rfl (by first | exact .inl rfl | exact .inr rfl))
  (pss_one (ps_if (PW.pt (pw_and (pt_cmpR op_eq (pe_ix (ix_listK K) (pv 2) (pv 3) (fun _ _ => rfl)) (pe_ix (ix_listK K) (pv 2) (pv 4) (fun _ _ => rfl)) (nomark _)) (pw_and (pt_cmpR op_ne (pe_ix (ix_listK K) (pv 2) (pv 3) (fun _ _ => rfl)) pe_str (nomark _)) (pw_and1 (pt_cmpR (op_inK K) (pe_ix (ix_listK K) (pv 1) (pv 4) (fun _ _ => rfl)) (pe_ix (ix_listK K) (pv 0) (pe_ix (ix_listK K) (pv 1) (pv 3) (fun _ _ => rfl)) (fun _ _ => rfl)) (by rfl))))))
  (pss_one (ps_ret pe_bl))
  pss_nil)))))
  (pss_one (ps_ret pe_bl)))), ?_⟩)
  try dsimp only [cxOf, Cx.nox, Cx.wish]
  obtain ⟨la, a, q, lk, n, Es, ns, sp, rfl, hla, pl, ha, hq, good, h40, ri, lsp, k⟩ := h
  have nl := ri.len
  walk_at "go"
  refine for_rng1 (n := (ns.length : Nat)) (by omega) (by omega) (fun j σ' H' => H' = H ∧ (∃ u v : Option V, σ' = [some (.ref la), some (.ref a), some (.ref q), u, v]) ∧ ∀ (i j' : Nat) s u v, j' < j → i < j' → sp[i]? = some s → sp[j']? = some s → s ≠ dash → ns[i]? = some u → ns[j']? = some v → ¬ Adj Es v u) ?_ ?_ ?_
  · exact ⟨rfl, ⟨_, _, rfl⟩, fun i j' s u v h => by omega⟩
  · rintro j σ' H' hj ⟨rfl, ⟨u, v, rfl⟩, T⟩
    have jl : j < ns.length := by omega
    obtain ⟨v, hv⟩ : ∃ v, ns[j]? = some v := ⟨_, List.getElem?_eq_getElem jl⟩
    obtain ⟨c, hc⟩ : ∃ c, sp[j]? = some c := ⟨_, List.getElem?_eq_getElem (by omega)⟩
    have rv := ri.2 v (List.mem_of_getElem? hv)
    obtain ⟨y, hy, ⟨b, rfl, _, hb⟩⟩ := Paired.get' pl (links_get (n := n) (E := Es) (v := v.toNat) (by omega))
    have cv : ((v.toNat : Nat) : Int) = v := by omega
    rw [cv] at hb
    have gs : ∀ {i : Nat} {s : Str}, sp[i]? = some s → atI (sp.map V.str) (i : Nat) = some (.str s) := fun h => atI_map (atI_at (by omega) (by rw [Int.toNat_natCast]; exact h))
    have gn : ∀ {i : Nat} {s : Int}, ns[i]? = some s → atI ns (i : Nat) = some s := fun h => atI_at (by omega) (by rw [Int.toNat_natCast]; exact h)
    walk_at "go"
    refine for_rng1 (n := (j : Nat)) (by omega) (by omega) (fun i0 σ' H2 => H2 = H' ∧ (∃ v : Option V, σ' = [some (.ref la), some (.ref a), some (.ref q), some (.int (j : Nat)), v]) ∧ ∀ (i : Nat) u, i < i0 → sp[i]? = some c → c ≠ dash → ns[i]? = some u → ¬ Adj Es v u) ?_ ?_ ?_
    · exact ⟨rfl, ⟨_, rfl⟩, fun i u h => by omega⟩
    · rintro i σ' H2 hi ⟨rfl, ⟨w, rfl⟩, T2⟩
      obtain ⟨u, hu⟩ : ∃ u, ns[i]? = some u := ⟨_, List.getElem?_eq_getElem (by omega)⟩
      obtain ⟨s, hs⟩ : ∃ s, sp[i]? = some s := ⟨_, List.getElem?_eq_getElem (by omega)⟩
      have next : ¬ (c = s ∧ c ≠ dash ∧ Adj Es v u) → ∀ (i' : Nat) u', i' < i + 1 → sp[i']? = some c → c ≠ dash → ns[i']? = some u' → ¬ Adj Es v u' := by
        intro no i' u' h1 h2 h3 h4 h5
        by_cases qq : i' = i
        · subst qq
          rw [hu] at h4
          rw [hs] at h2
          cases h4
          cases h2
          exact no ⟨rfl, h3, h5⟩
        · exact T2 i' u' (by omega) h2 h3 h4 h5
      walk_at "go"
      refine g_ix hq (gs hc) ?_
      walk_at "go"
      refine g_ix hq (gs hs) ?_
      walk_at "go"
      refine g_ite (fun es => ?_) (fun ne => ?_)
      · walk_at "go"
        refine g_ix hq (gs hc) ?_
        walk_at "go"
        refine g_ite (fun nd => ?_) (fun dd => ?_)
        · walk_at "go"
          refine g_ixI ha (gn hu) ?_
          walk_at "go"
          refine g_ixI ha (gn hv) ?_
          refine g_ix hla (atI_at rv.1 hy) ?_
          walk_at "go"
          refine g_ite (fun i1 => ?_) (fun i1 => ?_)
          · walk_at "go"
            refine k false ⟨fun z => (Bool.false_ne_true z).elim, fun z => ?_⟩
            subst es
            exact absurd ((mem_nb good).mp i1) (z i j c u v (by omega) hs hc nd hu hv)
          · walk_at "go"
            exact ⟨rfl, ⟨_, rfl⟩, next fun z => i1 ((mem_nb good).mpr z.2.2)⟩
        · walk_at "go"
          exact ⟨rfl, ⟨_, rfl⟩, next fun z => dd z.2.1⟩
      · walk_at "go"
        exact ⟨rfl, ⟨_, rfl⟩, next fun z => ne z.1⟩
    · rintro σ' H2 ⟨rfl, ⟨w, rfl⟩, T2⟩
      rw [Int.toNat_natCast] at T2
      refine ⟨rfl, ⟨_, _, rfl⟩, fun i j' s u' v' h1 h2 h3 h4 h5 h6 h7 => ?_⟩
      by_cases qq : j' = j
      · subst qq
        rw [hc] at h4
        rw [hv] at h7
        cases h4
        cases h7
        exact T2 i u' h2 h3 h5 h6
      · exact T i j' s u' v' (by omega) h2 h3 h4 h5 h6 h7
  · rintro σ' H' ⟨rfl, ⟨u, v, rfl⟩, T⟩
    rw [Int.toNat_natCast] at T
    walk_at "go"
    refine k true ⟨fun _ i j s u v ij h1 h2 h3 h4 h5 => T i j s u v (by have := (List.getElem?_eq_some_iff.mp h5).1; omega) ij h1 h2 h3 h4 h5, fun _ => rfl⟩

/-! ### law_sides -/
abbrev colM (m : List (Int × Int)) : Int → Int := fun v => (lkp m v).getD 0
def sp_law_sides (K : PySem.W.Frag) : Sp := fun vs H Q _ => ∃ (la a q d : Addr) (lk : List V) (n : Nat) (Es : List (Int × Int)) (ns : List Int) (sp : List Str) (m : List (Int × Int)), vs = [.ref la, .ref a, .ref q, .ref d] ∧ H la = some (.lst lk) ∧ Paired (rInts No H) lk (links n Es) ∧ H a = some (.lst (ns.map V.int)) ∧ H q = some (.lst (sp.map V.str)) ∧ H d = some (.dK (dI m)) ∧
  GoodE n Es ∧ n ≤ 40 ∧ ns.length ≤ 5 ∧ sp.length = ns.length ∧ (m.map (·.1)).Nodup ∧ (∀ v, v ∈ m.map (·.1) ↔ v ∈ outside n ns) ∧ (∀ v ∈ outside n ns, colM m v = 0 ∨ colM m v = 1) ∧
  ∀ H' p x y, Same H H' → H' p = some (.lst [.ref x, .ref y]) → H' x = some (.lst ((sideS n Es ns sp (colM m)).map V.int)) → H' y = some (.lst ((sideC n Es ns sp (colM m)).map V.int)) → Q (.ref p) H'
theorem sp_law_sides.len {K : PySem.W.Frag} {vs : List V} {H : Hp} {Q : VK} {E : XK} (h : sp_law_sides K vs H Q E) : vs.length = (["_law_near_here", "_law_nodes", "_law_split", "_law_colours"] : List Str).length := by
  obtain ⟨la, a, q, d, lk, n, Es, ns, sp, m, rfl, _⟩ := h
  rfl
theorem zip_take {ns : List Int} {sp : List Str} {i : Nat} {u : Int} {c : Str} (h1 : ns[i]? = some u) (h2 : sp[i]? = some c) : (ns.zip sp).take (i + 1) = (ns.zip sp).take i ++ [(u, c)] := by
  rw [List.take_add_one]
  have : (ns.zip sp)[i]? = some (u, c) := by
    rw [List.getElem?_zip_eq_some]
    exact ⟨h1, h2⟩
  rw [this]
  rfl
abbrev N_law_sides : List Str := ["_law_near_here", "_law_nodes", "_law_split", "_law_colours", "_law_first", "_law_second", "_law_v", "_law_k"]
theorem sc_law_sides : FnScope N_law_sides ["_law_near_here", "_law_nodes", "_law_split", "_law_colours"] (defScope s_law_sides) := ⟨rfl, rfl, rfl, by decide +kernel, rfl, by decide +kernel, by decide +kernel⟩
theorem ok_law_sides {P : Program} {w : World} {K : PySem.W.Frag} {mg : Str → Option Value} {base : Heap} (W : Hd K mg) : OkD P w K mg base 1 "_law_sides" ["_law_near_here", "_law_nodes", "_law_split", "_law_colours"] (sp_law_sides K) := by
  obtain ⟨fd, F⟩ := W.df_law_sides
  refine okD_mk F W.mg_law_sides (fun _ _ _ _ _ _ us hl => match us, hl with | [_, _, _, _], _ => rfl) ?_
  refine F.ok sc_law_sides (fun vs H Q E h => sp_law_sides.len h) (fun cdv A outer s H vs Q E hr h => ⟨_, PSs.nox ((pss_cons (ps_set (i := 4) sc_law_sides.nd rfl (by first | exact .inl rfl | exact .inr rfl) (pe_lst pa_nil))
  (pss_cons (ps_set (i := 5) sc_law_sides.nd rfl (by first | exact .inl rfl | exact .inr rfl) (pe_lst pa_nil))
  (pss_cons (ps_for PassesOwn.never rfl (pi_list (pe_callB (call_sortedDq rfl) (by rfl) (W.fr_sorted) (by decide +kernel) (pa_cons (pv 3) pa_nil))) (pg_name (i := 6) sc_law_sides.nd rfl (by first | exact .inl rfl | exact .inr rfl))
  (pss_one (ps_for PassesOwn.never rfl (pi_range1 (by rfl) (W.fr_range) (pa_cons (pe_callB (call_lenK K) (by rfl) (W.fr_len) PySem.boot_len (pa_cons (pv 1) pa_nil)) pa_nil)) (pg_name (i := 7) sc_law_sides.nd rfl (by first | exact .inl rfl | exact .inr rfl))
  (pss_one (ps_if (PW.pt (pw_and (pt_cmpR op_ne (pe_ix (ix_listK K) (pv 2) (pv 7) (fun _ _ => rfl)) pe_str (nomark _)) (pw_and1 (pt_cmpR (op_inK K) (pe_ix (ix_listK K) (pv 1) (pv 7) (fun _ _ => rfl)) (pe_ix (ix_listK K) (pv 0) (pv 6) (fun _ _ => rfl)) (by rfl)))))
  (pss_one (ps_if (pt_cmpR op_eq (pe_ix (ix_listK K) (pv 2) (pv 7) (fun _ _ => rfl)) (pe_callTy call_strS (by rfl) (W.fr_str) (by decide +kernel) (pa_cons (pe_dget (hu_of hr) (pv 3) (pv 6) (fun _ _ => rfl)) pa_nil)) (nomark _))
  (pss_one (ps_expr (pe_bmK K PySem.F.plainAttrs_list PySem.F.slot_list_append PySem.F.type_list_append mt_append (pv 5) (pa_cons (pv 6) pa_nil))))
  (pss_one (ps_expr (pe_bmK K PySem.F.plainAttrs_list PySem.F.slot_list_append PySem.F.type_list_append mt_append (pv 4) (pa_cons (pv 6) pa_nil))))))
  pss_nil)))))
  (pss_one (ps_ret (pe_lst (pa_cons (pe_callB (cr_sortedSet rfl) (by rfl) (W.fr_sorted) (by decide +kernel) (pa_cons (pe_callTy (cr_setL rfl) (by rfl) (W.fr_set) (by decide +kernel) (pa_cons (pv 4) pa_nil)) pa_nil)) (pa_cons (pe_callB (cr_sortedSet rfl) (by rfl) (W.fr_sorted) (by decide +kernel) (pa_cons (pe_callTy (cr_setL rfl) (by rfl) (W.fr_set) (by decide +kernel) (pa_cons (pv 5) pa_nil)) pa_nil)) pa_nil))))))))), ?_⟩)
  try dsimp only [cxOf, Cx.nox, Cx.wish]
  obtain ⟨la, a, q, d, lk, n, Es, ns, sp, m, rfl, hla, pl, ha, hq, hd, good, h40, l5, lsp, ndm, mem, c01, k⟩ := h
  have lo := (outside_rising n ns).len
  have ks : isort (m.map (·.1)) = outside n ns := rise_eq (srt_rise (isort_srt _) ((isort_perm _).nodup_iff.mpr ndm)) (outside_rising n ns).1 fun x => mem_isort.trans (mem x)
  have ml : m.length ≤ n := by
    have := nd_len ndm fun x hx => (outside_rising n ns).2 x ((mem x).mp hx)
    rw [List.length_map] at this
    exact this
  walk_at "go"
  intro S nS
  walk_at "go"
  intro C nC
  have nsc : S ≠ C := (new_ne nC).symm
  have nC0 := new_old nC
  have s0 : Same H (upd (upd H S (.lst [])) C (.lst [])) := Same.new (Same.new (Same.refl _) nS) nC
  have hd0 := s0 _ _ hd
  walk_at "go"
  refine g_sortD hd0 (by omega) fun c nc => ?_
  rw [ks]
  have ncC := new_ne nc
  have ncS := new_ne (new_old nc)
  have s1 : Same H (upd (upd (upd H S (.lst [])) C (.lst [])) c (.lst ((outside n ns).map V.int))) := Same.new s0 nc
  refine for_ints (ns := outside n ns) upd_same (fun pre σ' H' => Same H H' ∧ H' c = some (.lst ((outside n ns).map V.int)) ∧ (∃ w1 w2 : Option V, σ' = [some (.ref la), some (.ref a), some (.ref q), some (.ref d), some (.ref S), some (.ref C), w1, w2]) ∧ ∃ st ch, H' S = some (.lst (st.map V.int)) ∧ H' C = some (.lst (ch.map V.int)) ∧ ∀ x, Fill Es (ns.zip sp) (colM m) pre x [] st ch (pre.length * 5)) ?_ ?_ ?_ ?_
  · refine ⟨s1, upd_same, ⟨_, _, rfl⟩, [], [], ?_, ?_, fun x => ⟨fun v => ?_, fun v => ?_, Nat.le_refl _⟩⟩
    · refine hp_new ?_ nc
      rw [upd_ne nsc]
      exact upd_same
    · exact hp_new upd_same nc
    · simp [Sty]
    · simp [Chg]
  · rintro pre σ' H' _ ⟨_, h, _⟩
    exact h
  · rintro pre v post σ' H' e ⟨sm, hc, ⟨w1, w2, rfl⟩, st, ch, hS, hC, F⟩
    have mv : v ∈ outside n ns := by rw [e]; simp
    have rv := (mem_outside.mp mv).1
    have pl5 : pre.length < 41 := by have := congrArg List.length e; simp at this; omega
    obtain ⟨y, hy, ⟨b, rfl, _, hb⟩⟩ := Paired.get' pl (links_get (n := n) (E := Es) (v := v.toNat) (by omega))
    have cv : ((v.toNat : Nat) : Int) = v := by omega
    rw [cv] at hb
    obtain ⟨cl, hcl⟩ := Option.ne_none_iff_exists'.mp (lkp_in.mp ((mem v).mpr mv))
    have ecl : colM m v = cl := by show (lkp m v).getD 0 = cl; rw [hcl]; rfl
    have ha' := sm _ _ ha
    walk_at "go"
    refine for_rng1 (n := (ns.length : Nat)) (by omega) (by omega) (fun i σ' H' => Same H H' ∧ H' c = some (.lst ((outside n ns).map V.int)) ∧ (∃ w2 : Option V, σ' = [some (.ref la), some (.ref a), some (.ref q), some (.ref d), some (.ref S), some (.ref C), some (.int v), w2]) ∧
      ∃ st ch, H' S = some (.lst (st.map V.int)) ∧ H' C = some (.lst (ch.map V.int)) ∧ Fill Es (ns.zip sp) (colM m) pre v ((ns.zip sp).take i) st ch (pre.length * 5 + i)) ?_ ?_ ?_
    · exact ⟨sm, hc, ⟨_, rfl⟩, st, ch, hS, hC, F v⟩
    · rintro i σ' H3 hi ⟨s3, hc3, ⟨w2, rfl⟩, st, ch, hS3, hC3, F2⟩
      have il : i < ns.length := by omega
      obtain ⟨u, hu⟩ : ∃ u, ns[i]? = some u := ⟨_, List.getElem?_eq_getElem il⟩
      obtain ⟨s, hs⟩ : ∃ s, sp[i]? = some s := ⟨_, List.getElem?_eq_getElem (by omega)⟩
      have gs : atI (sp.map V.str) (i : Nat) = some (.str s) := atI_map (atI_at (by omega) (by rw [Int.toNat_natCast]; exact hs))
      have gn : atI ns (i : Nat) = some u := atI_at (by omega) (by rw [Int.toNat_natCast]; exact hu)
      have zz := zip_take hu hs
      have fl := F2.l
      have hq3 := s3 _ _ hq
      have ha3 := s3 _ _ ha
      have hla3 := s3 _ _ hla
      have hb3 := s3 _ _ hb
      have hd3 := s3 _ _ hd
      walk_at "go"
      refine g_ix hq3 gs ?_
      walk_at "go"
      refine g_ite (fun nd => ?_) (fun dd => ?_)
      · walk_at "go"
        refine g_ixI ha3 gn ?_
        walk_at "go"
        refine g_ix hla3 (atI_at rv.1 hy) ?_
        walk_at "go"
        refine g_ite (fun i1 => ?_) (fun i1 => ?_)
        · have ad := (mem_nb good).mp i1
          walk_at "go"
          refine g_ix hq3 gs ?_
          walk_at "go"
          refine g_rdget hd3 hcl ?_
          walk_at "go"
          refine g_strI (log01 (by rw [← ecl]; exact c01 v mv)) ?_
          walk_at "go"
          refine g_ite (fun es => ?_) (fun ne => ?_)
          · walk_at "go"
            refine g_appI hC3 (small_of (by omega)) ?_
            refine ⟨Same.mut s3 nC0, ?_, ⟨_, rfl⟩, st, ch ++ [v], ?_, upd_same, ?_⟩
            · rw [upd_ne ncC]
              exact hc3
            · rw [upd_ne nsc]
              exact hS3
            · rw [zz]
              exact F2.chg nd ad (by rw [ecl]; exact es)
          · walk_at "go"
            refine g_appI hS3 (small_of (by omega)) ?_
            refine ⟨Same.mut s3 nS, ?_, ⟨_, rfl⟩, st ++ [v], ch, upd_same, ?_, ?_⟩
            · rw [upd_ne ncS]
              exact hc3
            · rw [upd_ne nsc.symm]
              exact hC3
            · rw [zz]
              exact F2.sty nd ad (by rw [ecl]; exact ne)
        · walk_at "go"
          refine ⟨s3, hc3, ⟨_, rfl⟩, st, ch, hS3, hC3, ?_⟩
          rw [zz]
          exact F2.skip fun z => i1 ((mem_nb good).mpr z.2)
      · walk_at "go"
        refine ⟨s3, hc3, ⟨_, rfl⟩, st, ch, hS3, hC3, ?_⟩
        rw [zz]
        exact F2.skip fun z => dd z.1
    · rintro σ' H2 ⟨sm2, hc2, ⟨w2, rfl⟩, st, ch, hS2, hC2, F2⟩
      rw [Int.toNat_natCast, List.take_of_length_le (by rw [List.length_zip]; omega)] at F2
      refine ⟨sm2, hc2, ⟨_, _, rfl⟩, st, ch, hS2, hC2, fun x => ?_⟩
      have F3 := F2.next (y := x)
      exact ⟨F3.s, F3.c, by have := F3.l; simp; omega⟩
  · rintro σ' H' ⟨sm, hc, ⟨w1, w2, rfl⟩, st, ch, hS, hC, F⟩
    have F := F 0
    have fl := F.l
    have rs : ∀ x ∈ st, 0 ≤ x ∧ x < n := fun x hx => by
      rcases (F.s x).mp hx with ⟨h, _⟩ | ⟨_, p, hp, _⟩
      · exact (outside_rising n ns).2 x h
      · simp at hp
    have rc : ∀ x ∈ ch, 0 ≤ x ∧ x < n := fun x hx => by
      rcases (F.c x).mp hx with ⟨h, _⟩ | ⟨_, p, hp, _⟩
      · exact (outside_rising n ns).2 x h
      · simp at hp
    walk_at "go"
    refine g_set hS (by omega) fun p1 c1 n1 b1 => ?_
    walk_at "go"
    refine g_sortset (ms := sideS n Es ns sp (colM m)) upd_same (by have := b1 n rs; omega) (sideS_rise n Es ns sp (colM m)).1 (fun x => ?_) fun p2 n2 => ?_
    · rw [mem_sideS, F.s]
      simp [Sty]
    have s2 := Same.new (o := .lst ((sideS n Es ns sp (colM m)).map V.int)) (Same.new (Same.refl H') n1) n2
    have hC2 := s2 _ _ hC
    walk_at "go"
    refine g_set hC2 (by omega) fun p3 c3 n3 b3 => ?_
    walk_at "go"
    refine g_sortset (ms := sideC n Es ns sp (colM m)) upd_same (by have := b3 n rc; omega) (sideC_rise n Es ns sp (colM m)).1 (fun x => ?_) fun p4 n4 => ?_
    · rw [mem_sideC, F.c]
      simp [Chg]
    walk_at "go"
    intro t nt
    have s4 := Same.new (o := .lst ((sideC n Es ns sp (colM m)).map V.int)) (Same.new (o := SetO w p3 (fun j => decide (j ∈ ch)) c3) (Same.refl _) n3) n4
    have s24 := Same.trans s2 s4
    exact k _ t p2 p4 (Same.trans sm (Same.new s24 nt)) upd_same (hp_new (s4 _ _ upd_same) nt) (hp_new upd_same nt)

/-! ### law_are_rows -/
open Classical in
noncomputable def dueF (Es : List (Int × Int)) (ns : List Int) (l : List (List Str)) : List (List Str) := l.filter fun sp => decide (RightP Es ns sp) && decide (sp.count dash < ns.length)
theorem dueF_all (Es : List (Int × Int)) (ns : List Int) : dueF Es ns (allF ns.length) = due Es ns := by
  unfold dueF due
  rw [← allF_right, List.filter_filter]
  refine List.filter_congr fun x _ => ?_
  rw [Bool.and_comm]
theorem dueF_yes {Es : List (Int × Int)} {ns : List Int} {l : List (List Str)} {sp : List Str} (h : RightP Es ns sp) (h2 : sp.count dash < ns.length) : dueF Es ns (l ++ [sp]) = dueF Es ns l ++ [sp] := by
  unfold dueF
  rw [List.filter_append]
  simp [h, h2]
theorem dueF_no {Es : List (Int × Int)} {ns : List Int} {l : List (List Str)} {sp : List Str} (h : ¬ (RightP Es ns sp ∧ sp.count dash < ns.length)) : dueF Es ns (l ++ [sp]) = dueF Es ns l := by
  unfold dueF
  rw [List.filter_append]
  by_cases a : RightP Es ns sp
  · have b : ¬ sp.count dash < ns.length := fun b => h ⟨a, b⟩
    simp [b]
  · simp [a]
theorem dueF_len (Es : List (Int × Int)) (ns : List Int) (l : List (List Str)) : (dueF Es ns l).length ≤ l.length := List.length_filter_le _ _
def sp_law_are_rows (K : PySem.W.Frag) : Sp := fun vs H Q _ => ∃ (la a r : Addr) (lk rv : List V) (n : Nat) (Es : List (Int × Int)) (ns : List Int) (col : Int → Int) (rows : List (List Str × List (List Int))), vs = [.int n, .ref la, .ref a, .ref r] ∧ H la = some (.lst lk) ∧ Paired (rInts No H) lk (links n Es) ∧ H a = some (.lst (ns.map V.int)) ∧ H r = some (.lst rv) ∧ Paired (rRow No H) rv rows ∧
  GoodE n Es ∧ n ≤ 40 ∧ Small n Es ns ∧ Canon (Adj (outE Es ns)) (fun v => v ∈ outside n ns) col ∧ RowsOk n Es ns col rows ∧ ∀ H', Same H H' → Q (.bl true) H'
theorem sp_law_are_rows.len {K : PySem.W.Frag} {vs : List V} {H : Hp} {Q : VK} {E : XK} (h : sp_law_are_rows K vs H Q E) : vs.length = (["_law_n", "_law_near_here", "_law_nodes", "_law_rows"] : List Str).length := by
  obtain ⟨la, a, r, lk, rv, n, Es, ns, col, rows, rfl, _⟩ := h
  rfl
theorem pl_same {H H' : Hp} {lk : List V} {ls : List (List Int)} (s : Same H H') (p : Paired (rInts No H) lk ls) : Paired (rInts No H') lk ls := L2.Paired.mapP p fun _ _ z => rInts.frm.mv (.same s) z
abbrev N_law_are_rows : List Str := ["_law_n", "_law_near_here", "_law_nodes", "_law_rows", "_law_colours", "_law_free", "_law_due", "_law_k", "_law_row", "_law_sides_here", "_law_split"]
theorem sc_law_are_rows : FnScope N_law_are_rows ["_law_n", "_law_near_here", "_law_nodes", "_law_rows"] (defScope s_law_are_rows) := ⟨rfl, rfl, rfl, by decide +kernel, rfl, by decide +kernel, by decide +kernel⟩
theorem ok_law_are_rows {P : Program} {w : World} {K : PySem.W.Frag} {mg : Str → Option Value} {base : Heap} (W : Hd K mg) : OkD P w K mg base 13 "_law_are_rows" ["_law_n", "_law_near_here", "_law_nodes", "_law_rows"] (sp_law_are_rows K) := by
  obtain ⟨fd, F⟩ := W.df_law_are_rows
  refine okD_mk F W.mg_law_are_rows (fun _ _ _ _ _ _ us hl => match us, hl with | [_, _, _, _], _ => rfl) ?_
  refine F.ok sc_law_are_rows (fun vs H Q E h => sp_law_are_rows.len h) (fun cdv A outer s H vs Q E hr h => ⟨_, PSs.nox ((pss_cons (ps_set (i := 4) sc_law_are_rows.nd rfl (by first | exact .inl rfl | exact .inr rfl) (pe_callD (ok_law_two W) (hr.mono (by decide)) (pa_cons (pv 1) (pa_cons (pe_callD (ok_law_without W) (hr.mono (by decide)) (pa_cons (pv 0) (pa_cons (pv 2) pa_nil))) pa_nil))))
  (pss_cons (ps_set (i := 5) sc_law_are_rows.nd rfl (by first | exact .inl rfl | exact .inr rfl) (pe_callD (ok_law_without W) (hr.mono (by decide)) (pa_cons (pv 0) (pa_cons (pv 2) pa_nil))))
  (pss_cons (ps_if (pt_not (pt_val (pe_callB (call_isiK K) (by rfl) (W.fr_isinstance) (by decide +kernel) (pa_cons (pv 3) (pa_cons (pe_bltn (v := .ty "list") (by rfl) (W.fr_list) (by decide +kernel) rfl) pa_nil)))))
  (pss_one (ps_ret pe_bl))
  pss_nil)
  (pss_cons (ps_setLc (i := 6) (own := [("_law_split", 10)]) (g := gName 10) rfl sc_law_are_rows.nd rfl rfl (sw_true rfl rfl rfl (by decide +kernel)) (pi_list (pe_callD (ok_law_splits W) (hr.mono (by decide)) (pa_cons (pe_callB (call_lenK K) (by rfl) (W.fr_len) PySem.boot_len (pa_cons (pv 2) pa_nil)) pa_nil))) (blkOk_by (N := N_law_are_rows) (sc := defScope s_law_are_rows) (by decide +kernel)) (fun _ _ _ _ _ => pg_name (i := 10) sc_law_are_rows.nd rfl (Or.inl rfl)) (fun _ _ _ _ _ => pts_one (PW.pt (pw_and (pt_val (pe_callD (ok_law_is_right W) (hr.mono (by decide)) (pa_cons (pv 1) (pa_cons (pv 2) (pa_cons (pv 10) pa_nil))))) (pw_and1 (pt_cmpR op_lt (pe_bmK K PySem.F.plainAttrs_list PySem.F.slot_list_count PySem.F.type_list_count (mt_lcountS K) (pv 10) (pa_cons pe_str pa_nil)) (pe_callB (call_lenK K) (by rfl) (W.fr_len) PySem.boot_len (pa_cons (pv 2) pa_nil)) (nomark _)))))) (fun _ _ _ _ _ => (pv 10)))
  (pss_cons (ps_if (pt_cmpR op_ne (pe_callB (call_lenK K) (by rfl) (W.fr_len) PySem.boot_len (pa_cons (pv 3) pa_nil)) (pe_callB (call_lenK K) (by rfl) (W.fr_len) PySem.boot_len (pa_cons (pv 6) pa_nil)) (nomark _))
  (pss_one (ps_ret pe_bl))
  pss_nil)
  (pss_cons (ps_for PassesOwn.never rfl (pi_range1 (by rfl) (W.fr_range) (pa_cons (pe_callB (call_lenK K) (by rfl) (W.fr_len) PySem.boot_len (pa_cons (pv 6) pa_nil)) pa_nil)) (pg_name (i := 7) sc_law_are_rows.nd rfl (by first | exact .inl rfl | exact .inr rfl))
  (pss_cons (ps_set (i := 8) sc_law_are_rows.nd rfl (by first | exact .inl rfl | exact .inr rfl) (pe_ix (ix_listK K) (pv 3) (pv 7) (fun _ _ => rfl)))
  (pss_cons (ps_if (PW.pt (pw_or (pt_not (pt_val (pe_callB (call_isiK K) (by rfl) (W.fr_isinstance) (by decide +kernel) (pa_cons (pv 8) (pa_cons (pe_bltn (v := .ty "tuple") (by rfl) (W.fr_tuple) (by decide +kernel) rfl) pa_nil))))) (pw_or (pt_cmpR op_ne (pe_callB (call_lenK K) (by rfl) (W.fr_len) PySem.boot_len (pa_cons (pv 8) pa_nil)) pe_int (nomark _)) (pw_or1 (pt_not (pt_val (pe_callD (ok_law_equal W) (hr.mono (by decide)) (pa_cons (pe_ix (ix_tupK K) (pv 8) pe_int (fun _ _ => rfl)) (pa_cons (pe_ix (ix_listK K) (pv 6) (pv 7) (fun _ _ => rfl)) pa_nil)))))))))
  (pss_one (ps_ret pe_bl))
  pss_nil)
  (pss_cons (ps_set (i := 9) sc_law_are_rows.nd rfl (by first | exact .inl rfl | exact .inr rfl) (pe_callD (ok_law_sides W) (hr.mono (by decide)) (pa_cons (pv 1) (pa_cons (pv 2) (pa_cons (pe_ix (ix_listK K) (pv 6) (pv 7) (fun _ _ => rfl)) (pa_cons (pv 4) pa_nil))))))
  (pss_cons (ps_if (pt_not (pt_val (pe_callD (ok_law_are_ways W) (hr.mono (by decide)) (pa_cons (pv 1) (pa_cons (pe_ix (ix_listK K) (pv 9) pe_int (fun _ _ => rfl)) (pa_cons (pe_ix (ix_listK K) (pv 9) pe_int (fun _ _ => rfl)) (pa_cons (pv 5) (pa_cons (pe_ix (ix_tupK K) (pv 8) pe_int (fun _ _ => rfl)) pa_nil))))))))
  (pss_one (ps_ret pe_bl))
  pss_nil)
  (pss_one (ps_if (pt_cmpR op_ne (pe_callB (call_lenK K) (by rfl) (W.fr_len) PySem.boot_len (pa_cons (pe_ix (ix_tupK K) (pv 8) pe_int (fun _ _ => rfl)) pa_nil)) (pe_op op_sub (pe_callB (call_lenK K) (by rfl) (W.fr_len) PySem.boot_len (pa_cons (pv 2) pa_nil)) (pe_bmK K PySem.F.plainAttrs_list PySem.F.slot_list_count PySem.F.type_list_count (mt_lcountS K) (pe_ix (ix_listK K) (pv 6) (pv 7) (fun _ _ => rfl)) (pa_cons pe_str pa_nil))) (nomark _))
  (pss_one (ps_ret pe_bl))
  pss_nil)))))))
  (pss_one (ps_ret pe_bl))))))))), ?_⟩)
  try dsimp only [cxOf, Cx.nox, Cx.wish]
  obtain ⟨la, a, r, lk, rv, n, Es, ns, col, rows, rfl, hla, pl, ha, hr', pr, good, h40, ⟨ri, bp, l5⟩, C', RO, k⟩ := h
  have rl2 := Paired.len pr
  walk_at "go"
  refine ⟨n, a, ns, rfl, ha, by omega, fun H1 p1 s1 np1 hp1 => ?_⟩
  walk_at "go"
  refine ⟨la, p1, lk, n, Es, ns, rfl, s1 _ _ hla, pl_same s1 pl, hp1, good, h40, fun _ H2 d m s2 nd hd ndm mem C => ?_, fun nb => absurd bp nb⟩
  have s12 := Same.trans s1 s2
  walk_at "go"
  refine ⟨n, a, ns, rfl, s12 _ _ ha, by omega, fun H3 p3 s3 np3 hp3 => ?_⟩
  have s13 := Same.trans s12 s3
  have hr3 := s13 _ _ hr'
  have ha3 := s13 _ _ ha
  walk_at "go"
  refine ⟨ns.length, rfl, l5, fun H5 sv s5 rs => ?_⟩
  obtain ⟨svs, ⟨sa, rfl, nsa, hsa⟩, psv⟩ := rs
  have s15 := Same.trans s13 s5
  have al : (allF ns.length).length ≤ 3 ^ 5 := by rw [allF_len]; exact Nat.pow_le_pow_right (by omega) l5
  walk_at "go"
  refine lc_rep (R := rStrs (Trk H3) H5) (h := hsa) (pr := psv) (fun D pre H' => Same H5 H' ∧ ∃ xs, H' D = some (.lst xs) ∧ Paired (fun x sp => ∃ q, x = .ref q ∧ H5 q = some (.lst (sp.map V.str))) xs (dueF Es ns pre)) ?_ ?_ ?_ ?_
  · exact fun D nD => ⟨Same.new (Same.refl _) nD, [], upd_same, .nil⟩
  · rintro D pre H' nD _ ⟨sm, _⟩
    exact sm _ _ hsa
  · rintro D pre x sp post H' nD esp ⟨q, rfl, _, hq⟩ ⟨sm, xs, hD, px⟩
    have hq' := sm _ _ hq
    have s1' := Same.trans s15 sm
    have ha' := s1' _ _ ha
    have lsp := (allF_mem (k := ns.length) (s := sp) (by rw [esp]; simp)).1
    have pl' : pre.length < 3 ^ 5 := by have := congrArg List.length esp; simp at this; omega
    have xl := Paired.len px
    have fl := dueF_len Es ns pre
    walk_at "go"
    refine ⟨la, a, q, lk, n, Es, ns, sp, rfl, s1' _ _ hla, pl_same s1' pl, ha', hq', good, h40, ri, lsp, fun b hb => ?_⟩
    walk_at "go"
    cases b with
    | false =>
      walk_at "go"
      refine ⟨sm, xs, hD, ?_⟩
      rw [dueF_no fun z => Bool.false_ne_true (hb.mpr z.1)]
      exact px
    | true =>
      walk_at "go"
      refine g_ite (fun lt => ?_) (fun nlt => ?_)
      · have lt : sp.count dash < ns.length := by
          have : ((sp.count dash : Nat) : Int) < (ns.length : Nat) := lt
          omega
        walk_at "go"
        refine ⟨xs, hD, small_of (by omega), Same.mut sm nD, _, upd_same, ?_⟩
        rw [dueF_yes (hb.mp rfl) lt]
        exact Paired.snoc px ⟨q, rfl, hq⟩
      · have nlt : ¬ sp.count dash < ns.length := by
          have : ¬ ((sp.count dash : Nat) : Int) < (ns.length : Nat) := nlt
          omega
        refine ⟨sm, xs, hD, ?_⟩
        rw [dueF_no fun z => nlt z.2]
        exact px
  rintro D H6 nD ⟨s6, xs, hD, px⟩
  rw [dueF_all] at px
  have xl := Paired.len px
  have s16 := Same.trans s15 s6
  have hr6 := s16 _ _ hr'
  have dl : rows.length = (due Es ns).length := by rw [← RO.sp, List.length_map]
  walk_at "go"
  refine g_iteQ (by omega) ?_
  walk_at "go"
  refine for_rng1 (n := (xs.length : Nat)) (by omega) (by
    have h1 := dueF_len Es ns (allF ns.length)
    rw [dueF_all] at h1
    omega) (fun i σ' H' => (∃ w7 w8 w9 : Option V, σ' = [some (.int n), some (.ref la), some (.ref a), some (.ref r), some (.ref d), some (.ref p3), some (.ref D), w7, w8, w9, none]) ∧ Same H6 H') ?_ ?_ ?_
  · exact ⟨⟨_, _, _, rfl⟩, Same.refl _⟩
  · rintro i σ' H7 hi ⟨⟨w7, w8, w9, rfl⟩, sm⟩
    have il : i < xs.length := by omega
    obtain ⟨sp, hsp, ⟨q, eq, hq⟩⟩ := Paired.get px (List.getElem?_eq_getElem il)
    obtain ⟨x, hx⟩ : ∃ x, rv[i]? = some x := ⟨_, List.getElem?_eq_getElem (by omega)⟩
    obtain ⟨row, hrow, ⟨x1, y1, ⟨t, rfl, _, ht⟩, ⟨q1, rfl, _, hq1⟩, rW⟩⟩ := Paired.get pr hx
    have hxs : xs[i]? = some (.ref q) := by rw [List.getElem?_eq_getElem il, eq]
    obtain ⟨wvs, ⟨wa, rfl, _, hwa⟩, pw⟩ := id rW
    have esp : row.1 = sp := by
      have h1 := RO.sp
      have h2 : (rows.map (·.1))[i]? = some row.1 := by rw [List.getElem?_map, hrow]; rfl
      rw [h1, hsp] at h2
      exact (Option.some.inj h2).symm
    have mrow := List.mem_of_getElem? hrow
    have msp := due_mem (List.mem_of_getElem? hsp)
    obtain ⟨lsp, hL, _⟩ := mem_spl.mp msp.1
    have rok := RO.ok row mrow
    have s17 := Same.trans s16 sm
    have hr7 := s17 _ _ hr'
    have hD7 := sm _ _ hD
    have ht7 := s17 _ _ ht
    have hq17 := s17 _ _ hq1
    have hq7 := (Same.trans s6 sm) _ _ hq
    have hd7 := (Same.trans s3 (Same.trans s5 (Same.trans s6 sm))) _ _ hd
    have ha7 := s17 _ _ ha
    have hwa7 := s17 _ _ hwa
    have hp7 := (Same.trans s5 (Same.trans s6 sm)) _ _ hp3
    have gr : ∀ {l : List V} {z : V}, l[i]? = some z → atI l (i : Nat) = some z := fun h => atI_at (by omega) (by rw [Int.toNat_natCast]; exact h)
    walk_at "go"
    refine g_ix hr7 (gr hx) ?_
    walk_at "go"
    refine g_iteQ (by simp) ?_
    walk_at "go"
    refine g_ix hD7 (gr hxs) ?_
    walk_at "go"
    refine ⟨.ref q1, .ref q, rfl, EqV.strs (ns := sp) (by rw [← esp]; exact hq17) hq7 (by omega), ?_⟩
    walk_at "go"
    refine g_ix hD7 (gr hxs) ?_
    walk_at "go"
    refine ⟨la, a, q, d, lk, n, Es, ns, sp, m, rfl, s17 _ _ hla, pl_same s17 pl, ha7, hq7, hd7, good, h40, l5, lsp, ndm, mem, C.two, fun H8 p8 x8 y8 s8 hp8 hx8 hy8 => ?_⟩
    have s18 := Same.trans s17 s8
    have ht8 := s8 _ _ ht7
    walk_at "go"
    refine g_ix hp8 at0 ?_
    walk_at "go"
    refine g_ix hp8 (i := 1) (atI_at (by decide) rfl) ?_
    walk_at "go"
    have eS := sideS_uniq (Es := Es) (sp := sp) fun v hv => canon_uniq good C C' hv
    have eC := sideC_uniq (Es := Es) (sp := sp) fun v hv => canon_uniq good C C' hv
    have wl : row.2.length ≤ 5 := by rw [rok.len]; omega
    refine ⟨la, x8, y8, p3, .ref wa, lk, n, Es, ns, sideS n Es ns sp (colM m), sideC n Es ns sp (colM m), row.2, rfl, s18 _ _ hla, pl_same s18 pl, hx8, hy8, s8 _ _ hp7, rWs.frm.mv (.same s18) rW, good, h40, fun v hv => (mem_outside.mp (mem_sideS.mp hv).1).2, ?_, rok.apart, by omega, fun H9 s9 => ?_⟩
    · intro w hw
      rw [eS, eC, ← esp]
      exact rok.way w hw
    have s79 := Same.trans s8 s9
    have ht9 := s79 _ _ ht7
    have hwa9 := s79 _ _ hwa7
    have ha9 := s79 _ _ ha7
    have hq9 := s79 _ _ hq7
    have hD9 := s79 _ _ hD7
    have wl2 := Paired.len pw
    walk_at "go"
    refine g_ix hD9 (gr hxs) ?_
    walk_at "go"
    refine g_iteQ (fun z => z ?_) ?_
    · have h1 := rok.len
      rw [esp] at h1
      have h2 := msp.2
      show ((wvs.length : Nat) : Int) = (ns.length : Nat) - ((sp.count dash : Nat) : Int)
      omega
    · exact ⟨⟨_, _, _, rfl⟩, Same.trans sm s79⟩
  · rintro σ' H' ⟨⟨w7, w8, w9, rfl⟩, sm⟩
    walk_at "go"
    exact k H' (Same.trans s16 sm)

/-! ### law_told_right, law_same -/
/-- the least size of an odd set -/
def LeastOdd (n : Nat) (Es : List (Int × Int)) (k : Nat) : Prop := (∀ T, Rising n T → Bip (Adj (outE Es T)) → k ≤ T.length) ∧ ∃ T, Rising n T ∧ Bip (Adj (outE Es T)) ∧ T.length = k
def sp_law_told_right (K : PySem.W.Frag) : Sp := fun vs H Q _ => ∃ (g tv : V) (la a : Addr) (lk : List V) (n : Nat) (Es : List (Int × Int)) (ns : List Int) (least : Nat), vs = [g, .ref la, .ref a, .int least, tv] ∧ rGraph K No H g (n, Es) ∧ H la = some (.lst lk) ∧ Paired (rInts No H) lk (links n Es) ∧ H a = some (.lst (ns.map V.int)) ∧
  GoodE n Es ∧ n ≤ 40 ∧ Small n Es ns ∧ LeastOdd n Es least ∧ Told n Es ns No H tv ∧ ∀ H', Same H H' → Q (.bl true) H'
theorem sp_law_told_right.len {K : PySem.W.Frag} {vs : List V} {H : Hp} {Q : VK} {E : XK} (h : sp_law_told_right K vs H Q E) : vs.length = (["_law_graph", "_law_near_here", "_law_nodes", "_law_least", "_law_told"] : List Str).length := by
  obtain ⟨g, tv, la, a, lk, n, Es, ns, least, rfl, _⟩ := h
  rfl
theorem due_len (Es : List (Int × Int)) (ns : List Int) (h : ns.length ≤ 5) : (due Es ns).length ≤ 3 ^ 5 := Nat.le_trans (List.length_filter_le _ _) (Nat.le_trans (spl_len Es ns _) (Nat.pow_le_pow_right (by omega) h))
abbrev N_law_told_right : List Str := ["_law_graph", "_law_near_here", "_law_nodes", "_law_least", "_law_told", "_law_n"]
theorem sc_law_told_right : FnScope N_law_told_right ["_law_graph", "_law_near_here", "_law_nodes", "_law_least", "_law_told"] (defScope s_law_told_right) := ⟨rfl, rfl, rfl, by decide +kernel, rfl, by decide +kernel, by decide +kernel⟩
theorem ok_law_told_right {P : Program} {w : World} {K : PySem.W.Frag} {mg : Str → Option Value} {base : Heap} (W : Hd K mg) : OkD P w K mg base 14 "_law_told_right" ["_law_graph", "_law_near_here", "_law_nodes", "_law_least", "_law_told"] (sp_law_told_right K) := by
  obtain ⟨fd, F⟩ := W.df_law_told_right
  refine okD_mk F W.mg_law_told_right (fun _ _ _ _ _ _ us hl => match us, hl with | [_, _, _, _, _], _ => rfl) ?_
  refine F.ok sc_law_told_right (fun vs H Q E h => sp_law_told_right.len h) (fun cdv A outer s H vs Q E hr h => ⟨_, PSs.nox ((pss_cons (ps_set (i := 5) sc_law_told_right.nd rfl (by first | exact .inl rfl | exact .inr rfl) (pe_callB (call_lenK K) (by rfl) (W.fr_len) PySem.boot_len (pa_cons (pv 1) pa_nil)))
  (pss_cons (ps_if (PW.pt (pw_or (pt_not (pt_val (pe_callB (call_isiK K) (by rfl) (W.fr_isinstance) (by decide +kernel) (pa_cons (pv 4) (pa_cons (pe_bltn (v := .ty "tuple") (by rfl) (W.fr_tuple) (by decide +kernel) rfl) pa_nil))))) (pw_or1 (pt_cmpR op_ne (pe_callB (call_lenK K) (by rfl) (W.fr_len) PySem.boot_len (pa_cons (pv 4) pa_nil)) pe_int (nomark _)))))
  (pss_one (ps_ret pe_bl))
  pss_nil)
  (pss_cons (ps_if (pt_cmpR op_eq (pv 3) (pe_callB (call_lenK K) (by rfl) (W.fr_len) PySem.boot_len (pa_cons (pv 2) pa_nil)) (nomark _))
  (pss_cons (ps_if (PW.pt (pw_or (pt_cmpR op_ne (pe_ix (ix_tupK K) (pv 4) pe_int (fun _ _ => rfl)) pe_str (nomark _)) (pw_or1 (pt_not (pt_val (pe_callD (ok_law_are_rows W) (hr.mono (by decide)) (pa_cons (pv 5) (pa_cons (pv 1) (pa_cons (pv 2) (pa_cons (pe_ix (ix_tupK K) (pv 4) pe_int (fun _ _ => rfl)) pa_nil))))))))))
  (pss_one (ps_ret pe_bl))
  pss_nil)
  (pss_cons (ps_if (PW.pt (pw_and (pt_cmpR op_gt (pe_callB (call_lenK K) (by rfl) (W.fr_len) PySem.boot_len (pa_cons (pe_ix (ix_tupK K) (pv 4) pe_int (fun _ _ => rfl)) pa_nil)) pe_int (nomark _)) (pw_and1 (pt_cmpR op_notBq (pe_callD (ok_refuses_odd W) (hr.mono (by decide)) (pa_cons (pv 0) (pa_cons (pe_callTy (call_listK K) (by rfl) (W.fr_list) (by decide +kernel) (pa_cons (pv 2) pa_nil)) (pa_cons (pe_slice (sl_listK K) (pe_ix (ix_tupK K) (pv 4) pe_int (fun _ _ => rfl)) po_none (po_some (pe_un un_neg pe_int))) pa_nil)))) pe_bl (nomark _)))))
  (pss_one (ps_ret pe_bl))
  pss_nil)
  (pss_one (ps_ret (pe_cmpR op_isBq (pe_callD (ok_refuses_odd W) (hr.mono (by decide)) (pa_cons (pv 0) (pa_cons (pe_callTy (call_listK K) (by rfl) (W.fr_list) (by decide +kernel) (pa_cons (pv 2) pa_nil)) (pa_cons (pe_ix (ix_tupK K) (pv 4) pe_int (fun _ _ => rfl)) pa_nil)))) pe_bl (nomark _))))))
  pss_nil)
  (pss_cons (ps_if (PW.pt (pw_or (pt_cmpR op_ne (pe_ix (ix_tupK K) (pv 4) pe_int (fun _ _ => rfl)) pe_str (nomark _)) (pw_or (pt_not (pt_val (pe_callD (ok_law_is_nodes W) (hr.mono (by decide)) (pa_cons (pv 5) (pa_cons (pe_ix (ix_tupK K) (pv 4) pe_int (fun _ _ => rfl)) pa_nil))))) (pw_or1 (pt_cmpR op_ge (pe_callB (call_lenK K) (by rfl) (W.fr_len) PySem.boot_len (pa_cons (pe_ix (ix_tupK K) (pv 4) pe_int (fun _ _ => rfl)) pa_nil)) (pe_callB (call_lenK K) (by rfl) (W.fr_len) PySem.boot_len (pa_cons (pv 2) pa_nil)) (nomark _))))))
  (pss_one (ps_ret pe_bl))
  pss_nil)
  (pss_one (ps_ret (pe_cmpR op_notNq (pe_callD (ok_law_two W) (hr.mono (by decide)) (pa_cons (pv 1) (pa_cons (pe_callD (ok_law_without W) (hr.mono (by decide)) (pa_cons (pv 5) (pa_cons (pe_ix (ix_tupK K) (pv 4) pe_int (fun _ _ => rfl)) pa_nil))) pa_nil))) pe_non (nomark _))))))))), ?_⟩)
  try dsimp only [cxOf, Cx.nox, Cx.wish]
  obtain ⟨gv, tv, la, a, lk, n, Es, ns, least, rfl, rg, hla, pl, ha, good, h40, sml, lo, told, k⟩ := h
  obtain ⟨g, dx, e, l, rfl, _, hg, re, rl⟩ := id rg
  obtain ⟨ri, bp, l5⟩ := id sml
  have lkl : lk.length = n := (Paired.len pl).trans (links_len n Es)
  rcases told with ⟨T, rT, bT, lT, t1, ⟨t, rfl, _, ht⟩, ⟨q, rfl, _, hq⟩⟩ | ⟨col, rows, C, RO, full, t1, ⟨t, rfl, _, ht⟩, ⟨rv, ⟨r, rfl, _, hr'⟩, pr⟩⟩
  · have ll := lo.1 T rT bT
    walk_at "go"
    refine g_iteQ (by simp) ?_
    walk_at "go"
    refine g_iteQ (by omega) ?_
    walk_at "go"
    refine g_iteQ (fun z => z rfl) ?_
    walk_at "go"
    rw [lkl]
    refine ⟨n, q, T, rfl, hq, rT, by omega, fun H1 s1 => ?_⟩
    have ht1 := s1 _ _ ht
    have hq1 := s1 _ _ hq
    have ha1 := s1 _ _ ha
    walk_at "go"
    refine g_iteQ (by omega) ?_
    walk_at "go"
    refine ⟨n, q, T, rfl, hq1, by omega, fun H2 p s2 np hp => ?_⟩
    have s12 := Same.trans s1 s2
    walk_at "go"
    refine ⟨la, p, lk, n, Es, T, rfl, s12 _ _ hla, pl_same s12 pl, hp, good, h40, fun _ H3 d m s3 nd hd ndm mem C => ?_, fun nb => absurd bT nb⟩
    walk_at "go"
    exact k H3 (Same.trans s12 s3)
  · obtain ⟨T, rT, bT, lT⟩ := lo.2
    have l1 := full T rT bT
    have l2 := lo.1 ns ri bp
    have rl2 := Paired.len pr
    have dl : rows.length = (due Es ns).length := by rw [← RO.sp, List.length_map]
    have due5 := due_len Es ns l5
    walk_at "go"
    refine g_iteQ (by simp) ?_
    walk_at "go"
    refine g_iteP (by omega) ?_
    walk_at "go"
    refine g_iteQ (fun z => z rfl) ?_
    walk_at "go"
    rw [lkl]
    refine ⟨la, a, r, lk, rv, n, Es, ns, col, rows, rfl, hla, pl, ha, hr', pr, good, h40, sml, C, RO, fun H1 s1 => ?_⟩
    have ht1 := s1 _ _ ht
    have hr1 := s1 _ _ hr'
    have ha1 := s1 _ _ ha
    have last : ∀ H', Same H1 H' → (∀ H'', Same H1 H'' → Q (.bl true) H'') → True := fun _ _ _ => trivial
    walk_at "go"
    refine g_ite (fun gt => ?_) (fun ngt => ?_)
    · rcases List.eq_nil_or_concat rv with rfl | ⟨xs, x, rfl⟩
      · simp at gt
      rw [List.concat_eq_append] at *
      walk_at "go"
      intro c1 nc1
      have s2 : Same H1 (upd H1 c1 (.lst (ns.map V.int))) := Same.new (Same.refl _) nc1
      have hc1 : upd H1 c1 (.lst (ns.map V.int)) c1 = some (.lst (ns.map V.int)) := upd_same
      generalize upd H1 c1 (.lst (ns.map V.int)) = H2 at s2 hc1 ⊢
      have ht2 := s2 _ _ ht1
      have hr2 := s2 _ _ hr1
      walk_at "go"
      intro c2 nc2
      rw [cut_last]
      have s3 : Same H2 (upd H2 c2 (.lst xs)) := Same.new (Same.refl _) nc2
      have s13 := Same.trans s1 (Same.trans s2 s3)
      walk_at "go"
      refine ⟨.ref g, c1, c2, n, Es, ns, xs, false, rfl, rGraph.frm.mv (.same s13) rg, s3 _ _ hc1, upd_same, good, h40, sml, ?_, fun z => (Bool.false_ne_true z).elim, fun _ => ?_, fun H4 s4 => ?_⟩
      · simp at rl2
        omega
      · simp at rl2
        omega
      have s14 := Same.trans s13 s4
      have ht4 := s14 _ _ ht
      have ha4 := s14 _ _ ha
      have hr4 := s14 _ _ hr'
      walk_at "go"
      refine g_iteNP rfl ?_
      walk_at "go"
      intro c3 nc3
      have s5 : Same H4 (upd H4 c3 (.lst (ns.map V.int))) := Same.new (Same.refl _) nc3
      have hc3 : upd H4 c3 (.lst (ns.map V.int)) c3 = some (.lst (ns.map V.int)) := upd_same
      generalize upd H4 c3 (.lst (ns.map V.int)) = H5 at s5 hc3 ⊢
      have s15 := Same.trans s14 s5
      have ht5 := s15 _ _ ht
      walk_at "go"
      refine ⟨.ref g, c3, r, n, Es, ns, xs ++ [x], true, rfl, rGraph.frm.mv (.same s15) rg, hc3, s15 _ _ hr', good, h40, sml, by omega, fun _ => ⟨col, rows, C, RO, L2.Paired.mapP pr fun _ _ z => rRow.frm.mv (.same s15) z⟩, fun z => Bool.noConfusion z, fun H6 s6 => ?_⟩
      walk_at "go"
      exact k H6 (Same.trans s15 s6)
    · walk_at "go"
      intro c3 nc3
      have s5 : Same H1 (upd H1 c3 (.lst (ns.map V.int))) := Same.new (Same.refl _) nc3
      have hc3 : upd H1 c3 (.lst (ns.map V.int)) c3 = some (.lst (ns.map V.int)) := upd_same
      generalize upd H1 c3 (.lst (ns.map V.int)) = H5 at s5 hc3 ⊢
      have s15 := Same.trans s1 s5
      have ht5 := s15 _ _ ht
      walk_at "go"
      refine ⟨.ref g, c3, r, n, Es, ns, rv, true, rfl, rGraph.frm.mv (.same s15) rg, hc3, s15 _ _ hr', good, h40, sml, by omega, fun _ => ⟨col, rows, C, RO, L2.Paired.mapP pr fun _ _ z => rRow.frm.mv (.same s15) z⟩, fun z => Bool.noConfusion z, fun H6 s6 => ?_⟩
      walk_at "go"
      exact k H6 (Same.trans s15 s6)
def sp_law_same (K : PySem.W.Frag) : Sp := fun vs H Q _ => ∃ (g ev : V) (n : Nat) (Es : List (Int × Int)), vs = [g, .int n, ev] ∧ rGraph K No H g (n, Es) ∧ rLst rPair No H ev Es ∧ GoodE n Es ∧ n ≤ 40 ∧ ∀ H', Same H H' → Q (.bl true) H'
theorem sp_law_same.len {K : PySem.W.Frag} {vs : List V} {H : Hp} {Q : VK} {E : XK} (h : sp_law_same K vs H Q E) : vs.length = (["_law_graph", "_law_n", "_law_edges_here"] : List Str).length := by
  obtain ⟨g, ev, n, Es, rfl, _⟩ := h
  rfl
abbrev N_law_same : List Str := ["_law_graph", "_law_n", "_law_edges_here", "_law_near_here", "_law_v"]
theorem sc_law_same : FnScope N_law_same ["_law_graph", "_law_n", "_law_edges_here"] (defScope s_law_same) := ⟨rfl, rfl, rfl, by decide +kernel, rfl, by decide +kernel, by decide +kernel⟩
theorem ok_law_same {P : Program} {w : World} {K : PySem.W.Frag} {mg : Str → Option Value} {base : Heap} (W : Hd K mg) : OkD P w K mg base 13 "_law_same" ["_law_graph", "_law_n", "_law_edges_here"] (sp_law_same K) := by
  obtain ⟨fd, F⟩ := W.df_law_same
  refine okD_mk F W.mg_law_same (fun _ _ _ _ _ _ us hl => match us, hl with | [_, _, _], _ => rfl) ?_
  refine F.ok sc_law_same (fun vs H Q E h => sp_law_same.len h) (fun cdv A outer s H vs Q E hr h => ⟨_, PSs.nox ((pss_cons (ps_if (PW.pt (pw_or (pt_not (pt_val (pe_callD (ok_law_equal W) (hr.mono (by decide)) (pa_cons (pe_fld (pv 0) rfl) (pa_cons (pv 1) pa_nil))))) (pw_or1 (pt_not (pt_val (pe_callD (ok_law_equal W) (hr.mono (by decide)) (pa_cons (pe_fld (pv 0) rfl) (pa_cons (pv 2) pa_nil))))))))
  (pss_one (ps_ret pe_bl))
  pss_nil)
  (pss_cons (ps_set (i := 3) sc_law_same.nd rfl (by first | exact .inl rfl | exact .inr rfl) (pe_callD (ok_law_near W) (hr.mono (by decide)) (pa_cons (pv 1) (pa_cons (pv 2) pa_nil))))
  (pss_cons (ps_for PassesOwn.never rfl (pi_range1 (by rfl) (W.fr_range) (pa_cons (pv 1) pa_nil)) (pg_name (i := 4) sc_law_same.nd rfl (by first | exact .inl rfl | exact .inr rfl))
  (pss_one (ps_if (pt_not (pt_val (pe_callD (ok_law_equal W) (hr.mono (by decide)) (pa_cons (pe_methG W (ok_Graph_neighbours W) W.me_neighbours (pv 0) (hr.mono (by decide)) (pa_cons (pv 4) pa_nil)) (pa_cons (pe_ix (ix_listK K) (pv 3) (pv 4) (fun _ _ => rfl)) pa_nil)))))
  (pss_one (ps_ret pe_bl))
  pss_nil)))
  (pss_one (ps_ret pe_bl)))))), ?_⟩)
  try dsimp only [cxOf, Cx.nox, Cx.wish]
  obtain ⟨gv, ev, n, Es, rfl, rg, re2, good, h40, k⟩ := h
  obtain ⟨g, dx, e, l, rfl, _, hg, re, rl⟩ := id rg
  obtain ⟨es, ⟨ea, rfl, _, he⟩, pe⟩ := re
  obtain ⟨es2, ⟨ea2, rfl, _, he2⟩, pe2⟩ := id re2
  have el := edges_small good h40
  walk_at "go"
  refine ⟨.int n, .int n, rfl, .inl ⟨n, rfl, rfl⟩, ?_⟩
  walk_at "go"
  refine ⟨.ref ea, .ref ea2, rfl, EqV.pairs he he2 pe pe2 (by show Es.length ≤ 10000; omega), ?_⟩
  walk_at "go"
  refine ⟨n, .ref ea2, Es, rfl, re2, good, h40, fun H1 v s1 r1 => ?_⟩
  obtain ⟨lk, ⟨la, rfl, _, hla⟩, pl⟩ := r1
  walk_at "go"
  refine for_rng1 (n := (n : Nat)) (by omega) (by omega) (fun i σ' H' => Same H1 H' ∧ ∃ u : Option V, σ' = [some (.ref g), some (.int n), some (.ref ea2), some (.ref la), u]) ?_ ?_ ?_
  · exact ⟨Same.refl _, _, rfl⟩
  · rintro i σ' H' hi ⟨sm, u, rfl⟩
    have sH := Same.trans s1 sm
    have hg' := sH _ _ hg
    walk_at "go"
    refine ⟨g, dx, _, rfl, hg', gfs_no (by decide +kernel) (by decide +kernel) (by decide +kernel), ?_⟩
    walk_at "go"
    refine ⟨.ref g, n, Es, (i : Nat), rfl, rGraph.frm.mv (.same sH) rg, by omega, by omega, fun H2 x s2 rx => ?_⟩
    obtain ⟨xa, rfl, _, hxa⟩ := rx
    obtain ⟨y, hy, ⟨b, rfl, _, hb⟩⟩ := Paired.get' pl (links_get (n := n) (E := Es) (v := i) (by omega))
    have hla2 := (Same.trans sm s2) _ _ hla
    have hb2 := (Same.trans sm s2) _ _ hb
    have nbl : (nb Es (i : Nat)).length ≤ 10000 := by
      have := adjs_len good ((i : Nat) : Int)
      unfold nb
      rw [(isort_perm _).length_eq]
      omega
    walk_at "go"
    refine g_ix hla2 (atI_at (by omega) (by rw [Int.toNat_natCast]; exact hy)) ?_
    walk_at "go"
    refine ⟨.ref xa, .ref b, rfl, EqV.ints hxa hb2 nbl, ?_⟩
    walk_at "go"
    exact ⟨Same.trans sm s2, _, rfl⟩
  · rintro σ' H' ⟨sm, u, rfl⟩
    walk_at "go"
    exact k H' (Same.trans s1 sm)

/-! ### law_equal, where an exception is handled -/
def OkDH (P : Program) (w : World) (K : PySem.W.Frag) (mg : Str → Option Value) (base : Heap) (k : Nat) (x : Str) (ps : List Str) (sp : Sp) : Prop :=
  ∃ fd, L2H.FnH P w K mg base CX0 k (He.ga K x) fd ps sp ∧ mg x = some (.ref (He.ga K x)) ∧ PySem.W.keepIn K (.ref (He.ga K x)) = true ∧ Binds K fd ps []
theorem funD_okH {P : Program} {w : World} {K : PySem.W.Frag} {mg : Str → Option Value} {base : Heap} {x qual : Str} {params : Arguments} {body : List Stmt} {scope : Scope} {f : Addr} {fd : FuncData} {N ps : List Str} {k : Nat} {sp : Sp} (F : FunD K x qual params body scope [] [] f fd) (S : FnScope N ps scope) (len : ∀ vs H Q E, sp vs H Q E → vs.length = ps.length)
    (hbody : ∀ (cdv : Value) (A : Around) (outer : List Env) (s : Shared) (H : Hp) (vs : List V) (Q : VK) (E : XK) (p : Addr × Obj), L2H.Hot1 A p → L2H.RoomH k (A.deeper (envOfC qual scope s.heap.objs.size f cdv)) → sp vs H Q E →
      ∃ t, PSs (L2H.cxH CX0 P w K mg base N qual scope f cdv A outer s H E p) body t ∧ t { nx := fun _ H' => Q .non H', rt := Q } (start N vs) H) : L2H.FnH P w K mg base CX0 (k + 1) f fd ps sp := by
  obtain ⟨oc, od, dV, kV, doc, pm, an, cdv, ct, osl, rfl, lk, hcd, _, _⟩ := F.ex
  exact L2H.fn_ofH lk hcd S len fun A outer s H vs Q E p hot hr hsp => hbody cdv A outer s H vs Q E p hot hr hsp
theorem okDH_mk {P : Program} {w : World} {K : PySem.W.Frag} {mg : Str → Option Value} {base : Heap} {k : Nat} {x q : Str} {ps : List Str} {sp : Sp} {pa : Arguments} {bd : List Stmt} {sc : Scope} {fd : FuncData}
    (F : FunD K x q pa bd sc [] [] (He.ga K x) fd) (g : mg x = some (.ref (He.ga K x)))
    (h : ∀ (kV doc pm : Value) (an : Option Addr) (cdv ct : Value) (us : List Value), us.length = ps.length → bindArgs (PySem.W.fnOf x q pa bd sc .none kV doc pm an cdv ct) ⟨us, []⟩ = pure (ps.zip us))
    (ok : L2H.FnH P w K mg base CX0 k (He.ga K x) fd ps sp) : OkDH P w K mg base k x ps sp := ⟨fd, ok, g, F.kp, F.bindsN h⟩
theorem pe_callHD {X : Cx} {k : Nat} {x : Str} {ps : List Str} {sp : Sp} {p pos : Pos} {e : Expr} {es : List Expr} {t : TA} (D : OkDH X.prog X.w X.K X.mg X.base k x ps sp) (hr : L2H.RoomH k X.A) (hot : L2H.HotC X) (ha : PA X (e :: es) t) (hg : Gl X x := by rfl)
    (hdb : (x == ("__debug__" : Str)) = false := by decide) (he : starEach (e :: es) X.env = (false, eval e X.env) :: starEach es X.env := by rfl) (hpl : (backTo pos (starEach es X.env)).any (·.1) = false := by rfl) :
    PE X (.Call (.Name x p) (e :: es) [] pos) (tCallS sp (fun _ => E0) t) := by
  obtain ⟨fd, F, hm, hk, hb⟩ := D
  exact L2H.pe_callH F hr hot hg hm hk hb (fun _ _ _ _ _ _ _ z => z.elim) ha hdb he hpl
theorem g_callS {sp : Sp} {tr : TA} {σ : L2.St} {H : Hp} {Q : VK} (h : tr σ H fun vs H1 => sp vs H1 Q E0) : tCallS sp (fun _ => E0) tr σ H Q := h
section
variable {P : Program} {w : World} {K : PySem.W.Frag} {mg : Str → Option Value} {base : Heap}
theorem all_noH (W : Hd K mg) : OkDH P w K mg base 0 "_law_all_equal" eqPs NoSp := by
  obtain ⟨fd, F⟩ := W.df_law_all_equal
  exact okDH_mk F W.mg_law_all_equal (fun _ _ _ _ _ _ us hl => match us, hl with | [_, _], _ => rfl) ⟨fun _ _ _ _ h => h.elim, fun _ _ _ _ _ _ _ _ _ _ _ _ _ _ _ _ h => h.elim⟩
theorem eq_0H (W : Hd K mg) {j : Nat} (A : OkDH P w K mg base j "_law_all_equal" eqPs NoSp) : OkDH P w K mg base (j + 1) "_law_equal" eqPs (EqSp 0) := by
  obtain ⟨fd, F⟩ := W.df_law_equal
  refine okDH_mk F W.mg_law_equal (fun _ _ _ _ _ _ us hl => match us, hl with | [_, _], _ => rfl) ?_
  refine funD_okH F sc_law_equal (fun vs H Q E h => by obtain ⟨x, y, rfl, _⟩ := h; rfl) (fun cdv A' outer s H vs Q E p hot1 hr h => ?_)
  have hot : L2H.HotC (L2H.cxH CX0 P w K mg base N_law_equal "_law_equal" (defScope s_law_equal) (He.ga K "_law_equal") cdv A' outer s H E p).nox := ⟨p, ⟨hot1.1, hot1.2⟩, List.mem_singleton_self p⟩
  refine ⟨_, PSs.nox ((pss_cons (ps_if (pt_val (pe_callB (call_isiK K) (by rfl) (W.fr_isinstance) (by decide +kernel) (pa_cons (pv 1) (pa_cons (pe_bltn (v := .ty "list") (by rfl) (W.fr_list) (by decide +kernel) rfl) pa_nil))))
  (pss_cons (ps_if (PW.pt (pw_or (pt_not (pt_val (pe_callB (call_isiK K) (by rfl) (W.fr_isinstance) (by decide +kernel) (pa_cons (pv 0) (pa_cons (pe_bltn (v := .ty "list") (by rfl) (W.fr_list) (by decide +kernel) rfl) pa_nil))))) (pw_or1 (pt_cmpR op_ne (pe_callB (call_lenK K) (by rfl) (W.fr_len) PySem.boot_len (pa_cons (pv 0) pa_nil)) (pe_callB (call_lenK K) (by rfl) (W.fr_len) PySem.boot_len (pa_cons (pv 1) pa_nil)) (nomark _)))))
  (pss_one (ps_ret pe_bl))
  pss_nil)
  (pss_one (ps_ret (pe_callHD A hr hot (pa_cons (pv 0) (pa_cons (pv 1) pa_nil))))))
  pss_nil)
  (pss_cons (ps_if (pt_val (pe_callB (call_isiK K) (by rfl) (W.fr_isinstance) (by decide +kernel) (pa_cons (pv 1) (pa_cons (pe_bltn (v := .ty "tuple") (by rfl) (W.fr_tuple) (by decide +kernel) rfl) pa_nil))))
  (pss_cons (ps_if (PW.pt (pw_or (pt_not (pt_val (pe_callB (call_isiK K) (by rfl) (W.fr_isinstance) (by decide +kernel) (pa_cons (pv 0) (pa_cons (pe_bltn (v := .ty "tuple") (by rfl) (W.fr_tuple) (by decide +kernel) rfl) pa_nil))))) (pw_or1 (pt_cmpR op_ne (pe_callB (call_lenK K) (by rfl) (W.fr_len) PySem.boot_len (pa_cons (pv 0) pa_nil)) (pe_callB (call_lenK K) (by rfl) (W.fr_len) PySem.boot_len (pa_cons (pv 1) pa_nil)) (nomark _)))))
  (pss_one (ps_ret pe_bl))
  pss_nil)
  (pss_one (ps_ret (pe_callHD A hr hot (pa_cons (pv 0) (pa_cons (pv 1) pa_nil))))))
  pss_nil)
  (pss_cons (ps_if (pt_val (pe_callB (call_isiK K) (by rfl) (W.fr_isinstance) (by decide +kernel) (pa_cons (pv 1) (pa_cons (pe_bltn (v := .ty "bool") (by rfl) (W.fr_bool) (by decide +kernel) rfl) pa_nil))))
  (pss_one (ps_ret (pe_and (pe_callB (call_isiK K) (by rfl) (W.fr_isinstance) (by decide +kernel) (pa_cons (pv 0) (pa_cons (pe_bltn (v := .ty "bool") (by rfl) (W.fr_bool) (by decide +kernel) rfl) pa_nil))) (pe_one (pe_cmpR op_eq (pv 0) (pv 1) (nomark _))))))
  pss_nil)
  (pss_cons (ps_if (pt_val (pe_callB (call_isiK K) (by rfl) (W.fr_isinstance) (by decide +kernel) (pa_cons (pv 1) (pa_cons (pe_bltn (v := .ty "int") (by rfl) (W.fr_int) (by decide +kernel) rfl) pa_nil))))
  (pss_one (ps_ret (pe_and (pe_callB (call_isiK K) (by rfl) (W.fr_isinstance) (by decide +kernel) (pa_cons (pv 0) (pa_cons (pe_bltn (v := .ty "int") (by rfl) (W.fr_int) (by decide +kernel) rfl) pa_nil))) (pe_and (pe_not (pe_callB (call_isiK K) (by rfl) (W.fr_isinstance) (by decide +kernel) (pa_cons (pv 0) (pa_cons (pe_bltn (v := .ty "bool") (by rfl) (W.fr_bool) (by decide +kernel) rfl) pa_nil)))) (pe_one (pe_cmpR op_eq (pv 0) (pv 1) (nomark _)))))))
  pss_nil)
  (pss_cons (ps_if (pt_val (pe_callB (call_isiK K) (by rfl) (W.fr_isinstance) (by decide +kernel) (pa_cons (pv 1) (pa_cons (pe_bltn (v := .ty "str") (by rfl) (W.fr_str) (by decide +kernel) rfl) pa_nil))))
  (pss_one (ps_ret (pe_and (pe_callB (call_isiK K) (by rfl) (W.fr_isinstance) (by decide +kernel) (pa_cons (pv 0) (pa_cons (pe_bltn (v := .ty "str") (by rfl) (W.fr_str) (by decide +kernel) rfl) pa_nil))) (pe_one (pe_cmpR op_eq (pv 0) (pv 1) (nomark _))))))
  pss_nil)
  (pss_one (ps_ret (pe_cmpR op_isNq (pv 0) pe_non (nomark _)))))))))), ?_⟩
  try dsimp only [L2H.cxH, cxOf, Cx.nox, Cx.wish]
  obtain ⟨x, y, rfl, h, k⟩ := h
  rcases h with ⟨i, rfl, rfl⟩ | ⟨z, rfl, rfl⟩
  · walk_at "go"
    have e : decide (i = i) = true := decide_eq_true rfl
    rw [e]
    exact k
  · walk_at "go"
    have e : decide (z = z) = true := decide_eq_true rfl
    rw [e]
    exact k
theorem all_SH (W : Hd K mg) {j k : Nat} (A : OkDH P w K mg base j "_law_equal" eqPs (EqSp k)) : OkDH P w K mg base (j + 1) "_law_all_equal" eqPs (AllSp k) := by
  obtain ⟨fd, F⟩ := W.df_law_all_equal
  refine okDH_mk F W.mg_law_all_equal (fun _ _ _ _ _ _ us hl => match us, hl with | [_, _], _ => rfl) ?_
  refine funD_okH F sc_law_all_equal (fun vs H Q E h => by obtain ⟨a, b, xs, ys, rfl, _⟩ := h; rfl) (fun cdv A' outer s H vs Q E p hot1 hr h => ?_)
  have hot : L2H.HotC (L2H.cxH CX0 P w K mg base N_law_all_equal "_law_all_equal" (defScope s_law_all_equal) (He.ga K "_law_all_equal") cdv A' outer s H E p).nox := ⟨p, ⟨hot1.1, hot1.2⟩, List.mem_singleton_self p⟩
  refine ⟨_, PSs.nox ((pss_cons (L2H.ps_forH PassesOwn.never hot (L2H.pi_range1H (by rfl) (W.fr_range) (pa_cons (pe_callB (call_lenK K) (by rfl) (W.fr_len) PySem.boot_len (pa_cons (pv 1) pa_nil)) pa_nil)) (pg_name (i := 2) sc_law_all_equal.nd rfl (by first | exact .inl rfl | exact .inr rfl))
  (pss_one (ps_if (pt_not (pt_val (pe_callHD A hr hot (pa_cons (pe_ix (ix_ltK K) (pv 0) (pv 2) (fun _ _ => rfl)) (pa_cons (pe_ix (ix_ltK K) (pv 1) (pv 2) (fun _ _ => rfl)) pa_nil)))))
  (pss_one (ps_ret pe_bl))
  pss_nil)))
  (pss_one (ps_ret pe_bl)))), ?_⟩
  try dsimp only [L2H.cxH, cxOf, Cx.nox, Cx.wish]
  obtain ⟨a, b, xs, ys, rfl, h, l, p, q⟩ := h
  have e := Paired.len p
  have step : ∀ (i : Nat), i < ys.length → ∃ x y, xs[i]? = some x ∧ ys[i]? = some y ∧ EqV k H x y := fun i hi => by
    obtain ⟨x, hx, r⟩ := Paired.get' p (List.getElem?_eq_getElem hi)
    exact ⟨x, _, hx, List.getElem?_eq_getElem hi, r⟩
  have len2 : ∀ {Q : VK}, Q (.int (ys.length : Nat)) H → rLenS K [.ref b] H Q := fun {Q} z => by
    rcases h with ⟨_, h2⟩ | ⟨_, h2⟩
    · exact g_len h2 z
    · exact g_lenT h2 z
  have ix : ∀ {Q : VK} {c : Addr} {zs : List V} {i : Nat} {z : V}, (H c = some (.lst zs) ∨ H c = some (.tup zs)) → zs[i]? = some z → Q z H → rIxLT K (.ref c) (.int (i : Nat)) H Q := fun {Q c zs i z} hc hz hq => by
    have g : atI zs (i : Nat) = some z := atI_at (by omega) (by rw [Int.toNat_natCast]; exact hz)
    rcases hc with hc | hc
    · exact .inl (g_ix hc g hq)
    · exact .inr (g_ixT hc g hq)
  have ha : H a = some (.lst xs) ∨ H a = some (.tup xs) := h.imp (·.1) (·.1)
  have hb : H b = some (.lst ys) ∨ H b = some (.tup ys) := h.imp (·.2) (·.2)
  clear h
  walk_at "go"
  refine len2 ?_
  walk_at "go"
  refine for_rng1 (n := (ys.length : Nat)) (by omega) (by omega) (fun i σ' H' => H' = H ∧ ∃ u : Option V, σ' = [some (.ref a), some (.ref b), u]) ?_ ?_ ?_
  · exact ⟨rfl, _, rfl⟩
  · rintro i σ' H' hi ⟨rfl, u, rfl⟩
    obtain ⟨x, y, hx, hy, r⟩ := step i (by omega)
    walk_at "go"
    refine g_callS ?_
    walk_at "go"
    refine ix ha hx ?_
    walk_at "go"
    refine ix hb hy ?_
    walk_at "go"
    refine ⟨x, y, rfl, r, ?_⟩
    walk_at "go"
    exact ⟨rfl, _, rfl⟩
  · rintro σ' H' ⟨rfl, u, rfl⟩
    walk_at "go"
    exact q
theorem eq_SH (W : Hd K mg) {j k : Nat} (A : OkDH P w K mg base j "_law_all_equal" eqPs (AllSp k)) : OkDH P w K mg base (j + 1) "_law_equal" eqPs (EqSp (k + 1)) := by
  obtain ⟨fd, F⟩ := W.df_law_equal
  refine okDH_mk F W.mg_law_equal (fun _ _ _ _ _ _ us hl => match us, hl with | [_, _], _ => rfl) ?_
  refine funD_okH F sc_law_equal (fun vs H Q E h => by obtain ⟨x, y, rfl, _⟩ := h; rfl) (fun cdv A' outer s H vs Q E p hot1 hr h => ?_)
  have hot : L2H.HotC (L2H.cxH CX0 P w K mg base N_law_equal "_law_equal" (defScope s_law_equal) (He.ga K "_law_equal") cdv A' outer s H E p).nox := ⟨p, ⟨hot1.1, hot1.2⟩, List.mem_singleton_self p⟩
  refine ⟨_, PSs.nox ((pss_cons (ps_if (pt_val (pe_callB (call_isiK K) (by rfl) (W.fr_isinstance) (by decide +kernel) (pa_cons (pv 1) (pa_cons (pe_bltn (v := .ty "list") (by rfl) (W.fr_list) (by decide +kernel) rfl) pa_nil))))
  (pss_cons (ps_if (PW.pt (pw_or (pt_not (pt_val (pe_callB (call_isiK K) (by rfl) (W.fr_isinstance) (by decide +kernel) (pa_cons (pv 0) (pa_cons (pe_bltn (v := .ty "list") (by rfl) (W.fr_list) (by decide +kernel) rfl) pa_nil))))) (pw_or1 (pt_cmpR op_ne (pe_callB (call_lenK K) (by rfl) (W.fr_len) PySem.boot_len (pa_cons (pv 0) pa_nil)) (pe_callB (call_lenK K) (by rfl) (W.fr_len) PySem.boot_len (pa_cons (pv 1) pa_nil)) (nomark _)))))
  (pss_one (ps_ret pe_bl))
  pss_nil)
  (pss_one (ps_ret (pe_callHD A hr hot (pa_cons (pv 0) (pa_cons (pv 1) pa_nil))))))
  pss_nil)
  (pss_cons (ps_if (pt_val (pe_callB (call_isiK K) (by rfl) (W.fr_isinstance) (by decide +kernel) (pa_cons (pv 1) (pa_cons (pe_bltn (v := .ty "tuple") (by rfl) (W.fr_tuple) (by decide +kernel) rfl) pa_nil))))
  (pss_cons (ps_if (PW.pt (pw_or (pt_not (pt_val (pe_callB (call_isiK K) (by rfl) (W.fr_isinstance) (by decide +kernel) (pa_cons (pv 0) (pa_cons (pe_bltn (v := .ty "tuple") (by rfl) (W.fr_tuple) (by decide +kernel) rfl) pa_nil))))) (pw_or1 (pt_cmpR op_ne (pe_callB (call_lenK K) (by rfl) (W.fr_len) PySem.boot_len (pa_cons (pv 0) pa_nil)) (pe_callB (call_lenK K) (by rfl) (W.fr_len) PySem.boot_len (pa_cons (pv 1) pa_nil)) (nomark _)))))
  (pss_one (ps_ret pe_bl))
  pss_nil)
  (pss_one (ps_ret (pe_callHD A hr hot (pa_cons (pv 0) (pa_cons (pv 1) pa_nil))))))
  pss_nil)
  (pss_cons (ps_if (pt_val (pe_callB (call_isiK K) (by rfl) (W.fr_isinstance) (by decide +kernel) (pa_cons (pv 1) (pa_cons (pe_bltn (v := .ty "bool") (by rfl) (W.fr_bool) (by decide +kernel) rfl) pa_nil))))
  (pss_one (ps_ret (pe_and (pe_callB (call_isiK K) (by rfl) (W.fr_isinstance) (by decide +kernel) (pa_cons (pv 0) (pa_cons (pe_bltn (v := .ty "bool") (by rfl) (W.fr_bool) (by decide +kernel) rfl) pa_nil))) (pe_one (pe_cmpR op_eq (pv 0) (pv 1) (nomark _))))))
  pss_nil)
  (pss_cons (ps_if (pt_val (pe_callB (call_isiK K) (by rfl) (W.fr_isinstance) (by decide +kernel) (pa_cons (pv 1) (pa_cons (pe_bltn (v := .ty "int") (by rfl) (W.fr_int) (by decide +kernel) rfl) pa_nil))))
  (pss_one (ps_ret (pe_and (pe_callB (call_isiK K) (by rfl) (W.fr_isinstance) (by decide +kernel) (pa_cons (pv 0) (pa_cons (pe_bltn (v := .ty "int") (by rfl) (W.fr_int) (by decide +kernel) rfl) pa_nil))) (pe_and (pe_not (pe_callB (call_isiK K) (by rfl) (W.fr_isinstance) (by decide +kernel) (pa_cons (pv 0) (pa_cons (pe_bltn (v := .ty "bool") (by rfl) (W.fr_bool) (by decide +kernel) rfl) pa_nil)))) (pe_one (pe_cmpR op_eq (pv 0) (pv 1) (nomark _)))))))
  pss_nil)
  (pss_cons (ps_if (pt_val (pe_callB (call_isiK K) (by rfl) (W.fr_isinstance) (by decide +kernel) (pa_cons (pv 1) (pa_cons (pe_bltn (v := .ty "str") (by rfl) (W.fr_str) (by decide +kernel) rfl) pa_nil))))
  (pss_one (ps_ret (pe_and (pe_callB (call_isiK K) (by rfl) (W.fr_isinstance) (by decide +kernel) (pa_cons (pv 0) (pa_cons (pe_bltn (v := .ty "str") (by rfl) (W.fr_str) (by decide +kernel) rfl) pa_nil))) (pe_one (pe_cmpR op_eq (pv 0) (pv 1) (nomark _))))))
  pss_nil)
  (pss_one (ps_ret (pe_cmpR op_isNq (pv 0) pe_non (nomark _)))))))))), ?_⟩
  try dsimp only [L2H.cxH, cxOf, Cx.nox, Cx.wish]
  obtain ⟨x, y, rfl, h, q⟩ := h
  rcases h with ⟨i, rfl, rfl⟩ | ⟨a, b, xs, ys, rfl, rfl, h1, h2, l, p⟩ | ⟨a, b, xs, ys, rfl, rfl, h1, h2, l, p⟩ | ⟨z, rfl, rfl⟩
  · walk_at "go"
    have e : decide (i = i) = true := decide_eq_true rfl
    rw [e]
    exact q
  · have e := Paired.len p
    walk_at "go"
    refine g_iteQ (by omega) ?_
    walk_at "go"
    refine g_callS ?_
    walk_at "go"
    exact ⟨a, b, xs, ys, rfl, .inl ⟨h1, h2⟩, l, p, q⟩
  · have e := Paired.len p
    walk_at "go"
    refine g_iteQ (by omega) ?_
    walk_at "go"
    refine g_callS ?_
    walk_at "go"
    exact ⟨a, b, xs, ys, rfl, .inr ⟨h1, h2⟩, l, p, q⟩
  · walk_at "go"
    have e : decide (z = z) = true := decide_eq_true rfl
    rw [e]
    exact q
theorem ok_eqH (W : Hd K mg) : OkDH P w K mg base 3 "_law_equal" eqPs (EqSp 1) := eq_SH W (all_SH W (eq_0H W (all_noH W)))
end

/-! ### law_refuses -/
def rIsE2 (K : PySem.W.Frag) (D a : Addr) (cls : Value) (d : Option Addr) : List V → Hp → VK → Prop := fun xs H Q => cls = .ref D ∧ d = none ∧ rIsE K D a xs H Q
theorem call_isE2 {X : Cx} {a D : Addr} {oe : Obj} {cls : Value} {d : Option Addr} {pn : List (Addr × Obj)} (C : ExcC X.K D) (hz : Zc cls d oe) (hf : ∃ vs, oe.data = .fields vs) : CallR (X.suite a ((a, oe) :: pn)) (.builtin "isinstance") (rIsE2 X.K D a cls d) := by
  rintro pins s σ H xs us Q I r ⟨rfl, rfl, h⟩
  exact call_isE C hz hf pins s σ H xs us Q I r h
theorem Hd.excC {K : PySem.W.Frag} {mg : Str → Option Value} (W : Hd K mg) : ExcC K (He.ga K "BadArgument") ∧ PySem.W.kitOne K (.ref (He.ga K "BadArgument")) (.ref (He.ga K "TooLarge")) = some false := by
  have h := W.more
  unfold ex excB at h
  simp only [Bool.and_eq_true, decide_eq_true_eq] at h
  obtain ⟨_, ⟨h1, h2, h3, h4, h5, h6, h7, h8⟩, h9⟩ := h
  exact ⟨⟨h1, h2, h3, h4, h5, h6, h7, h8⟩, h9⟩
def sp_law_refuses (K : PySem.W.Frag) : Sp := fun vs H Q _ => ∃ (g : V) (a : Addr) (n : Nat) (Es : List (Int × Int)) (ns : List Int), vs = [g, .ref a] ∧ rGraph K No H g (n, Es) ∧ H a = some (.lst (ns.map V.int)) ∧ GoodE n Es ∧ n ≤ 40 ∧ ¬ Small n Es ns ∧ ns.length ≤ 10000 ∧ ∀ H', Same H H' → Q (.bl true) H'
theorem sp_law_refuses.len {K : PySem.W.Frag} {vs : List V} {H : Hp} {Q : VK} {E : XK} (h : sp_law_refuses K vs H Q E) : vs.length = (["_law_graph", "_law_nodes"] : List Str).length := by
  obtain ⟨g, a, n, Es, ns, rfl, _⟩ := h
  rfl
abbrev N_law_refuses : List Str := ["_law_graph", "_law_nodes", "_law_handed", "e"]
theorem sc_law_refuses : FnScope N_law_refuses ["_law_graph", "_law_nodes"] (defScope s_law_refuses) := ⟨rfl, rfl, rfl, by decide +kernel, rfl, by decide +kernel, by decide +kernel⟩
theorem ok_law_refuses {P : Program} {w : World} {K : PySem.W.Frag} {mg : Str → Option Value} {base : Heap} (W : Hd K mg) : OkD P w K mg base 13 "_law_refuses" ["_law_graph", "_law_nodes"] (sp_law_refuses K) := by
  obtain ⟨fd, F⟩ := W.df_law_refuses
  refine okD_mk F W.mg_law_refuses (fun _ _ _ _ _ _ us hl => match us, hl with | [_, _], _ => rfl) ?_
  obtain ⟨fdF, FF, mF, kF, bF⟩ := ok_fewer_odd (P := P) (w := w) (base := base) W
  refine F.ok sc_law_refuses (fun vs H Q E h => sp_law_refuses.len h) (fun cdv A outer s H vs Q E hr h => ⟨_, PSs.nox (pss_cons (ps_set (i := 2) sc_law_refuses.nd rfl (by first | exact .inl rfl | exact .inr rfl) (pe_callTy (call_listK K) (by rfl) (W.fr_list) (by decide +kernel) (pa_cons (pv 1) pa_nil)))
    (pss_cons (L2N.ps_try_as (i := 3) (c := .ref (He.ga K "BadArgument")) (tb := fun W' => tDrop (tCallS (sp_fewer_odd K) (WE W') (tCons (tVar 0) (tCons (tVar 2) tNil))))
      (ts := fun a cls d => tRet (tAndV (tNotV (tCB (rIsE2 K (He.ga K "BadArgument") a cls d) (tCons (tVar 3) (tCons (tC (.ref (He.ga K "TooLarge"))) tNil)))) (tCallS (EqSp 1) (fun _ => E0) (tCons (tVar 2) (tCons (tVar 1) tNil)))))
      (Wout := fun _ _ _ _ => False) rfl rfl sc_law_refuses.nd rfl rfl ⟨rfl, by decide, Or.inl W.mg_BadArgument⟩ takes0N
      (fun W' pn xe tk _ => pss_one (ps_expr (pe_callS FF (hr.mono (by decide)) rfl mF kF bF (fun σ => L2N.passAt tk σ) (pa_cons (pv 0) (pa_cons (pv 2) pa_nil)))))
      (fun a oe cls d pn hz hf => pss_one (ps_ret (pe_and (pe_not (pe_callB (call_isE2 W.excC.1 ⟨hz.1, hz.2.1⟩ hf) (by rfl) (W.fr_isinstance) (by decide +kernel) (pa_cons (pv 3) (pa_cons (pe_glob (v := .ref (He.ga _ "TooLarge")) rfl W.mg_TooLarge rfl) pa_nil))))
        (pe_one (pe_callHD (ok_eqH W) ⟨(hr.mono (j := 3) (by decide)).dp, (hr.mono (j := 3) (by decide)).un⟩ ⟨(a, oe), ⟨rfl, by obtain ⟨vs, hv⟩ := hf; exact ⟨vs, hv, hz.2.2 vs hv⟩⟩, List.mem_cons_self⟩ (pa_cons (pv 2) (pa_cons (pv 1) pa_nil))))))))
    (pss_one (ps_ret pe_bl)))), ?_⟩)
  try dsimp only [cxOf, Cx.nox, Cx.wish]
  obtain ⟨gv, a, n, Es, ns, rfl, rg, ha, good, h40, ns', l, k⟩ := h
  walk_at "go"
  intro c nc
  have s1 : Same H (upd H c (.lst (ns.map V.int))) := Same.new (Same.refl _) nc
  have hc : upd H c (.lst (ns.map V.int)) c = some (.lst (ns.map V.int)) := upd_same
  generalize upd H c (.lst (ns.map V.int)) = H1 at s1 hc ⊢
  walk_at "go"
  refine ⟨_, rfl, _, rfl, gv, c, n, Es, ns, rfl, rGraph.frm.mv (.same s1) rg, hc, good, h40, fun _ H2 s2 => ?_, fun z => absurd z ns'⟩
  refine ⟨true, W.exm_BadArgument, fun _ e ne => ?_, fun z => Bool.noConfusion z⟩
  have s12 := Same.trans s1 s2
  walk_at "go"
  refine ⟨rfl, rfl, .ref (He.ga K "TooLarge"), .ref (He.ga K "TooLarge"), false, rfl, fun u h => h, W.excC.2, ?_⟩
  walk_at "go"
  refine g_callS ?_
  walk_at "go"
  refine ⟨.ref c, .ref a, rfl, EqV.ints (s2 _ _ hc) (s12 _ _ ha) l, ?_⟩
  exact k H2 s12

/-! ### law_asked -/
theorem Told.mv {n : Nat} {Es : List (Int × Int)} {ns : List Int} {M M' : Av} {H H' : Hp} {v : V} (m : Mov M H M' H') (t : Told n Es ns M H v) : Told n Es ns M' H' v := by
  rcases t with ⟨T, h1, h2, h3, l, h4, h5⟩ | ⟨col, rows, h1, h2, h3, l, h4, h5⟩
  · exact .inl ⟨T, h1, h2, h3, l, h4.mov m, rInts.frm.mv m h5⟩
  · exact .inr ⟨col, rows, h1, h2, h3, l, h4.mov m, (rLst.frm rRow.frm).mv m h5⟩
/-- the told pair, its second a list -/
theorem Told.list {n : Nat} {Es : List (Int × Int)} {ns : List Int} {M : Av} {H : Hp} {v : V} (l5 : ns.length ≤ 5) (t : Told n Es ns M H v) : ∃ (p l : Addr) (s : Str) (xs : List V), v = .ref p ∧ H p = some (.tup [.str s, .ref l]) ∧ ¬ M l ∧ H l = some (.lst xs) ∧ xs.length ≤ 1000 := by
  rcases t with ⟨T, h1, h2, h3, l, ⟨p, rfl, _, hp⟩, ⟨q, rfl, nq, hq⟩⟩ | ⟨col, rows, h1, h2, h3, l, ⟨p, rfl, _, hp⟩, ⟨xs, ⟨q, rfl, nq, hq⟩, pr⟩⟩
  · exact ⟨p, q, _, _, rfl, hp, nq, hq, by rw [List.length_map]; omega⟩
  · refine ⟨p, q, _, xs, rfl, hp, nq, hq, ?_⟩
    have a := Paired.len pr
    have b : rows.length = (due Es ns).length := by rw [← h2.sp, List.length_map]
    have c := due_len Es ns l5
    omega
def sp_law_asked (K : PySem.W.Frag) : Sp := fun vs H Q _ => ∃ (g : V) (la a : Addr) (lk : List V) (n : Nat) (Es : List (Int × Int)) (ns : List Int) (least : Nat) (again : Int), vs = [g, .ref la, .ref a, .int least, .int again] ∧ rGraph K No H g (n, Es) ∧ H la = some (.lst lk) ∧ Paired (rInts No H) lk (links n Es) ∧ H a = some (.lst (ns.map V.int)) ∧
  GoodE n Es ∧ n ≤ 40 ∧ Rising n ns ∧ Bip (Adj (outE Es ns)) ∧ LeastOdd n Es least ∧ ∀ H', Same H H' → Q (.bl true) H'
theorem sp_law_asked.len {K : PySem.W.Frag} {vs : List V} {H : Hp} {Q : VK} {E : XK} (h : sp_law_asked K vs H Q E) : vs.length = (["_law_graph", "_law_near_here", "_law_nodes", "_law_least", "_law_again"] : List Str).length := by
  obtain ⟨g, la, a, lk, n, Es, ns, least, again, rfl, _⟩ := h
  rfl
abbrev N_law_asked : List Str := ["_law_graph", "_law_near_here", "_law_nodes", "_law_least", "_law_again", "_law_handed", "_law_told"]
theorem sc_law_asked : FnScope N_law_asked ["_law_graph", "_law_near_here", "_law_nodes", "_law_least", "_law_again"] (defScope s_law_asked) := ⟨rfl, rfl, rfl, by decide +kernel, rfl, by decide +kernel, by decide +kernel⟩
theorem ok_law_asked {P : Program} {w : World} {K : PySem.W.Frag} {mg : Str → Option Value} {base : Heap} (W : Hd K mg) : OkD P w K mg base 15 "_law_asked" ["_law_graph", "_law_near_here", "_law_nodes", "_law_least", "_law_again"] (sp_law_asked K) := by
  obtain ⟨fd, F⟩ := W.df_law_asked
  refine okD_mk F W.mg_law_asked (fun _ _ _ _ _ _ us hl => match us, hl with | [_, _, _, _, _], _ => rfl) ?_
  refine F.ok sc_law_asked (fun vs H Q E h => sp_law_asked.len h) (fun cdv A outer s H vs Q E hr h => ⟨_, PSs.nox ((pss_cons (ps_if (pt_cmpR op_gt (pe_callB (call_lenK K) (by rfl) (W.fr_len) PySem.boot_len (pa_cons (pv 2) pa_nil)) pe_int (nomark _))
  (pss_one (ps_ret (pe_callD (ok_law_refuses W) (hr.mono (by decide)) (pa_cons (pv 0) (pa_cons (pv 2) pa_nil)))))
  pss_nil)
  (pss_cons (ps_set (i := 5) sc_law_asked.nd rfl (by first | exact .inl rfl | exact .inr rfl) (pe_callTy (call_listK K) (by rfl) (W.fr_list) (by decide +kernel) (pa_cons (pv 2) pa_nil)))
  (pss_cons (ps_set (i := 6) sc_law_asked.nd rfl (by first | exact .inl rfl | exact .inr rfl) (pe_callDX (ok_fewer_odd W) (hr.mono (by decide)) (pa_cons (pv 0) (pa_cons (pv 5) pa_nil))))
  (pss_cons (ps_if (PW.pt (pw_or (pt_not (pt_val (pe_callD (ok_law_equal W) (hr.mono (by decide)) (pa_cons (pv 5) (pa_cons (pv 2) pa_nil))))) (pw_or1 (pt_not (pt_val (pe_callD (ok_law_told_right W) (hr.mono (by decide)) (pa_cons (pv 0) (pa_cons (pv 1) (pa_cons (pv 2) (pa_cons (pv 3) (pa_cons (pv 6) pa_nil)))))))))))
  (pss_one (ps_ret pe_bl))
  pss_nil)
  (pss_cons (ps_if (pt_cmpR op_eq (pv 4) pe_int (nomark _))
  (pss_one (ps_ret pe_bl))
  pss_nil)
  (pss_cons (ps_expr (pe_bmK K PySem.F.plainAttrs_list PySem.F.slot_list_append PySem.F.type_list_append mt_append (pe_ix (ix_tupK K) (pv 6) pe_int (fun _ _ => rfl)) (pa_cons pe_int pa_nil)))
  (pss_one (ps_ret (pe_callD (ok_law_told_right W) (hr.mono (by decide)) (pa_cons (pv 0) (pa_cons (pv 1) (pa_cons (pv 2) (pa_cons (pv 3) (pa_cons (pe_callDX (ok_fewer_odd W) (hr.mono (by decide)) (pa_cons (pv 0) (pa_cons (pv 5) pa_nil))) pa_nil))))))))))))))), ?_⟩)
  try dsimp only [cxOf, Cx.nox, Cx.wish]
  obtain ⟨gv, la, a, lk, n, Es, ns, least, again, rfl, rg, hla, pl, ha, good, h40, ri, bp, lo, k⟩ := h
  have nl := ri.len
  walk_at "go"
  refine g_ite (fun big => ?_) (fun sm5 => ?_)
  · walk_at "go"
    exact ⟨gv, a, n, Es, ns, rfl, rg, ha, good, h40, fun z => by have := z.2.2; omega, by omega, k⟩
  have sml : Small n Es ns := ⟨ri, bp, by omega⟩
  walk_at "go"
  intro c nc
  have s1 : Same H (upd H c (.lst (ns.map V.int))) := Same.new (Same.refl _) nc
  have hc : upd H c (.lst (ns.map V.int)) c = some (.lst (ns.map V.int)) := upd_same
  generalize upd H c (.lst (ns.map V.int)) = H1 at s1 hc ⊢
  walk_at "go"
  refine ⟨gv, c, n, Es, ns, rfl, rGraph.frm.mv (.same s1) rg, hc, good, h40, fun z => absurd sml z, fun _ H2 tv s2 told => ?_⟩
  obtain ⟨p, l, st, xs, rfl, hp, nml, hl, xl⟩ := told.list sml.2.2
  have s12 := Same.trans s1 s2
  walk_at "go"
  refine ⟨.ref c, .ref a, rfl, EqV.ints (s2 _ _ hc) (s12 _ _ ha) (by omega), ?_⟩
  walk_at "go"
  refine ⟨gv, .ref p, la, a, lk, n, Es, ns, least, rfl, rGraph.frm.mv (.same s12) rg, s12 _ _ hla, pl_same s12 pl, s12 _ _ ha, good, h40, sml, lo, told.mv Mov.drop, fun H3 s3 => ?_⟩
  have s13 := Same.trans s12 s3
  walk_at "go"
  refine g_ite (fun ag => ?_) (fun nag => ?_)
  · walk_at "go"
    exact k H3 s13
  · have hp3 := s3 _ _ hp
    have hl3 := s3 _ _ hl
    walk_at "go"
    refine g_app hl3 (small_of (by omega)) ?_
    have nl1 : H1 l = none := Classical.byContradiction fun z => nml z
    have s4 : Same H1 (upd H3 l (.lst (xs ++ [.int 99]))) := Same.mut (Same.trans s2 s3) nl1
    have s14 := Same.trans s1 s4
    have hc4 := s4 _ _ hc
    generalize upd H3 l (.lst (xs ++ [.int 99])) = H4 at s4 s14 hc4 ⊢
    walk_at "go"
    refine ⟨gv, c, n, Es, ns, rfl, rGraph.frm.mv (.same s14) rg, hc4, good, h40, fun z => absurd sml z, fun _ H5 tv s5 told5 => ?_⟩
    have s15 := Same.trans s14 s5
    walk_at "go"
    exact ⟨gv, tv, la, a, lk, n, Es, ns, least, rfl, rGraph.frm.mv (.same s15) rg, s15 _ _ hla, pl_same s15 pl, s15 _ _ ha, good, h40, sml, lo, told5.mv Mov.drop, fun H6 s6 => k H6 (Same.trans s15 s6)⟩

/-! ### law_subsets_of, law_least_odd -/
abbrev rngI (n : Nat) : List Int := (List.range n).map fun (i : Nat) => (i : Int)
def rLRg (x : V) (H : Hp) (Q : VK) : Prop := ∃ n : Int, x = .int n ∧ RgOk 0 n ∧ ∀ q, H q = none → Q (.ref q) (upd H q (.lst (rgV 0 n)))
theorem g_lrg {ta : TE} {σ : L2.St} {H : Hp} {Q : VK} (h : ta σ H fun x H1 => rLRg x H1 Q) : tLstRg (tRg1 ta) σ H Q := h
theorem g_rlrg {n : Nat} {H : Hp} {Q : VK} (h : n ≤ 16000000) (k : ∀ q, H q = none → Q (.ref q) (upd H q (.lst ((rngI n).map V.int)))) : rLRg (.int n) H Q := by
  refine ⟨n, rfl, RgOk.of_le (by omega) (by omega) (by omega) (by omega), fun q nq => ?_⟩
  have e : rgV 0 (n : Int) = (rngI n).map V.int := by
    unfold rgV rngI
    rw [List.map_map, show ((n : Int) - 0).toNat = n by omega]
    refine List.map_congr_left fun i _ => ?_
    show V.int (0 + (i : Nat)) = V.int (i : Nat)
    rw [Int.zero_add]
  rw [e]
  exact k q nq
def subOk (s : List Int) (v : Int) : Bool := match s.getLast? with
  | none => true
  | some x => decide (v > x)
def subF (ns : List Int) : Nat → List (List Int)
  | 0 => [[]]
  | k + 1 => (subF ns k).flatMap fun s => (ns.filter (subOk s)).map fun v => s ++ [v]
theorem subF_len (ns : List Int) : ∀ k, (subF ns k).length ≤ ns.length ^ k
  | 0 => by simp [subF]
  | k + 1 => by
    have a := subF_len ns k
    have b := flatMap_len (l := subF ns k) (f := fun s => (ns.filter (subOk s)).map fun v => s ++ [v]) (m := ns.length) fun s _ => by
      rw [List.length_map]
      exact List.length_filter_le _ _
    rw [subF, Nat.pow_succ]
    exact Nat.le_trans b (Nat.mul_le_mul_right _ a)
theorem subOk_iff {s : List Int} (r : s.Pairwise (· < ·)) {v : Int} : subOk s v = true ↔ (s ++ [v]).Pairwise (· < ·) := by
  rcases List.eq_nil_or_concat s with rfl | ⟨t, x, rfl⟩
  · simp [subOk]
  · rw [List.concat_eq_append] at *
    have e : subOk (t ++ [x]) v = decide (v > x) := by simp [subOk]
    rw [e, decide_eq_true_eq, List.pairwise_append (l₁ := t ++ [x])]
    constructor
    · intro h
      refine ⟨r, by simp, fun a ha b hb => ?_⟩
      rw [List.mem_singleton.mp hb]
      rcases List.mem_append.mp ha with ha | ha
      · have := (List.pairwise_append.mp r).2.2 a ha x (by simp)
        omega
      · rw [List.mem_singleton.mp ha]
        exact h
    · rintro ⟨_, _, h⟩
      exact h x (by simp) v (by simp)
theorem mem_subF {ns : List Int} : ∀ {k : Nat} {s : List Int}, s ∈ subF ns k ↔ s.length = k ∧ s.Pairwise (· < ·) ∧ ∀ x ∈ s, x ∈ ns
  | 0, s => by
    rw [subF, List.mem_singleton]
    constructor
    · rintro rfl
      simp
    · rintro ⟨h, _⟩
      exact List.length_eq_zero_iff.mp h
  | k + 1, s => by
    rw [subF, List.mem_flatMap]
    constructor
    · rintro ⟨t, ht, h⟩
      obtain ⟨v, hv, rfl⟩ := List.mem_map.mp h
      obtain ⟨h1, h2, h3⟩ := mem_subF.mp ht
      obtain ⟨h4, h5⟩ := List.mem_filter.mp hv
      refine ⟨by simp [h1], (subOk_iff h2).mp h5, fun x hx => ?_⟩
      rcases List.mem_append.mp hx with hx | hx
      · exact h3 x hx
      · rw [List.mem_singleton.mp hx]
        exact h4
    · rintro ⟨h1, h2, h3⟩
      rcases List.eq_nil_or_concat s with rfl | ⟨t, v, rfl⟩
      · simp at h1
      · rw [List.concat_eq_append] at *
        have r := (List.pairwise_append.mp h2).1
        exact ⟨t, mem_subF.mpr ⟨by simpa using h1, r, fun x hx => h3 x (List.mem_append_left _ hx)⟩, List.mem_map.mpr ⟨v, List.mem_filter.mpr ⟨h3 v (by simp), (subOk_iff r).mpr h2⟩, rfl⟩⟩
def sp_law_subsets_of (K : PySem.W.Frag) : Sp := fun vs H Q _ => ∃ (a : Addr) (ns : List Int) (k : Nat), vs = [.ref a, .int k] ∧ H a = some (.lst (ns.map V.int)) ∧ ns.length ≤ 7 ∧ k ≤ 7 ∧ ∀ H' v, Same H H' → rLst rInts (Trk H) H' v (subF ns k) → Q v H'
theorem sp_law_subsets_of.len {K : PySem.W.Frag} {vs : List V} {H : Hp} {Q : VK} {E : XK} (h : sp_law_subsets_of K vs H Q E) : vs.length = (["_law_nodes", "_law_size"] : List Str).length := by
  obtain ⟨a, ns, k, rfl, _⟩ := h
  rfl
abbrev N_law_subsets_of : List Str := ["_law_nodes", "_law_size", "_law_found", "_law_k", "_law_grown", "_law_some", "_law_v"]
theorem sc_law_subsets_of : FnScope N_law_subsets_of ["_law_nodes", "_law_size"] (defScope s_law_subsets_of) := ⟨rfl, rfl, rfl, by decide +kernel, rfl, by decide +kernel, by decide +kernel⟩
theorem ok_law_subsets_of {P : Program} {w : World} {K : PySem.W.Frag} {mg : Str → Option Value} {base : Heap} (W : Hd K mg) : OkD P w K mg base 1 "_law_subsets_of" ["_law_nodes", "_law_size"] (sp_law_subsets_of K) := by
  obtain ⟨fd, F⟩ := W.df_law_subsets_of
  refine okD_mk F W.mg_law_subsets_of (fun _ _ _ _ _ _ us hl => match us, hl with | [_, _], _ => rfl) ?_
  refine F.ok sc_law_subsets_of (fun vs H Q E h => sp_law_subsets_of.len h) (fun cdv A outer s H vs Q E hr h => ⟨_, PSs.nox ((pss_cons (ps_set (i := 2) sc_law_subsets_of.nd rfl (by first | exact .inl rfl | exact .inr rfl) (pe_lst (pa_cons (pe_lst pa_nil) pa_nil)))
  (pss_cons (ps_for PassesOwn.never rfl (pi_range1 (by rfl) (W.fr_range) (pa_cons (pv 1) pa_nil)) (pg_name (i := 3) sc_law_subsets_of.nd rfl (by first | exact .inl rfl | exact .inr rfl))
  (pss_cons (ps_set (i := 4) sc_law_subsets_of.nd rfl (by first | exact .inl rfl | exact .inr rfl) (pe_lst pa_nil))
  (pss_cons (ps_for PassesOwn.never rfl (pi_list (pv 2)) (pg_name (i := 5) sc_law_subsets_of.nd rfl (by first | exact .inl rfl | exact .inr rfl))
  (pss_one (ps_for PassesOwn.never rfl (pi_list (pv 0)) (pg_name (i := 6) sc_law_subsets_of.nd rfl (by first | exact .inl rfl | exact .inr rfl))
  (pss_one (ps_if (PW.pt (pw_or (pt_cmpR op_eq (pe_callB (call_lenK K) (by rfl) (W.fr_len) PySem.boot_len (pa_cons (pv 5) pa_nil)) pe_int (nomark _)) (pw_or1 (pt_cmpR op_gt (pv 6) (pe_ix (ix_listK K) (pv 5) (pe_op op_sub (pe_callB (call_lenK K) (by rfl) (W.fr_len) PySem.boot_len (pa_cons (pv 5) pa_nil)) pe_int) (fun _ _ => rfl)) (nomark _)))))
  (pss_one (ps_expr (pe_bmK K PySem.F.plainAttrs_list PySem.F.slot_list_append PySem.F.type_list_append mt_append (pv 4) (pa_cons (pe_op op_cat (pv 5) (pe_lst (pa_cons (pv 6) pa_nil))) pa_nil))))
  pss_nil)))))
  (pss_one (ps_set (i := 2) sc_law_subsets_of.nd rfl (by first | exact .inl rfl | exact .inr rfl) (pv 4))))))
  (pss_one (ps_ret (pv 2)))))), ?_⟩)
  try dsimp only [cxOf, Cx.nox, Cx.wish]
  obtain ⟨a, ns, sz, rfl, ha, l7, k7, k⟩ := h
  walk_at "go"
  intro e0 ne0
  walk_at "go"
  intro S nS
  have nse : S ≠ e0 := new_ne nS
  have nS0 := new_old nS
  have s0 : Same H (upd (upd H e0 (.lst [])) S (.lst [.ref e0])) := Same.new (Same.new (Same.refl _) ne0) nS
  walk_at "go"
  refine for_rng1 (n := (sz : Nat)) (by omega) (by omega) (fun i σ' H' => (∃ (v : V) (w1 w2 w3 w4 : Option V), σ' = [some (.ref a), some (.int sz), some v, w1, w2, w3, w4] ∧ rLst rInts (Trk H) H' v (subF ns i)) ∧ Same H H') ?_ ?_ ?_
  · refine ⟨⟨.ref S, none, none, none, none, rfl, [.ref e0], ⟨S, rfl, fun z => z nS0, upd_same⟩, .cons ⟨e0, rfl, fun z => z ne0, ?_⟩ .nil⟩, s0⟩
    rw [upd_ne nse.symm]
    exact upd_same
  · rintro i σ' H1 hi ⟨⟨v, w1, w2, w3, w4, rfl, vs, ⟨p, rfl, np, hp⟩, pv⟩, sm⟩
    have il : i < 7 := by omega
    have sl : (subF ns i).length * 7 ≤ 7 ^ 7 := by
      have a1 := subF_len ns i
      have a2 : ns.length ^ i ≤ 7 ^ i := Nat.pow_le_pow_left l7 i
      have a3 : 7 ^ i ≤ 7 ^ 6 := Nat.pow_le_pow_right (by omega) (by omega)
      have : (7 : Nat) ^ 7 = 7 ^ 6 * 7 := rfl
      rw [this]
      exact Nat.mul_le_mul_right 7 (by omega)
    have e77 : (7 : Nat) ^ 7 = 823543 := by decide
    walk_at "go"
    intro D nD
    have nD0 := sm.free nD
    have s1 : Same H1 (upd H1 D (.lst [])) := Same.new (Same.refl _) nD
    walk_at "go"
    refine for_rep (R := rInts (Trk H) H1) (h := s1 _ _ hp) (pr := pv) (fun pre σ' H' => (∃ w3 w4 : Option V, σ' = [some (.ref a), some (.int sz), some (.ref p), some (.int (i : Nat)), some (.ref D), w3, w4]) ∧ Col rInts (Trk H) H1 D H' (pre.flatMap fun s => (ns.filter (subOk s)).map fun v => s ++ [v])) ?_ ?_ ?_ ?_
    · exact ⟨⟨_, _, rfl⟩, Col.nil nD⟩
    · rintro pre σ' H' _ ⟨_, c⟩
      exact c.same _ _ hp
    · rintro pre x sp post σ' H' e ⟨q, rfl, nq, hq⟩ ⟨⟨w3, w4, rfl⟩, c⟩
      have lsp := (mem_subF (ns := ns) (k := i) (s := sp)).mp (by rw [e]; simp)
      have ha1 := c.same _ _ (sm _ _ ha)
      walk_at "go"
      refine for_ints (ns := ns) ha1 (fun pre2 σ' H' => (∃ w4 : Option V, σ' = [some (.ref a), some (.int sz), some (.ref p), some (.int (i : Nat)), some (.ref D), some (.ref q), w4]) ∧ Col rInts (Trk H) H1 D H' ((pre.flatMap fun s => (ns.filter (subOk s)).map fun v => s ++ [v]) ++ ((pre2.filter (subOk sp)).map fun v => sp ++ [v]))) ?_ ?_ ?_ ?_
      · refine ⟨⟨_, rfl⟩, ?_⟩
        have : (([] : List Int).filter (subOk sp)).map (fun v => sp ++ [v]) = [] := rfl
        rw [this, List.append_nil]
        exact c
      · rintro pre2 σ' H' _ ⟨_, c⟩
        exact c.same _ _ (sm _ _ ha)
      · rintro pre2 v post2 σ' H2 e2 ⟨⟨w4, rfl⟩, c⟩
        have hq2 := c.same _ _ hq
        obtain ⟨_, vs2, hv2, _⟩ := id c
        have ln := c.len hv2
        have fl := flatMap_len (l := pre) (f := fun s => (ns.filter (subOk s)).map fun v => s ++ [v]) (m := 7) fun s _ => by
          rw [List.length_map]
          exact Nat.le_trans (List.length_filter_le _ _) l7
        have pl : pre.length ≤ (subF ns i).length := by rw [e]; simp
        have fl2 := List.length_filter_le (subOk sp) pre2
        have p2 : pre2.length ≤ 7 := by have := congrArg List.length e2; simp at this; omega
        rw [List.length_append, List.length_map] at ln
        have yes : subOk sp v = true → (pre2 ++ [v]).filter (subOk sp) = pre2.filter (subOk sp) ++ [v] := fun h => by rw [List.filter_append]; simp [h]
        have no : subOk sp v = false → (pre2 ++ [v]).filter (subOk sp) = pre2.filter (subOk sp) := fun h => by rw [List.filter_append]; simp [h]
        have add : subOk sp v = true → ∀ t u, H2 t = none → upd H2 t (.lst [.int v]) u = none → ∃ acc, upd (upd H2 t (.lst [.int v])) u (.lst (sp.map V.int ++ [.int v])) D = some (.lst acc) ∧ acc.length < sizeLine ∧ Col rInts (Trk H) H1 D (upd (upd (upd H2 t (.lst [.int v])) u (.lst (sp.map V.int ++ [.int v]))) D (.lst (acc ++ [.ref u]))) ((pre.flatMap fun s => (ns.filter (subOk s)).map fun v => s ++ [v]) ++ (((pre2 ++ [v]).filter (subOk sp)).map fun v => sp ++ [v])) := by
          intro hy t u nt nu
          have h4 : upd (upd H2 t (.lst [.int v])) u (.lst (sp.map V.int ++ [.int v])) D = some (.lst vs2) := hp_new (hp_new hv2 nt) nu
          have c4 := c.step rInts.frm (Same.new (o := .lst (sp.map V.int ++ [.int v])) (Same.new (o := .lst [.int v]) (Same.refl _) nt) nu)
          have nuH : Trk H u → False := fun z => z ((Same.trans sm c.same).free (new_old nu))
          have c5 := c4.app rInts.frm nD h4 (v := .ref u) (d := sp ++ [v]) ⟨u, rfl, fun z => z.elim (fun z => by rw [z, hp_new hv2 nt] at nu; cases nu) nuH, by rw [List.map_append]; exact upd_same⟩
          refine ⟨vs2, h4, small_of (by omega), ?_⟩
          rw [yes hy, List.map_append, ← List.append_assoc]
          exact c5
        walk_at "go"
        refine g_ite (fun z => ?_) (fun nz => ?_)
        · have e0 : sp = [] := List.length_eq_zero_iff.mp (by omega)
          have hy : subOk sp v = true := by rw [e0]; rfl
          walk_at "go"
          intro t nt
          refine g_cat (by walk_at "hp") upd_same (size_le (by simp; omega)) fun u nu => ?_
          obtain ⟨acc, a1, a2, a3⟩ := add hy t u nt nu
          walk_at "go"
          refine g_app a1 a2 ?_
          exact ⟨⟨_, rfl⟩, a3⟩
        · rcases List.eq_nil_or_concat sp with rfl | ⟨ys, x, rfl⟩
          · exact absurd rfl nz
          rw [List.concat_eq_append] at *
          have ex : subOk (ys ++ [x]) v = decide (v > x) := by simp [subOk]
          walk_at "go"
          refine g_ixI hq2 (n := x) (atI_at (by simp) (by simp)) ?_
          walk_at "go"
          refine g_ite (fun gt => ?_) (fun ngt => ?_)
          · have hy : subOk (ys ++ [x]) v = true := by rw [ex]; exact decide_eq_true gt
            walk_at "go"
            intro t nt
            refine g_cat (by walk_at "hp") upd_same (size_le (by simp at lsp ⊢; omega)) fun u nu => ?_
            obtain ⟨acc, a1, a2, a3⟩ := add hy t u nt nu
            walk_at "go"
            refine g_app a1 a2 ?_
            exact ⟨⟨_, rfl⟩, a3⟩
          · walk_at "go"
            refine ⟨⟨_, rfl⟩, ?_⟩
            rw [no (by rw [ex]; exact decide_eq_false ngt)]
            exact c
      · rintro σ' H2 ⟨⟨w4, rfl⟩, c⟩
        refine ⟨⟨_, _, rfl⟩, ?_⟩
        rw [List.flatMap_append, List.flatMap_cons, List.flatMap_nil, List.append_nil]
        exact c
    · rintro σ' H' ⟨⟨w3, w4, rfl⟩, c⟩
      walk_at "go"
      exact ⟨⟨.ref D, _, _, _, _, rfl, c.done rInts.frm fun z => z nD0⟩, Same.trans sm c.same⟩
  · rintro σ' H1 ⟨⟨v, w1, w2, w3, w4, rfl, r⟩, sm⟩
    rw [Int.toNat_natCast] at r
    walk_at "go"
    exact k H1 v sm r

/-! ### law_least_odd -/
theorem mem_rngI {n : Nat} {x : Int} : x ∈ rngI n ↔ 0 ≤ x ∧ x < n := by
  unfold rngI
  rw [List.mem_map]
  constructor
  · rintro ⟨i, hi, rfl⟩
    have := List.mem_range.mp hi
    omega
  · rintro ⟨h0, h1⟩
    exact ⟨x.toNat, List.mem_range.mpr (by omega), by omega⟩
theorem rngI_len (n : Nat) : (rngI n).length = n := by simp [rngI]
theorem all_odd {n : Nat} {Es : List (Int × Int)} (good : GoodE n Es) : Rising n (rngI n) ∧ Bip (Adj (outE Es (rngI n))) :=
  ⟨⟨range_rise n, fun x hx => mem_rngI.mp hx⟩, fun _ => true, fun u v a => absurd (mem_rngI.mpr (good.at (outE_adj.mp a).1)) (outE_adj.mp a).2.1⟩
def sp_law_least_odd (K : PySem.W.Frag) : Sp := fun vs H Q _ => ∃ (la : Addr) (lk : List V) (n : Nat) (Es : List (Int × Int)), vs = [.int n, .ref la] ∧ H la = some (.lst lk) ∧ Paired (rInts No H) lk (links n Es) ∧ GoodE n Es ∧ n ≤ 7 ∧ ∀ H' k, Same H H' → LeastOdd n Es k → Q (.int (k : Nat)) H'
theorem sp_law_least_odd.len {K : PySem.W.Frag} {vs : List V} {H : Hp} {Q : VK} {E : XK} (h : sp_law_least_odd K vs H Q E) : vs.length = (["_law_n", "_law_near_here"] : List Str).length := by
  obtain ⟨la, lk, n, Es, rfl, _⟩ := h
  rfl
abbrev N_law_least_odd : List Str := ["_law_n", "_law_near_here", "_law_size", "_law_some"]
theorem sc_law_least_odd : FnScope N_law_least_odd ["_law_n", "_law_near_here"] (defScope s_law_least_odd) := ⟨rfl, rfl, rfl, by decide +kernel, rfl, by decide +kernel, by decide +kernel⟩
theorem ok_law_least_odd {P : Program} {w : World} {K : PySem.W.Frag} {mg : Str → Option Value} {base : Heap} (W : Hd K mg) : OkD P w K mg base 2 "_law_least_odd" ["_law_n", "_law_near_here"] (sp_law_least_odd K) := by
  obtain ⟨fd, F⟩ := W.df_law_least_odd
  refine okD_mk F W.mg_law_least_odd (fun _ _ _ _ _ _ us hl => match us, hl with | [_, _], _ => rfl) ?_
  refine F.ok sc_law_least_odd (fun vs H Q E h => sp_law_least_odd.len h) (fun cdv A outer s H vs Q E hr h => ⟨_, PSs.nox ((pss_cons (ps_for PassesOwn.never rfl (pi_range1 (by rfl) (W.fr_range) (pa_cons (pe_op op_add (pv 0) pe_int) pa_nil)) (pg_name (i := 2) sc_law_least_odd.nd rfl (by first | exact .inl rfl | exact .inr rfl))
  (pss_one (ps_for PassesOwn.never rfl (pi_list (pe_callD (ok_law_subsets_of W) (hr.mono (by decide)) (pa_cons (pe_listRg rfl (by rfl) (W.fr_list) (prg_1 (by rfl) (W.fr_range) (pv 0))) (pa_cons (pv 2) pa_nil)))) (pg_name (i := 3) sc_law_least_odd.nd rfl (by first | exact .inl rfl | exact .inr rfl))
  (pss_one (ps_if (pt_cmpR op_notNq (pe_callD (ok_law_two W) (hr.mono (by decide)) (pa_cons (pv 1) (pa_cons (pe_callD (ok_law_without W) (hr.mono (by decide)) (pa_cons (pv 0) (pa_cons (pv 3) pa_nil))) pa_nil))) pe_non (nomark _))
  (pss_one (ps_ret (pv 2)))
  pss_nil)))))
  (pss_one (ps_ret pe_non)))), ?_⟩)
  try dsimp only [cxOf, Cx.nox, Cx.wish]
  obtain ⟨la, lk, n, Es, rfl, hla, pl, good, h7, k⟩ := h
  walk_at "go"
  refine for_rng1 (n := (n : Int) + 1) (by omega) (by omega) (fun i σ' H' => (∃ u v : Option V, σ' = [some (.int n), some (.ref la), u, v]) ∧ Same H H' ∧ ∀ T, Rising n T → Bip (Adj (outE Es T)) → i ≤ T.length) ?_ ?_ ?_
  · exact ⟨⟨_, _, rfl⟩, Same.refl _, fun _ _ _ => Nat.zero_le _⟩
  · rintro i σ' H1 hi ⟨⟨u, v, rfl⟩, sm, T1⟩
    walk_at "go"
    refine g_lrg ?_
    walk_at "go"
    refine g_rlrg (by omega) fun q nq => ?_
    have s1 : Same H1 (upd H1 q (.lst ((rngI n).map V.int))) := Same.new (Same.refl _) nq
    walk_at "go"
    refine ⟨q, rngI n, i, rfl, upd_same, by rw [rngI_len]; exact h7, by omega, fun H2 sv s2 rs => ?_⟩
    obtain ⟨svs, ⟨sa, rfl, _, hsa⟩, ps⟩ := rs
    have s02 := Same.trans sm (Same.trans s1 s2)
    refine for_rep (R := rInts (Trk (upd H1 q (.lst ((rngI n).map V.int)))) H2) (h := hsa) (pr := ps) (fun pre σ' H' => (∃ v : Option V, σ' = [some (.int n), some (.ref la), some (.int (i : Nat)), v]) ∧ Same H2 H' ∧ ∀ s ∈ pre, ¬ Bip (Adj (outE Es s))) ?_ ?_ ?_ ?_
    · exact ⟨⟨_, rfl⟩, Same.refl _, by simp⟩
    · rintro pre σ' H' _ ⟨_, s, _⟩
      exact s _ _ hsa
    · rintro pre x s post σ' H3 e ⟨b, rfl, _, hb⟩ ⟨⟨v, rfl⟩, s3, T2⟩
      have hb3 := s3 _ _ hb
      have s03 := Same.trans s02 s3
      obtain ⟨m1, m2, m3⟩ := (mem_subF (ns := rngI n) (k := i) (s := s)).mp (by rw [e]; simp)
      have rs : Rising n s := ⟨m2, fun x hx => mem_rngI.mp (m3 x hx)⟩
      walk_at "go"
      refine ⟨n, b, s, rfl, hb3, by omega, fun H4 p s4 np hp => ?_⟩
      have s04 := Same.trans s03 s4
      walk_at "go"
      refine ⟨la, p, lk, n, Es, s, rfl, s04 _ _ hla, pl_same s04 pl, hp, good, by omega, fun bp H5 d m s5 nd hd _ _ _ => ?_, fun nb H5 s5 => ?_⟩
      · walk_at "go"
        exact k H5 i (Same.trans s04 s5) ⟨T1, s, rs, bp, m1⟩
      · walk_at "go"
        refine ⟨⟨_, rfl⟩, Same.trans s3 (Same.trans s4 s5), fun y hy => ?_⟩
        rcases List.mem_append.mp hy with hy | hy
        · exact T2 y hy
        · rw [List.mem_singleton.mp hy]
          exact nb
    · rintro σ' H3 ⟨⟨v, rfl⟩, s3, T2⟩
      refine ⟨⟨_, _, rfl⟩, Same.trans s02 s3, fun T rT bT => ?_⟩
      have h1 := T1 T rT bT
      refine Classical.byContradiction fun z => ?_
      exact T2 T (mem_subF.mpr ⟨by omega, rT.1, fun x hx => mem_rngI.mpr (rT.2 x hx)⟩) bT
  · rintro σ' H1 ⟨⟨u, v, rfl⟩, sm, T1⟩
    obtain ⟨a1, a2⟩ := all_odd good
    have := T1 _ a1 a2
    rw [rngI_len] at this
    omega

/-! ### law_order -/
def sp_law_order (K : PySem.W.Frag) : Sp := fun vs H Q _ => ∃ (d nl : Addr) (n : Nat), vs = [.ref d, .int n] ∧ Drw H d nl ∧ n ≤ 1000 ∧ ∀ H' p (ord : List Int), KeepD d H H' → Drw H' d nl → H p = none → H' p = some (.lst (ord.map V.int)) → ord.Perm (rngI n) → Q (.ref p) H'
theorem sp_law_order.len {K : PySem.W.Frag} {vs : List V} {H : Hp} {Q : VK} {E : XK} (h : sp_law_order K vs H Q E) : vs.length = (["_law_draws", "_law_n"] : List Str).length := by
  obtain ⟨d, nl, n, rfl, _⟩ := h
  rfl
abbrev N_law_order : List Str := ["_law_draws", "_law_n", "_law_rest", "_law_order_here", "_law_k", "_law_at"]
theorem sc_law_order : FnScope N_law_order ["_law_draws", "_law_n"] (defScope s_law_order) := ⟨rfl, rfl, rfl, by decide +kernel, rfl, by decide +kernel, by decide +kernel⟩
theorem ok_law_order {P : Program} {w : World} {K : PySem.W.Frag} {mg : Str → Option Value} {base : Heap} (W : Hd K mg) : OkD P w K mg base 3 "_law_order" ["_law_draws", "_law_n"] (sp_law_order K) := by
  obtain ⟨fd, F⟩ := W.df_law_order
  refine okD_mk F W.mg_law_order (fun _ _ _ _ _ _ us hl => match us, hl with | [_, _], _ => rfl) ?_
  refine F.ok sc_law_order (fun vs H Q E h => sp_law_order.len h) (fun cdv A outer s H vs Q E hr h => ⟨_, PSs.nox ((pss_cons (ps_set (i := 2) sc_law_order.nd rfl (by first | exact .inl rfl | exact .inr rfl) (pe_listRg rfl (by rfl) (W.fr_list) (prg_1 (by rfl) (W.fr_range) (pv 1))))
  (pss_cons (ps_set (i := 3) sc_law_order.nd rfl (by first | exact .inl rfl | exact .inr rfl) (pe_lst pa_nil))
  (pss_cons (ps_for PassesOwn.never rfl (pi_range1 (by rfl) (W.fr_range) (pa_cons (pv 1) pa_nil)) (pg_name (i := 4) sc_law_order.nd rfl (by first | exact .inl rfl | exact .inr rfl))
  (pss_cons (ps_set (i := 5) sc_law_order.nd rfl (by first | exact .inl rfl | exact .inr rfl) (pe_op op_mod (pe_callD (ok_law_draw W) (hr.mono (by decide)) (pa_cons (pv 0) pa_nil)) (pe_callB (call_lenK K) (by rfl) (W.fr_len) PySem.boot_len (pa_cons (pv 2) pa_nil))))
  (pss_cons (ps_expr (pe_bmK K PySem.F.plainAttrs_list PySem.F.slot_list_append PySem.F.type_list_append mt_append (pv 3) (pa_cons (pe_ix (ix_listK K) (pv 2) (pv 5) (fun _ _ => rfl)) pa_nil)))
  (pss_one (ps_set (i := 2) sc_law_order.nd rfl (by first | exact .inl rfl | exact .inr rfl) (pe_op op_cat (pe_slice (sl_listK K) (pv 2) po_none (po_some (pv 5))) (pe_slice (sl_listK K) (pv 2) (po_some (pe_op op_add (pv 5) pe_int)) po_none)))))))
  (pss_one (ps_ret (pv 3))))))), ?_⟩)
  try dsimp only [cxOf, Cx.nox, Cx.wish]
  obtain ⟨d, nl, n, rfl, dr, hn, k⟩ := h
  have nd := dr.is
  walk_at "go"
  refine g_lrg ?_
  walk_at "go"
  refine g_rlrg (by omega) fun r0 nr0 => ?_
  have s1 : Same H (upd H r0 (.lst ((rngI n).map V.int))) := Same.new (Same.refl _) nr0
  have hr0 : upd H r0 (.lst ((rngI n).map V.int)) r0 = some (.lst ((rngI n).map V.int)) := upd_same
  generalize upd H r0 (.lst ((rngI n).map V.int)) = H1 at s1 hr0 ⊢
  walk_at "go"
  intro O nO
  have nO0 := s1.free nO
  have Od : O ≠ d := fun z => nd (by rw [← z]; exact nO0)
  have s2 : Same H (upd H1 O (.lst [])) := Same.new s1 nO
  have r0d : r0 ≠ d := fun z => nd (by rw [← z]; exact nr0)
  have r0O : r0 ≠ O := ne_of_none hr0 nO
  walk_at "go"
  refine for_rng1 (n := (n : Nat)) (by omega) (by omega) (fun i σ' H' => (∃ (r : Addr) (u v : Option V) (ord rs : List Int), σ' = [some (.ref d), some (.int n), some (.ref r), some (.ref O), u, v] ∧ r ≠ d ∧ r ≠ O ∧ H' r = some (.lst (rs.map V.int)) ∧ H' O = some (.lst (ord.map V.int)) ∧ (ord ++ rs).Perm (rngI n) ∧ ord.length = i) ∧ KeepD d H H' ∧ Drw H' d nl) ?_ ?_ ?_
  · exact ⟨⟨r0, _, _, [], rngI n, rfl, r0d, r0O, hp_new hr0 nO, upd_same, List.Perm.refl _, rfl⟩, KeepD.same s2, dr.same s2⟩
  · rintro i σ' H2 hi ⟨⟨r, u, v, ord, rs, rfl, rd, rO, hr2, hO2, pm, ol⟩, kd, dr2⟩
    have pl := pm.length_eq
    rw [List.length_append, rngI_len] at pl
    walk_at "go"
    refine ⟨d, nl, rfl, dr2, fun H3 x k3 dr3 => ?_⟩
    have hr3 := k3 _ _ rd hr2
    have hO3 := k3 _ _ Od hO2
    walk_at "go"
    refine g_rI (by omega) ?_
    have a0 := Int.emod_nonneg x (b := (rs.length : Nat)) (by omega)
    have a1 := Int.emod_lt_of_pos x (b := (rs.length : Nat)) (by omega)
    generalize x % ((rs.length : Nat) : Int) = z at a0 a1 ⊢
    obtain ⟨j, rfl⟩ : ∃ j : Nat, z = j := ⟨z.toNat, by omega⟩
    have jl : j < rs.length := by omega
    obtain ⟨y, hy⟩ : ∃ y, rs[j]? = some y := ⟨_, List.getElem?_eq_getElem jl⟩
    walk_at "go"
    refine g_ixI hr3 (atI_at (by omega) (by rw [Int.toNat_natCast]; exact hy)) ?_
    walk_at "go"
    refine g_appI hO3 (small_of (by omega)) ?_
    have hr4 : upd H3 O (.lst ((ord ++ [y]).map V.int)) r = some (.lst (rs.map V.int)) := by rw [upd_ne rO]; exact hr3
    have hO4 : upd H3 O (.lst ((ord ++ [y]).map V.int)) O = some (.lst ((ord ++ [y]).map V.int)) := upd_same
    have k4 : KeepD d H (upd H3 O (.lst ((ord ++ [y]).map V.int))) := KeepD.mut (KeepD.trans kd k3) nO0
    have dr4 : Drw (upd H3 O (.lst ((ord ++ [y]).map V.int))) d nl := Drw.mut dr dr3 nO0
    generalize upd H3 O (.lst ((ord ++ [y]).map V.int)) = H4 at hr4 hO4 k4 dr4 ⊢
    walk_at "go"
    intro c1 nc1
    rw [cut_to (by rw [List.length_map]; omega), ← List.map_take]
    walk_at "go"
    intro c2 nc2
    have ej : ((j : Nat) : Int) + 1 = ((j + 1 : Nat) : Int) := by omega
    rw [ej, cut_from (by rw [List.length_map]; omega), ← List.map_drop]
    refine g_cat (by walk_at "hp") upd_same (size_le (by rw [List.length_map, List.length_map, List.length_take, List.length_drop]; omega)) fun p np => ?_
    have sN : Same H4 (upd (upd (upd H4 c1 (.lst ((rs.take j).map V.int))) c2 (.lst ((rs.drop (j + 1)).map V.int))) p (.lst ((rs.take j).map V.int ++ (rs.drop (j + 1)).map V.int))) := Same.new (Same.new (Same.new (Same.refl _) nc1) nc2) np
    walk_at "go"
    have np4 : H4 p = none := new_old (new_old np)
    refine ⟨⟨p, _, _, ord ++ [y], rs.take j ++ rs.drop (j + 1), rfl, fun z => dr4.is (by rw [← z]; exact np4), fun z => (by rw [z, hO4] at np4; cases np4), by rw [List.map_append]; exact upd_same, sN _ _ hO4, ?_, by simp [ol]⟩, KeepD.trans k4 (KeepD.same sN), dr4.same sN⟩
    have e1 : rs = rs.take j ++ y :: rs.drop (j + 1) := by
      obtain ⟨h1, h2⟩ := List.getElem?_eq_some_iff.mp hy
      have := List.take_append_drop j rs
      rw [← List.getElem_cons_drop h1, h2] at this
      exact this.symm
    refine List.Perm.trans ?_ pm
    rw [List.append_assoc]
    refine List.Perm.append_left ord ?_
    conv => rhs; rw [e1]
    show (y :: (rs.take j ++ rs.drop (j + 1))).Perm (rs.take j ++ y :: rs.drop (j + 1))
    exact List.perm_middle.symm
  · rintro σ' H' ⟨⟨r, u, v, ord, rs, rfl, rd, rO, hr2, hO2, pm, ol⟩, kd, dr2⟩
    walk_at "go"
    have pl := pm.length_eq
    rw [List.length_append, rngI_len] at pl
    have e : rs = [] := List.length_eq_zero_iff.mp (by omega)
    rw [e, List.append_nil] at pm
    exact k H' O ord kd dr2 nO0 hO2 pm

/-! ### law_pairs -/
/-- pairs that are drawn: those up to u, v -/
def PO (n : Nat) (v u : Int) (ps : List (Int × Int)) : Prop := ps.Nodup ∧ ∀ p ∈ ps, 0 ≤ p.1 ∧ p.1 < p.2 ∧ p.2 < n ∧ (p.2 < v ∨ (p.2 = v ∧ p.1 < u))
structure PSt (H : Hp) (d nl pa P : Addr) (n : Nat) (part : List Int) (v u : Int) (H' : Hp) : Prop where
  kd : KeepD d H H'
  dr : Drw H' d nl
  hp : H' pa = some (.lst (part.map V.int))
  pr : ∃ xs ps, H' P = some (.lst xs) ∧ Paired (rPair (fun b => b = d ∨ b = P) H') xs ps ∧ PO n v u ps ∧ (ps.length : Int) ≤ v * 40 + u
section
variable {H H' H2 : Hp} {d nl pa P : Addr} {n : Nat} {part : List Int} {v u : Int}
theorem PSt.draw (S : PSt H d nl pa P n part v u H') (n1 : pa ≠ d) (n2 : P ≠ d) (k : KeepD d H' H2) (dr : Drw H2 d nl) : PSt H d nl pa P n part v u H2 := by
  obtain ⟨xs, ps, h1, h2, h3, h4⟩ := S.pr
  exact ⟨KeepD.trans S.kd k, dr, k _ _ n1 S.hp, xs, ps, k _ _ n2 h1, L2.Paired.mapP h2 fun _ _ z => rPair.frm.mv (fun b o m e => ⟨k b o (fun z => m (.inl z)) e, m⟩) z, h3, h4⟩
theorem PO.up {v' u' : Int} {ps : List (Int × Int)} (h : PO n v u ps) (l : v < v' ∨ (v = v' ∧ u ≤ u')) : PO n v' u' ps := ⟨h.1, fun p hp => by have := h.2 p hp; omega⟩
theorem PSt.up {v' u' : Int} (S : PSt H d nl pa P n part v u H') (l : v < v' ∨ (v = v' ∧ u ≤ u')) (b : v * 40 + u ≤ v' * 40 + u') : PSt H d nl pa P n part v' u' H' := by
  obtain ⟨xs, ps, h1, h2, h3, h4⟩ := S.pr
  exact ⟨S.kd, S.dr, S.hp, xs, ps, h1, h2, h3.up l, by omega⟩
theorem PSt.app (S : PSt H d nl pa P n part v u H') (D0 : Drw H d nl) (nP : H P = none) (n2 : P ≠ d) (n3 : pa ≠ P) (r : 0 ≤ u ∧ u < v ∧ v < n) (n40 : n ≤ 40) {t : Addr} (nt : H' t = none) : ∃ xs, upd H' t (.tup [.int u, .int v]) P = some (.lst xs) ∧ xs.length < sizeLine ∧ PSt H d nl pa P n part v (u + 1) (upd (upd H' t (.tup [.int u, .int v])) P (.lst (xs ++ [.ref t]))) := by
  obtain ⟨xs, ps, h1, h2, h3, h4⟩ := S.pr
  have td : t ≠ d := fun z => S.dr.is (by rw [← z]; exact nt)
  have tP : t ≠ P := fun z => by rw [z, h1] at nt; cases nt
  refine ⟨xs, hp_new h1 nt, small_of (by have := Paired.len h2; omega), ?_, ?_, ?_, xs ++ [.ref t], ps ++ [(u, v)], upd_same, ?_, ⟨?_, fun p hp => ?_⟩, ?_⟩
  · exact KeepD.mut (KeepD.new S.kd nt S.dr.is) nP
  · exact Drw.mut D0 (S.dr.same (Same.new (Same.refl _) nt)) nP
  · rw [upd_ne n3]
    exact hp_new S.hp nt
  · refine Paired.snoc (L2.Paired.mapP h2 fun _ _ z => rPair.frm.mv (Mov.trans (.new nt) (.mut (.inr rfl))) z) ⟨t, rfl, fun z => z.elim td tP, ?_⟩
    rw [upd_ne tP]
    exact upd_same
  · rw [List.nodup_append]
    refine ⟨h3.1, by simp, fun a ha b hb e => ?_⟩
    have := h3.2 a ha
    rw [e, List.mem_singleton.mp hb] at this
    simp at this
  · rcases List.mem_append.mp hp with hp | hp
    · have := h3.2 p hp
      omega
    · rw [List.mem_singleton.mp hp]
      simp
      omega
  · rw [List.length_append]
    simp
    omega
end
def sp_law_pairs (K : PySem.W.Frag) : Sp := fun vs H Q _ => ∃ (d nl : Addr) (n : Nat), vs = [.ref d, .int n] ∧ Drw H d nl ∧ n ≤ 40 ∧ ∀ H' p xs (ps : List (Int × Int)), KeepD d H H' → Drw H' d nl → H p = none → H' p = some (.lst xs) → Paired (rPair (fun b => b = d ∨ b = p) H') xs ps → ps.Nodup → (∀ q ∈ ps, 0 ≤ q.1 ∧ q.1 < q.2 ∧ q.2 < n) → ps.length ≤ 1640 → Q (.ref p) H'
theorem sp_law_pairs.len {K : PySem.W.Frag} {vs : List V} {H : Hp} {Q : VK} {E : XK} (h : sp_law_pairs K vs H Q E) : vs.length = (["_law_draws", "_law_n"] : List Str).length := by
  obtain ⟨d, nl, n, rfl, _⟩ := h
  rfl
abbrev N_law_pairs : List Str := ["_law_draws", "_law_n", "_law_pick", "_law_dense", "_law_part", "_law_pairs_here", "_law_v", "_law_u"]
theorem sc_law_pairs : FnScope N_law_pairs ["_law_draws", "_law_n"] (defScope s_law_pairs) := ⟨rfl, rfl, rfl, by decide +kernel, rfl, by decide +kernel, by decide +kernel⟩
theorem ok_law_pairs {P : Program} {w : World} {K : PySem.W.Frag} {mg : Str → Option Value} {base : Heap} (W : Hd K mg) : OkD P w K mg base 3 "_law_pairs" ["_law_draws", "_law_n"] (sp_law_pairs K) := by
  obtain ⟨fd, F⟩ := W.df_law_pairs
  refine okD_mk F W.mg_law_pairs (fun _ _ _ _ _ _ us hl => match us, hl with | [_, _], _ => rfl) ?_
  refine F.ok sc_law_pairs (fun vs H Q E h => sp_law_pairs.len h) (fun cdv A outer s H vs Q E hr h => ⟨_, PSs.nox ((pss_cons (ps_set (i := 2) sc_law_pairs.nd rfl (by first | exact .inl rfl | exact .inr rfl) (pe_op op_mod (pe_callD (ok_law_draw W) (hr.mono (by decide)) (pa_cons (pv 0) pa_nil)) pe_int))
  (pss_cons (ps_set (i := 3) sc_law_pairs.nd rfl (by first | exact .inl rfl | exact .inr rfl) (pe_op op_add pe_int (pe_op op_mod (pe_callD (ok_law_draw W) (hr.mono (by decide)) (pa_cons (pv 0) pa_nil)) pe_int)))
  (pss_cons (ps_setLc (i := 4) (own := [("_law_v", 6)]) (g := gName 6) rfl sc_law_pairs.nd rfl rfl (sw_true rfl rfl rfl (by decide +kernel)) (pi_range1 (by rfl) (W.fr_range) (pa_cons (pv 1) pa_nil)) (blkOk_by (N := N_law_pairs) (sc := defScope s_law_pairs) (by decide +kernel)) (fun _ _ _ _ _ => pg_name (i := 6) sc_law_pairs.nd rfl (Or.inl rfl)) (fun _ _ _ _ _ => pts_nil) (fun _ _ _ _ _ => (pe_op op_mod (pe_callD (ok_law_draw W) (hr.mono (by decide)) (pa_cons (pv 0) pa_nil)) pe_int)))
  (pss_cons (ps_set (i := 5) sc_law_pairs.nd rfl (by first | exact .inl rfl | exact .inr rfl) (pe_lst pa_nil))
  (pss_cons (ps_for PassesOwn.never rfl (pi_range1 (by rfl) (W.fr_range) (pa_cons (pv 1) pa_nil)) (pg_name (i := 6) sc_law_pairs.nd rfl (by first | exact .inl rfl | exact .inr rfl))
  (pss_one (ps_for PassesOwn.never rfl (pi_range1 (by rfl) (W.fr_range) (pa_cons (pv 6) pa_nil)) (pg_name (i := 7) sc_law_pairs.nd rfl (by first | exact .inl rfl | exact .inr rfl))
  (pss_one (ps_if (PW.pt (pw_and (pt_cmpR op_eq (pv 2) pe_int (nomark _)) (pw_and1 (PW.pt (pw_or (pt_cmpR op_eq (pe_op op_add (pv 7) pe_int) (pv 6) (nomark _)) (pw_or (PW.pt (pw_and (pt_cmpR op_eq (pv 7) pe_int (nomark _)) (pw_and1 (pt_cmpR op_eq (pv 6) (pe_op op_sub (pv 1) pe_int) (nomark _))))) (pw_or1 (pt_cmpR op_eq (pe_op op_mod (pe_callD (ok_law_draw W) (hr.mono (by decide)) (pa_cons (pv 0) pa_nil)) pe_int) pe_int (nomark _)))))))))
  (pss_one (ps_expr (pe_bmK K PySem.F.plainAttrs_list PySem.F.slot_list_append PySem.F.type_list_append mt_append (pv 5) (pa_cons (pe_tup (pa_cons (pv 7) (pa_cons (pv 6) pa_nil))) pa_nil))))
  (pss_one (ps_if (PW.pt (pw_and (pt_cmpR op_eq (pv 2) pe_int (nomark _)) (pw_and1 (pt_cmpR op_eq (pv 7) (pe_op op_mod (pe_op op_add (pe_ix (ix_listK K) (pv 4) (pv 6) (fun _ _ => rfl)) (pe_op op_fdiv (pv 6) pe_int)) (pv 6)) (nomark _)))))
  (pss_one (ps_expr (pe_bmK K PySem.F.plainAttrs_list PySem.F.slot_list_append PySem.F.type_list_append mt_append (pv 5) (pa_cons (pe_tup (pa_cons (pv 7) (pa_cons (pv 6) pa_nil))) pa_nil))))
  (pss_one (ps_if (PW.pt (pw_and (pt_cmpR op_eq (pv 2) pe_int (nomark _)) (pw_and1 (pt_cmpR op_eq (pe_ix (ix_listK K) (pv 4) (pv 7) (fun _ _ => rfl)) (pe_ix (ix_listK K) (pv 4) (pv 6) (fun _ _ => rfl)) (nomark _)))))
  (pss_one (ps_expr (pe_bmK K PySem.F.plainAttrs_list PySem.F.slot_list_append PySem.F.type_list_append mt_append (pv 5) (pa_cons (pe_tup (pa_cons (pv 7) (pa_cons (pv 6) pa_nil))) pa_nil))))
  (pss_one (ps_if (PW.pt (pw_and (pt_cmpR op_eq (pv 2) pe_int (nomark _)) (pw_and (pt_cmpR op_ne (pe_ix (ix_listK K) (pv 4) (pv 7) (fun _ _ => rfl)) (pe_ix (ix_listK K) (pv 4) (pv 6) (fun _ _ => rfl)) (nomark _)) (pw_and1 (pt_cmpR op_lt (pe_op op_mod (pe_callD (ok_law_draw W) (hr.mono (by decide)) (pa_cons (pv 0) pa_nil)) pe_int) (pv 3) (nomark _))))))
  (pss_one (ps_expr (pe_bmK K PySem.F.plainAttrs_list PySem.F.slot_list_append PySem.F.type_list_append mt_append (pv 5) (pa_cons (pe_tup (pa_cons (pv 7) (pa_cons (pv 6) pa_nil))) pa_nil))))
  (pss_one (ps_if (PW.pt (pw_and (pt_cmpR op_eq (pv 2) pe_int (nomark _)) (pw_and1 (PW.pt (pw_or (pt_cmpR op_eq (pv 6) (pe_op op_add (pv 7) pe_int) (nomark _)) (pw_or1 (PW.pt (pw_and (pt_cmpR op_eq (pv 6) (pe_op op_add (pv 7) pe_int) (nomark _)) (pw_and1 (pt_cmpR op_gt (pe_op op_mod (pv 6) pe_int) pe_int (nomark _)))))))))))
  (pss_one (ps_expr (pe_bmK K PySem.F.plainAttrs_list PySem.F.slot_list_append PySem.F.type_list_append mt_append (pv 5) (pa_cons (pe_tup (pa_cons (pv 7) (pa_cons (pv 6) pa_nil))) pa_nil))))
  (pss_one (ps_if (PW.pt (pw_and (pt_cmpR op_gt (pv 2) pe_int (nomark _)) (pw_and1 (pt_cmpR op_lt (pe_op op_mod (pe_callD (ok_law_draw W) (hr.mono (by decide)) (pa_cons (pv 0) pa_nil)) pe_int) (pv 3) (nomark _)))))
  (pss_one (ps_expr (pe_bmK K PySem.F.plainAttrs_list PySem.F.slot_list_append PySem.F.type_list_append mt_append (pv 5) (pa_cons (pe_tup (pa_cons (pv 7) (pa_cons (pv 6) pa_nil))) pa_nil))))
  pss_nil)))))))))))))))
  (pss_one (ps_ret (pv 5))))))))), ?_⟩)
  try dsimp only [cxOf, Cx.nox, Cx.wish]
  obtain ⟨d, nl, n, rfl, dr, n40, k⟩ := h
  walk_at "go"
  refine ⟨d, nl, rfl, dr, fun H1 x1 k1 dr1 => ?_⟩
  walk_at "go"
  refine ⟨d, nl, rfl, dr1, fun H2 x2 k2 dr2 => ?_⟩
  have k02 := KeepD.trans k1 k2
  have p0 := Int.emod_nonneg x1 (b := 7) (by decide)
  generalize x1 % 7 = pick at p0 ⊢
  walk_at "go"
  refine lc_rng1 (n := (n : Int)) (by omega) (by omega) (fun D i H' => KeepD d H H' ∧ Drw H' d nl ∧ ∃ part : List Int, H' D = some (.lst (part.map V.int)) ∧ part.length = i) ?_ ?_ ?_
  · exact fun D nD => ⟨KeepD.new k02 nD dr2.is, dr2.same (Same.new (Same.refl _) nD), [], upd_same, rfl⟩
  · rintro D i H' nD hi ⟨kd, drd, part, hD, pl⟩
    have Dd : D ≠ d := fun z => dr2.is (by rw [← z]; exact nD)
    have nD0 : H D = none := k02.free Dd nD
    walk_at "go"
    refine ⟨d, nl, rfl, drd, fun H3 x k3 dr3 => ?_⟩
    walk_at "go"
    refine ⟨_, k3 _ _ Dd hD, small_of (by rw [List.length_map]; omega), KeepD.mut (KeepD.trans kd k3) nD0, Drw.mut dr dr3 nD0, part ++ [x % 3], ?_, by simp [pl]⟩
    rw [List.map_append]
    exact upd_same
  rintro pa H4 nPa ⟨kd, dr4, part, hpa, pl⟩
  rw [Int.toNat_natCast] at pl
  have pd : pa ≠ d := fun z => dr2.is (by rw [← z]; exact nPa)
  walk_at "go"
  intro P nP
  have Pd : P ≠ d := fun z => dr4.is (by rw [← z]; exact nP)
  have nP0 : H P = none := kd.free Pd nP
  have paP : pa ≠ P := ne_of_none hpa nP
  have S0 : PSt H d nl pa P n part 0 0 (upd H4 P (.lst [])) := ⟨KeepD.new kd nP dr4.is, dr4.same (Same.new (Same.refl _) nP), hp_new hpa nP, [], [], upd_same, .nil, ⟨by simp, by simp⟩, by simp⟩
  generalize upd H4 P (.lst []) = H5 at S0 ⊢
  walk_at "go"
  refine for_rng1 (n := (n : Nat)) (by omega) (by omega) (fun v σ' H' => (∃ u w : Option V, σ' = [some (.ref d), some (.int n), some (.int pick), some (.int (1 + x2 % 9)), some (.ref pa), some (.ref P), u, w]) ∧ PSt H d nl pa P n part v 0 H') ⟨⟨_, _, rfl⟩, S0⟩ ?_ ?_
  · rintro v σ' H' hv ⟨⟨u, w, rfl⟩, S⟩
    walk_at "go"
    refine for_rng1 (n := (v : Nat)) (by omega) (by omega) (fun u σ' H' => (∃ w : Option V, σ' = [some (.ref d), some (.int n), some (.int pick), some (.int (1 + x2 % 9)), some (.ref pa), some (.ref P), some (.int (v : Nat)), w]) ∧ PSt H d nl pa P n part v u H') ⟨⟨_, rfl⟩, S⟩ ?_ ?_
    · rintro u σ' H' hu ⟨⟨w, rfl⟩, S⟩
      have skip : ∀ {H'}, PSt H d nl pa P n part v u H' → PSt H d nl pa P n part v ((u + 1 : Nat) : Int) H' := fun S => S.up (.inr ⟨rfl, by omega⟩) (by omega)
      have app : ∀ {H'} {t : Addr}, PSt H d nl pa P n part v u H' → H' t = none → ∃ xs, upd H' t (.tup [.int u, .int v]) P = some (.lst xs) ∧ xs.length < sizeLine ∧ PSt H d nl pa P n part v ((u + 1 : Nat) : Int) (upd (upd H' t (.tup [.int u, .int v])) P (.lst (xs ++ [.ref t]))) := fun S nt => S.app dr nP0 Pd paP ⟨by omega, by omega, by omega⟩ n40 nt
      obtain ⟨yv, gv⟩ : ∃ y, part[v]? = some y := ⟨_, List.getElem?_eq_getElem (by omega)⟩
      obtain ⟨yu, gu⟩ : ∃ y, part[u]? = some y := ⟨_, List.getElem?_eq_getElem (by omega)⟩
      have hpk : pick = 0 ∨ pick = 1 ∨ pick = 2 ∨ pick = 3 ∨ pick = 4 ∨ pick > 4 := by omega
      rcases hpk with hpk | hpk | hpk | hpk | hpk | hpk
      · walk_at "go"
        refine g_iteP (by omega) ?_
        walk_at "go"
        refine g_ite (fun c1 => ?_) (fun c1 => ?_)
        · obtain ⟨xs0, ps0, hP, _⟩ := id S.pr
          walk_at "go"
          intro t nt
          obtain ⟨xs, a1, a2, a3⟩ := app S nt
          walk_at "go"
          exact g_app a1 a2 ⟨⟨_, rfl⟩, a3⟩
        · walk_at "go"
          refine g_ite (fun c2 => ?_) (fun c2 => ?_)
          · walk_at "go"
            refine g_ite (fun c3 => ?_) (fun c3 => ?_)
            · obtain ⟨xs0, ps0, hP, _⟩ := id S.pr
              walk_at "go"
              intro t nt
              obtain ⟨xs, a1, a2, a3⟩ := app S nt
              walk_at "go"
              exact g_app a1 a2 ⟨⟨_, rfl⟩, a3⟩
            · walk_at "go"
              refine ⟨d, nl, rfl, S.dr, fun H2 x k2 dr2 => ?_⟩
              have S := S.draw pd Pd k2 dr2
              walk_at "go"
              refine g_ite (fun c4 => ?_) (fun c4 => ?_)
              · obtain ⟨xs0, ps0, hP, _⟩ := id S.pr
                walk_at "go"
                intro t nt
                obtain ⟨xs, a1, a2, a3⟩ := app S nt
                walk_at "go"
                exact g_app a1 a2 ⟨⟨_, rfl⟩, a3⟩
              · walk_at "go"
                refine g_iteQ (by omega) ?_
                walk_at "go"
                refine g_iteQ (by omega) ?_
                walk_at "go"
                refine g_iteQ (by omega) ?_
                walk_at "go"
                refine g_iteQ (by omega) ?_
                walk_at "go"
                refine g_iteQ (by omega) ?_
                walk_at "go"
                exact ⟨⟨_, rfl⟩, skip S⟩
          · walk_at "go"
            refine ⟨d, nl, rfl, S.dr, fun H2 x k2 dr2 => ?_⟩
            have S := S.draw pd Pd k2 dr2
            walk_at "go"
            refine g_ite (fun c4 => ?_) (fun c4 => ?_)
            · obtain ⟨xs0, ps0, hP, _⟩ := id S.pr
              walk_at "go"
              intro t nt
              obtain ⟨xs, a1, a2, a3⟩ := app S nt
              walk_at "go"
              exact g_app a1 a2 ⟨⟨_, rfl⟩, a3⟩
            · walk_at "go"
              refine g_iteQ (by omega) ?_
              walk_at "go"
              refine g_iteQ (by omega) ?_
              walk_at "go"
              refine g_iteQ (by omega) ?_
              walk_at "go"
              refine g_iteQ (by omega) ?_
              walk_at "go"
              refine g_iteQ (by omega) ?_
              walk_at "go"
              exact ⟨⟨_, rfl⟩, skip S⟩
      · walk_at "go"
        refine g_iteQ (by omega) ?_
        walk_at "go"
        refine g_iteP (by omega) ?_
        walk_at "go"
        refine g_ixI S.hp (atI_at (by omega) (by rw [Int.toNat_natCast]; exact gv)) ?_
        walk_at "go"
        refine g_rI (by omega) ?_
        walk_at "go"
        refine g_ite (fun c1 => ?_) (fun c1 => ?_)
        · obtain ⟨xs0, ps0, hP, _⟩ := id S.pr
          walk_at "go"
          intro t nt
          obtain ⟨xs, a1, a2, a3⟩ := app S nt
          walk_at "go"
          exact g_app a1 a2 ⟨⟨_, rfl⟩, a3⟩
        · walk_at "go"
          refine g_iteQ (by omega) ?_
          walk_at "go"
          refine g_iteQ (by omega) ?_
          walk_at "go"
          refine g_iteQ (by omega) ?_
          walk_at "go"
          refine g_iteQ (by omega) ?_
          walk_at "go"
          exact ⟨⟨_, rfl⟩, skip S⟩
      · walk_at "go"
        refine g_iteQ (by omega) ?_
        walk_at "go"
        refine g_iteQ (by omega) ?_
        walk_at "go"
        refine g_iteP (by omega) ?_
        walk_at "go"
        refine g_ixI S.hp (atI_at (by omega) (by rw [Int.toNat_natCast]; exact gu)) ?_
        walk_at "go"
        refine g_ixI S.hp (atI_at (by omega) (by rw [Int.toNat_natCast]; exact gv)) ?_
        walk_at "go"
        refine g_ite (fun c1 => ?_) (fun c1 => ?_)
        · obtain ⟨xs0, ps0, hP, _⟩ := id S.pr
          walk_at "go"
          intro t nt
          obtain ⟨xs, a1, a2, a3⟩ := app S nt
          walk_at "go"
          exact g_app a1 a2 ⟨⟨_, rfl⟩, a3⟩
        · walk_at "go"
          refine g_iteQ (by omega) ?_
          walk_at "go"
          refine g_iteQ (by omega) ?_
          walk_at "go"
          refine g_iteQ (by omega) ?_
          walk_at "go"
          exact ⟨⟨_, rfl⟩, skip S⟩
      · walk_at "go"
        refine g_iteQ (by omega) ?_
        walk_at "go"
        refine g_iteQ (by omega) ?_
        walk_at "go"
        refine g_iteQ (by omega) ?_
        walk_at "go"
        refine g_iteP (by omega) ?_
        walk_at "go"
        refine g_ixI S.hp (atI_at (by omega) (by rw [Int.toNat_natCast]; exact gu)) ?_
        walk_at "go"
        refine g_ixI S.hp (atI_at (by omega) (by rw [Int.toNat_natCast]; exact gv)) ?_
        walk_at "go"
        refine g_ite (fun c1 => ?_) (fun c1 => ?_)
        · walk_at "go"
          refine ⟨d, nl, rfl, S.dr, fun H2 x k2 dr2 => ?_⟩
          have S := S.draw pd Pd k2 dr2
          walk_at "go"
          refine g_ite (fun c2 => ?_) (fun c2 => ?_)
          · obtain ⟨xs0, ps0, hP, _⟩ := id S.pr
            walk_at "go"
            intro t nt
            obtain ⟨xs, a1, a2, a3⟩ := app S nt
            walk_at "go"
            exact g_app a1 a2 ⟨⟨_, rfl⟩, a3⟩
          · walk_at "go"
            refine g_iteQ (by omega) ?_
            walk_at "go"
            refine g_iteQ (by omega) ?_
            walk_at "go"
            exact ⟨⟨_, rfl⟩, skip S⟩
        · walk_at "go"
          refine g_iteQ (by omega) ?_
          walk_at "go"
          refine g_iteQ (by omega) ?_
          walk_at "go"
          exact ⟨⟨_, rfl⟩, skip S⟩
      · walk_at "go"
        refine g_iteQ (by omega) ?_
        walk_at "go"
        refine g_iteQ (by omega) ?_
        walk_at "go"
        refine g_iteQ (by omega) ?_
        walk_at "go"
        refine g_iteQ (by omega) ?_
        walk_at "go"
        refine g_iteP (by omega) ?_
        walk_at "go"
        refine g_ite (fun c1 => ?_) (fun c1 => ?_)
        · obtain ⟨xs0, ps0, hP, _⟩ := id S.pr
          walk_at "go"
          intro t nt
          obtain ⟨xs, a1, a2, a3⟩ := app S nt
          walk_at "go"
          exact g_app a1 a2 ⟨⟨_, rfl⟩, a3⟩
        · walk_at "go"
          refine g_ite (fun c2 => ?_) (fun c2 => ?_)
          · walk_at "go"
            refine g_ite (fun c3 => ?_) (fun c3 => ?_)
            · obtain ⟨xs0, ps0, hP, _⟩ := id S.pr
              walk_at "go"
              intro t nt
              obtain ⟨xs, a1, a2, a3⟩ := app S nt
              walk_at "go"
              exact g_app a1 a2 ⟨⟨_, rfl⟩, a3⟩
            · walk_at "go"
              refine g_iteQ (by omega) ?_
              walk_at "go"
              exact ⟨⟨_, rfl⟩, skip S⟩
          · walk_at "go"
            refine g_iteQ (by omega) ?_
            walk_at "go"
            exact ⟨⟨_, rfl⟩, skip S⟩
      · walk_at "go"
        refine g_iteQ (by omega) ?_
        walk_at "go"
        refine g_iteQ (by omega) ?_
        walk_at "go"
        refine g_iteQ (by omega) ?_
        walk_at "go"
        refine g_iteQ (by omega) ?_
        walk_at "go"
        refine g_iteQ (by omega) ?_
        walk_at "go"
        refine g_iteP (by omega) ?_
        walk_at "go"
        refine ⟨d, nl, rfl, S.dr, fun H2 x k2 dr2 => ?_⟩
        have S := S.draw pd Pd k2 dr2
        walk_at "go"
        refine g_ite (fun c1 => ?_) (fun c1 => ?_)
        · obtain ⟨xs0, ps0, hP, _⟩ := id S.pr
          walk_at "go"
          intro t nt
          obtain ⟨xs, a1, a2, a3⟩ := app S nt
          walk_at "go"
          exact g_app a1 a2 ⟨⟨_, rfl⟩, a3⟩
        · walk_at "go"
          exact ⟨⟨_, rfl⟩, skip S⟩
    · rintro σ' H' ⟨⟨w, rfl⟩, S⟩
      exact ⟨⟨_, _, rfl⟩, S.up (.inl (by omega)) (by rw [Int.toNat_natCast]; omega)⟩
  · rintro σ' H' ⟨⟨u, w, rfl⟩, S⟩
    rw [Int.toNat_natCast] at S
    obtain ⟨xs, ps, h1, h2, h3, h4⟩ := S.pr
    walk_at "go"
    exact k H' P xs ps S.kd S.dr nP0 h1 h2 h3.1 (fun q hq => by have := h3.2 q hq; omega) (by omega)

/-! ### pairs through a permutation -/
def ordP (ord : List Int) (p : Int × Int) : Int × Int := (min (ord.getD p.1.toNat 0) (ord.getD p.2.toNat 0), max (ord.getD p.1.toNat 0) (ord.getD p.2.toNat 0))
theorem rngI_nd (n : Nat) : (rngI n).Nodup := rise_nd (range_rise n)
theorem plt_of {x y : Int × Int} (h : ¬ plt y x) (ne : x ≠ y) : plt x y := by
  obtain ⟨a, b⟩ := x
  obtain ⟨c, d⟩ := y
  unfold plt at *
  have : ¬ (a = c ∧ b = d) := fun z => ne (by rw [z.1, z.2])
  simp at h ⊢
  omega
theorem sorted_good {n : Nat} {es qs : List (Int × Int)} (pm : es.Perm qs) (nd : qs.Nodup) (rg : ∀ q ∈ qs, 0 ≤ q.1 ∧ q.1 < q.2 ∧ q.2 < n) (sr : es.Pairwise fun x y => ¬ plt y x) : GoodE n es := by
  refine ⟨fun p hp => rg p (pm.mem_iff.mp hp), ?_⟩
  have nde : es.Nodup := pm.nodup_iff.mpr nd
  exact (List.Pairwise.and sr nde).imp fun h => plt_of h.1 h.2
theorem ord_get {n : Nat} {ord : List Int} (pm : ord.Perm (rngI n)) {i : Int} (h0 : 0 ≤ i) (h1 : i < n) : ∃ h : i.toNat < ord.length, ord.getD i.toNat 0 = ord[i.toNat] ∧ 0 ≤ ord[i.toNat] ∧ ord[i.toNat] < n := by
  have l := pm.length_eq
  rw [rngI_len] at l
  have h : i.toNat < ord.length := by omega
  have m := mem_rngI.mp (pm.mem_iff.mp (List.getElem_mem h))
  refine ⟨h, ?_, m.1, m.2⟩
  rw [List.getD_eq_getElem?_getD, List.getElem?_eq_getElem h]
  rfl
theorem ord_inj {n : Nat} {ord : List Int} (pm : ord.Perm (rngI n)) {i j : Int} (h0 : 0 ≤ i) (h1 : i < n) (g0 : 0 ≤ j) (g1 : j < n) (e : ord.getD i.toNat 0 = ord.getD j.toNat 0) : i = j := by
  obtain ⟨a, ea, _⟩ := ord_get pm h0 h1
  obtain ⟨b, eb, _⟩ := ord_get pm g0 g1
  rw [ea, eb] at e
  have := (List.getElem_inj (pm.nodup_iff.mpr (rngI_nd n))).mp e
  omega
theorem ordP_ok {n : Nat} {ord : List Int} (pm : ord.Perm (rngI n)) {ps : List (Int × Int)} (nd : ps.Nodup) (rg : ∀ q ∈ ps, 0 ≤ q.1 ∧ q.1 < q.2 ∧ q.2 < n) : (ps.map (ordP ord)).Nodup ∧ ∀ q ∈ ps.map (ordP ord), 0 ≤ q.1 ∧ q.1 < q.2 ∧ q.2 < n := by
  constructor
  · refine List.pairwise_map.mpr (List.Pairwise.imp_of_mem (fun {a b} ha hb ne e => ?_) nd)
    have ra := rg a ha
    have rb := rg b hb
    unfold ordP at e
    have e1 := congrArg Prod.fst e
    have e2 := congrArg Prod.snd e
    simp only at e1 e2
    have i1 := fun z => ord_inj pm (i := a.1) (j := b.1) (by omega) (by omega) (by omega) (by omega) z
    have i2 := fun z => ord_inj pm (i := a.2) (j := b.2) (by omega) (by omega) (by omega) (by omega) z
    have i3 := fun z => ord_inj pm (i := a.1) (j := b.2) (by omega) (by omega) (by omega) (by omega) z
    have i4 := fun z => ord_inj pm (i := a.2) (j := b.1) (by omega) (by omega) (by omega) (by omega) z
    generalize ord.getD a.1.toNat 0 = x1 at *
    generalize ord.getD a.2.toNat 0 = x2 at *
    generalize ord.getD b.1.toNat 0 = y1 at *
    generalize ord.getD b.2.toNat 0 = y2 at *
    have key : (x1 = y1 ∧ x2 = y2) ∨ (x1 = y2 ∧ x2 = y1) := by omega
    rcases key with ⟨k1, k2⟩ | ⟨k1, k2⟩
    · exact ne (Prod.ext (i1 k1) (i2 k2))
    · have := i3 k1
      have := i4 k2
      omega
  · intro q hq
    obtain ⟨p, hp, rfl⟩ := List.mem_map.mp hq
    have r := rg p hp
    obtain ⟨_, e1, a0, a1⟩ := ord_get pm (i := p.1) (by omega) (by omega)
    obtain ⟨_, e2, b0, b1⟩ := ord_get pm (i := p.2) (by omega) (by omega)
    have ne : ord.getD p.1.toNat 0 ≠ ord.getD p.2.toNat 0 := fun z => by
      have := ord_inj pm (i := p.1) (j := p.2) (by omega) (by omega) (by omega) (by omega) z
      omega
    unfold ordP
    rw [e1, e2] at *
    simp only
    omega

/-! ### law_edges -/
abbrev OffD (d : Addr) : Av := fun b => b = d
theorem pairs_off {H : Hp} {M : Av} {xs ys : List V} {ps qs : List (Int × Int)} (a : Paired (rPair M H) xs ps) (b : Paired (rPair No H) ys qs) (s : ∀ y ∈ ys, y ∈ xs) : Paired (rPair M H) ys qs := by
  have key : ∀ {xs : List V} {ps : List (Int × Int)}, Paired (rPair M H) xs ps → ∀ x ∈ xs, ∀ t, x = .ref t → ¬ M t := by
    intro xs ps a
    induction a with
    | nil => simp
    | cons r t ih =>
      intro x hx t' e
      rcases List.mem_cons.mp hx with h | h
      · obtain ⟨c, e2, nc, _⟩ := r
        rw [e, e2] at h
        cases h
        exact nc
      · exact ih x h t' e
  have k := key a
  clear key a
  induction b with
  | nil => exact .nil
  | cons r t ih =>
    obtain ⟨c, e, _, hc⟩ := r
    exact .cons ⟨c, e, k _ (s _ List.mem_cons_self) c e, hc⟩ (ih fun y hy => s y (List.mem_cons_of_mem _ hy))
def sp_law_edges (K : PySem.W.Frag) : Sp := fun vs H Q _ => ∃ (d nl : Addr) (n : Nat), vs = [.ref d, .int n] ∧ Drw H d nl ∧ n ≤ 40 ∧ ∀ H' p xs (Es : List (Int × Int)), KeepD d H H' → Drw H' d nl → H p = none → H' p = some (.lst xs) → Paired (rPair (OffD d) H') xs Es → GoodE n Es → Q (.ref p) H'
theorem sp_law_edges.len {K : PySem.W.Frag} {vs : List V} {H : Hp} {Q : VK} {E : XK} (h : sp_law_edges K vs H Q E) : vs.length = (["_law_draws", "_law_n"] : List Str).length := by
  obtain ⟨d, nl, n, rfl, _⟩ := h
  rfl
abbrev N_law_edges : List Str := ["_law_draws", "_law_n", "_law_order_here", "_law_pairs_here", "_law_u", "_law_v"]
theorem sc_law_edges : FnScope N_law_edges ["_law_draws", "_law_n"] (defScope s_law_edges) := ⟨rfl, rfl, rfl, by decide +kernel, rfl, by decide +kernel, by decide +kernel⟩
theorem ok_law_edges {P : Program} {w : World} {K : PySem.W.Frag} {mg : Str → Option Value} {base : Heap} (W : Hd K mg) : OkD P w K mg base 4 "_law_edges" ["_law_draws", "_law_n"] (sp_law_edges K) := by
  obtain ⟨fd, F⟩ := W.df_law_edges
  refine okD_mk F W.mg_law_edges (fun _ _ _ _ _ _ us hl => match us, hl with | [_, _], _ => rfl) ?_
  refine F.ok sc_law_edges (fun vs H Q E h => sp_law_edges.len h) (fun cdv A outer s H vs Q E hr h => ⟨_, PSs.nox ((pss_cons (ps_set (i := 2) sc_law_edges.nd rfl (by first | exact .inl rfl | exact .inr rfl) (pe_callD (ok_law_order W) (hr.mono (by decide)) (pa_cons (pv 0) (pa_cons (pv 1) pa_nil))))
  (pss_cons (ps_setLc (i := 3) (own := [("_law_u", 4), ("_law_v", 5)]) (g := _) rfl sc_law_edges.nd rfl rfl (sw_true rfl rfl rfl (by decide +kernel)) (pi_list (pe_callD (ok_law_pairs W) (hr.mono (by decide)) (pa_cons (pv 0) (pa_cons (pv 1) pa_nil)))) (blkOk_by (N := N_law_edges) (sc := defScope s_law_edges) (by decide +kernel)) (fun _ _ _ _ _ => (pg_tupK K (n := 2) rfl (pgs_cons (pg_name (i := 4) sc_law_edges.nd rfl (Or.inl rfl)) (pgs_cons (pg_name (i := 5) sc_law_edges.nd rfl (Or.inl rfl)) pgs_nil)))) (fun _ _ _ _ _ => pts_nil) (fun _ _ _ _ _ => (pe_tup (pa_cons (pe_callB (call_min2q rfl) (by rfl) (W.fr_min) (by decide +kernel) (pa_cons (pe_ix (ix_listK K) (pv 2) (pv 4) (fun _ _ => rfl)) (pa_cons (pe_ix (ix_listK K) (pv 2) (pv 5) (fun _ _ => rfl)) pa_nil))) (pa_cons (pe_callB (call_max2q rfl) (by rfl) (W.fr_max) (by decide +kernel) (pa_cons (pe_ix (ix_listK K) (pv 2) (pv 4) (fun _ _ => rfl)) (pa_cons (pe_ix (ix_listK K) (pv 2) (pv 5) (fun _ _ => rfl)) pa_nil))) pa_nil)))))
  (pss_one (ps_ret (pe_callB (cr_sortedPK K) (by rfl) (W.fr_sorted) (by decide +kernel) (pa_cons (pv 3) pa_nil))))))), ?_⟩)
  try dsimp only [cxOf, Cx.nox, Cx.wish]
  obtain ⟨d, nl, n, rfl, dr, n40, k⟩ := h
  walk_at "go"
  refine ⟨d, nl, n, rfl, dr, by omega, fun H1 O ord k1 dr1 nO hO pm => ?_⟩
  have Od : O ≠ d := fun z => dr.is (by rw [← z]; exact nO)
  walk_at "go"
  refine ⟨d, nl, n, rfl, dr1, n40, fun H2 P xs ps k2 dr2 nP hP pr nd rg lp => ?_⟩
  have k02 := KeepD.trans k1 k2
  have hO2 := k2 _ _ Od hO
  have pr2 : Paired (rPair No H2) xs ps := L2.Paired.mapP pr fun _ _ z => rPair.frm.mv Mov.drop z
  refine lc_rep (R := rPair No H2) hP pr2 (fun D pre H' => Col rPair (OffD d) H2 D H' (pre.map (ordP ord))) (fun D nD => Col.nil nD) ?_ ?_ ?_
  · rintro D pre H' nD _ c
    exact c.same _ _ hP
  · rintro D pre x p post H' nD e ⟨t, rfl, _, ht⟩ c
    have ht' := c.same _ _ ht
    have hO' := c.same _ _ hO2
    have rp := rg p (by rw [e]; simp)
    obtain ⟨_, vs, hv, _⟩ := id c
    have ln := c.len hv
    have pl : pre.length ≤ ps.length := by rw [e]; simp
    rw [List.length_map] at ln
    obtain ⟨l1, e1, _⟩ := ord_get pm (i := p.1) (by omega) (by omega)
    obtain ⟨l2, e2, _⟩ := ord_get pm (i := p.2) (by omega) (by omega)
    have g1 : atI ord p.1 = some (ord.getD p.1.toNat 0) := atI_at (by omega) (by rw [List.getElem?_eq_getElem l1, e1])
    have g2 : atI ord p.2 = some (ord.getD p.2.toNat 0) := atI_at (by omega) (by rw [List.getElem?_eq_getElem l2, e2])
    refine g_gtup2 ht' ?_
    walk_at "go"
    refine g_ixI hO' g1 ?_
    walk_at "go"
    refine g_ixI hO' g2 ?_
    walk_at "go"
    refine g_ixI hO' g1 ?_
    walk_at "go"
    refine g_ixI hO' g2 ?_
    walk_at "go"
    intro u nu
    have c2 := c.step rPair.frm (Same.new (o := .tup [.int (min (ord.getD p.1.toNat 0) (ord.getD p.2.toNat 0)), .int (max (ord.getD p.1.toNat 0) (ord.getD p.2.toNat 0))]) (Same.refl H') nu)
    have hv2 := hp_new (o' := .tup [.int (min (ord.getD p.1.toNat 0) (ord.getD p.2.toNat 0)), .int (max (ord.getD p.1.toNat 0) (ord.getD p.2.toNat 0))]) hv nu
    have c3 := c2.app rPair.frm nD hv2 (v := .ref u) (d := ordP ord p) ⟨u, rfl, fun z => z.elim (fun z => by rw [z, hv] at nu; cases nu) fun z => (dr2.same c.same).is (by rw [← z]; exact nu), upd_same⟩
    refine ⟨vs, hv2, small_of (by omega), ?_⟩
    rw [List.map_append]
    exact c3
  · rintro D H' nD c
    have Dd : D ≠ d := fun z => dr2.is (by rw [← z]; exact nD)
    obtain ⟨zs, ⟨_, e, _, hD⟩, pz⟩ := c.done rPair.frm Dd
    cases e
    obtain ⟨nd2, rg2⟩ := ordP_ok pm nd rg
    walk_at "go"
    refine g_sortP hD (L2.Paired.mapP pz fun _ _ z => rPair.frm.mv Mov.drop z) fun ys qs q pq sr py sub nq => ?_
    have s3 : Same H2 (upd H' q (.lst ys)) := Same.new c.same nq
    have qd : q ≠ d := fun z => (dr2.same c.same).is (by rw [← z]; exact nq)
    refine k _ q ys qs (KeepD.trans k02 (KeepD.same s3)) (dr2.same s3) ?_ upd_same ?_ (sorted_good pq nd2 rg2 sr)
    · exact k02.free qd (c.same.free nq)
    · exact L2.Paired.mapP (pairs_off pz py sub) fun _ _ z => rPair.frm.mv (.new nq) z

/-! ### the law's nodes: plain -/
theorem bip_mono {Es : List (Int × Int)} {T T' : List Int} (s : ∀ x ∈ T, x ∈ T') (b : Bip (Adj (outE Es T))) : Bip (Adj (outE Es T')) := by
  obtain ⟨c, hc⟩ := b
  refine ⟨c, fun u v a => hc u v ?_⟩
  obtain ⟨h1, h2, h3⟩ := outE_adj.mp a
  exact outE_adj.mpr ⟨h1, fun z => h2 (s u z), fun z => h3 (s v z)⟩
theorem bip_full {n : Nat} {Es : List (Int × Int)} (good : GoodE n Es) {T : List Int} (s : ∀ x : Int, 0 ≤ x → x < n → x ∈ T) : Bip (Adj (outE Es T)) :=
  ⟨fun _ => true, fun u v a => absurd (s u (good.at (outE_adj.mp a).1).1 (good.at (outE_adj.mp a).1).2) (outE_adj.mp a).2.1⟩
/-- nodes, behind those of pre: pre the order's head -/
structure Nds (n : Nat) (Es : List (Int × Int)) (pre ns : List Int) : Prop where
  rise : Rising n ns
  sub : ∀ x ∈ ns, x ∈ pre
  ok : Bip (Adj (outE Es ns)) ∨ ∀ x ∈ pre, x ∈ ns
theorem Nds.nil {n : Nat} {Es : List (Int × Int)} : Nds n Es [] [] := ⟨⟨List.Pairwise.nil, by simp⟩, by simp, .inr (by simp)⟩
theorem Nds.add {n : Nat} {Es : List (Int × Int)} {pre ns : List Int} {v : Int} (N : Nds n Es pre ns) (nv : v ∉ pre) (r : 0 ≤ v ∧ v < n) : Nds n Es (pre ++ [v]) (isort (ns ++ [v])) := by
  have m : ∀ x, x ∈ isort (ns ++ [v]) ↔ x ∈ ns ∨ x = v := fun x => by rw [mem_isort, List.mem_append, List.mem_singleton]
  refine ⟨⟨srt_rise (isort_srt _) ((isort_perm _).nodup_iff.mpr (nd_snoc (rise_nd N.rise.1) fun z => nv (N.sub v z))), fun x hx => ?_⟩, fun x hx => ?_, ?_⟩
  · rcases (m x).mp hx with h | h
    · exact N.rise.2 x h
    · rw [h]
      exact r
  · rcases (m x).mp hx with h | h
    · exact List.mem_append_left _ (N.sub x h)
    · rw [h]
      simp
  · rcases N.ok with h | h
    · exact .inl (bip_mono (fun x hx => (m x).mpr (.inl hx)) h)
    · refine .inr fun x hx => (m x).mpr ?_
      rcases List.mem_append.mp hx with hx | hx
      · exact .inl (h x hx)
      · exact .inr (List.mem_singleton.mp hx)
theorem Nds.keep {n : Nat} {Es : List (Int × Int)} {pre ns : List Int} {v : Int} (N : Nds n Es pre ns) (b : Bip (Adj (outE Es ns))) : Nds n Es (pre ++ [v]) ns := ⟨N.rise, fun x hx => List.mem_append_left _ (N.sub x hx), .inl b⟩
theorem Nds.fin {n : Nat} {Es : List (Int × Int)} (good : GoodE n Es) {ord ns : List Int} (N : Nds n Es ord ns) (pm : ord.Perm (rngI n)) : Bip (Adj (outE Es ns)) := by
  rcases N.ok with h | h
  · exact h
  · exact bip_full good fun x h0 h1 => h x (pm.mem_iff.mpr (mem_rngI.mpr ⟨h0, h1⟩))
/-- lists that are no node list -/
theorem not_rise_rev {n : Int} {ns : List Int} (r : Rising n ns) (l : 1 < ns.length) : ¬ Rising n ns.reverse := by
  intro z
  match ns, l with
  | a :: b :: t, _ =>
    have h1 := (List.pairwise_cons.mp r.1).1 b (by simp)
    have h2 := z.1
    rw [List.reverse_cons, List.reverse_cons, List.append_assoc] at h2
    have := (List.pairwise_append.mp h2).2.1
    simp at this
    omega
theorem not_rise_top {n : Int} {ns : List Int} : ¬ Rising n (ns ++ [n]) := fun z => by
  have := z.2 n (by simp)
  omega
theorem not_rise_low {n : Int} {ns : List Int} : ¬ Rising n (-1 :: ns) := fun z => by
  have := z.2 (-1) (by simp)
  omega

/-! ### the rings' graph: plain -/
def ndI (ord : List Int) (i : Int) : Int := ord.getD i.toNat 0
section
variable {n : Nat} {ord ls is : List Int} {Es : List (Int × Int)}
theorem rings_good (pm : ord.Perm (rngI n)) (rl : RgL ls) (le : ls.sum ≤ n) (pe : Es.Perm ((rgs 0 ls).map (ordP ord))) (sr : Es.Pairwise fun x y => ¬ plt y x) : GoodE n Es := by
  obtain ⟨nd, rg⟩ := ordP_ok pm (rgs_nd (a := 0) rl) (fun q hq => by have := rgs_at rl hq; omega)
  exact sorted_good pe nd rg sr
theorem ring_adj (pe : Es.Perm ((rgs 0 ls).map (ordP ord))) {u v : Int} (h : Adj Es u v) : ∃ p ∈ rgs 0 ls, (u = ndI ord p.1 ∧ v = ndI ord p.2) ∨ (u = ndI ord p.2 ∧ v = ndI ord p.1) := by
  have key : ∀ {x y : Int}, (x, y) ∈ Es → ∃ p ∈ rgs 0 ls, (x = ndI ord p.1 ∧ y = ndI ord p.2) ∨ (x = ndI ord p.2 ∧ y = ndI ord p.1) := fun {x y} m => by
    obtain ⟨p, hp, e⟩ := List.mem_map.mp (pe.mem_iff.mp m)
    have e1 := congrArg Prod.fst e
    have e2 := congrArg Prod.snd e
    unfold ordP at e1 e2
    simp only at e1 e2
    refine ⟨p, hp, ?_⟩
    unfold ndI
    omega
  rcases h with h | h
  · exact key h
  · obtain ⟨p, hp, e⟩ := key h
    exact ⟨p, hp, e.elim (fun z => .inr ⟨z.2, z.1⟩) fun z => .inl ⟨z.2, z.1⟩⟩
theorem ring_adj' (pe : Es.Perm ((rgs 0 ls).map (ordP ord))) {p : Int × Int} (hp : p ∈ rgs 0 ls) : Adj Es (ndI ord p.1) (ndI ord p.2) := by
  have m : ordP ord p ∈ Es := pe.mem_iff.mpr (List.mem_map.mpr ⟨p, hp, rfl⟩)
  unfold Adj
  have e : ordP ord p = (ndI ord p.1, ndI ord p.2) ∨ ordP ord p = (ndI ord p.2, ndI ord p.1) := by
    unfold ordP ndI
    rcases Int.le_total (ord.getD p.1.toNat 0) (ord.getD p.2.toNat 0) with h | h
    · exact .inl (Prod.ext (Int.min_eq_left h) (Int.max_eq_right h))
    · exact .inr (Prod.ext (Int.min_eq_right h) (Int.max_eq_left h))
  rcases e with e | e
  · exact .inl (e ▸ m)
  · exact .inr (e ▸ m)
theorem pos_nd (pm : ord.Perm (rngI n)) {i : Int} (h0 : 0 ≤ i) (h1 : i < n) : pos ord (ndI ord i) = i := by
  obtain ⟨h, e, _⟩ := ord_get pm h0 h1
  have := pos_of_get (l := ord) (v := ndI ord i) (i := i.toNat) (pm.nodup_iff.mpr (rngI_nd n)) (by unfold ndI; rw [e]; exact List.getElem?_eq_getElem h)
  rw [this]
  omega
theorem nd_at (pm : ord.Perm (rngI n)) {i : Int} (h0 : 0 ≤ i) (h1 : i < n) : 0 ≤ ndI ord i ∧ ndI ord i < n := by
  obtain ⟨h, e, a, b⟩ := ord_get pm h0 h1
  unfold ndI
  rw [e]
  exact ⟨a, b⟩
theorem nd_nd (pm : ord.Perm (rngI n)) {U : List Int} (r : U.Pairwise (· < ·)) (b : ∀ u ∈ U, 0 ≤ u ∧ u < n) : (U.map (ndI ord)).Nodup :=
  List.pairwise_map.mpr (List.Pairwise.imp_of_mem (fun {x y} hx hy lt e => by
    have := ord_inj pm (b x hx).1 (b x hx).2 (b y hy).1 (b y hy).2 e
    omega) r)
theorem rings_bip (pm : ord.Perm (rngI n)) (rl : RgL ls) (le : ls.sum ≤ n) (pe : Es.Perm ((rgs 0 ls).map (ordP ord))) (pk : Picks 0 ls is) {S : List Int} (hs : ∀ i ∈ is, ndI ord i ∈ S) : Bip (Adj (outE Es S)) := by
  obtain ⟨c, hc⟩ := rings_two rl pk
  refine ⟨fun v => c (pos ord v), fun u v a => ?_⟩
  obtain ⟨a1, a2, a3⟩ := outE_adj.mp a
  obtain ⟨p, hp, e⟩ := ring_adj pe a1
  have q := rgs_at rl hp
  have p1 := pos_nd pm (i := p.1) (by omega) (by omega)
  have p2 := pos_nd pm (i := p.2) (by omega) (by omega)
  rcases e with ⟨rfl, rfl⟩ | ⟨rfl, rfl⟩
  · simp only [p1, p2]
    exact hc p hp (fun z => a2 (hs _ z)) fun z => a3 (hs _ z)
  · simp only [p1, p2]
    exact fun z => hc p hp (fun z => a3 (hs _ z)) (fun z => a2 (hs _ z)) z.symm
theorem picks_rise (pm : ord.Perm (rngI n)) (rl : RgL ls) (le : ls.sum ≤ n) (pk : Picks 0 ls is) : Rising n (isort (is.map (ndI ord))) := by
  obtain ⟨p1, p2, p3⟩ := Picks.at rl pk
  refine ⟨srt_rise (isort_srt _) ((isort_perm _).nodup_iff.mpr (nd_nd pm p1 fun u hu => by have := p2 u hu; omega)), fun x hx => ?_⟩
  obtain ⟨i, hi, rfl⟩ := List.mem_map.mp (mem_isort.mp hx)
  have := p2 i hi
  exact nd_at pm (by omega) (by omega)
theorem rings_least (pm : ord.Perm (rngI n)) (rl : RgL ls) (le : ls.sum ≤ n) (pe : Es.Perm ((rgs 0 ls).map (ordP ord))) (pk : Picks 0 ls is) : LeastOdd n Es ls.length := by
  refine ⟨fun T rT bT => ?_, isort (is.map (ndI ord)), picks_rise pm rl le pk, rings_bip pm rl le pe pk fun i hi => mem_isort.mpr (List.mem_map.mpr ⟨i, hi, rfl⟩), ?_⟩
  · obtain ⟨c, hc⟩ := bT
    obtain ⟨U, u1, u2, u3⟩ := rings_hit (c := fun i => c (ndI ord i)) (T := fun i => ndI ord i ∈ T) (ls := ls) (a := 0) rl fun p hp n1 n2 => hc _ _ (outE_adj.mpr ⟨ring_adj' pe hp, n1, n2⟩)
    have := nd_le_of (U := U.map (ndI ord)) (T := T) (nd_nd pm u1 fun u hu => by have := u2 u hu; omega) fun x hx => by
      obtain ⟨i, hi, rfl⟩ := List.mem_map.mp hx
      exact (u2 i hi).2.2
    rw [List.length_map] at this
    omega
  · rw [(isort_perm _).length_eq, List.length_map]
    exact (Picks.at rl pk).2.2
/-- the picks and one node more -/
def addI (ns : List Int) (y : Int) : List Int := if y ∈ ns then isort ns else isort (ns ++ [y])
theorem mem_addI {ns : List Int} {x y : Int} : x ∈ addI ns y ↔ x ∈ ns ++ [y] := by
  unfold addI
  split
  · rename_i h
    rw [mem_isort, List.mem_append, List.mem_singleton]
    exact ⟨.inl, fun z => z.elim id fun z => by rw [z]; exact h⟩
  · rw [mem_isort]
theorem addI_rise {ns : List Int} {y : Int} (h : ns.Nodup) : (addI ns y).Pairwise (· < ·) := by
  unfold addI
  split
  · exact srt_rise (isort_srt _) ((isort_perm _).nodup_iff.mpr h)
  · rename_i z
    refine srt_rise (isort_srt _) ((isort_perm _).nodup_iff.mpr ?_)
    rw [List.nodup_append]
    refine ⟨h, by simp, fun a ha b hb e => ?_⟩
    rw [List.mem_singleton.mp hb] at e
    exact z (e ▸ ha)
theorem isort_of_rise {l : List Int} (r : l.Pairwise (· < ·)) : isort l = l := srt_eq (isort_perm l) (isort_srt l) (rise_srt r)
end

/-! ### law_rings -/
theorem good_uniq {n : Nat} {E F : List (Int × Int)} (g : GoodE n E) (h : GoodE n F) (p : E.Perm F) : E = F :=
  List.Perm.eq_of_pairwise (fun a b _ _ x y => absurd (plt_trans x y) (plt_irr a)) g.2 h.2 p
/-- the nodes of a ring -/
def ringL (ord : List Int) (a L : Int) : List Int := (List.range L.toNat).map fun (k : Nat) => ndI ord (a + k)
theorem ringL_len (ord : List Int) (a L : Int) : (ringL ord a L).length = L.toNat := by simp [ringL]
theorem ringL_get {ord : List Int} {a L : Int} {k : Nat} (h : (k : Int) < L) : (ringL ord a L)[k]? = some (ndI ord (a + k)) := by
  unfold ringL
  rw [List.getElem?_map, List.getElem?_range (by omega)]
  rfl
theorem ringL_at {ord : List Int} {a L i : Int} (h0 : 0 ≤ i) (h : i < L) : atI (ringL ord a L) i = some (ndI ord (a + i)) := by
  refine atI_at h0 ?_
  rw [ringL_get (by omega)]
  have : ((i.toNat : Nat) : Int) = i := by omega
  rw [this]
theorem ringL_end {ord : List Int} {a L : Int} (h : 0 < L) : atI (ringL ord a L) (-1) = some (ndI ord (a + L - 1)) := by
  unfold atI ixN
  rw [if_neg (by decide), ringL_len, if_pos (by omega)]
  show (ringL ord a L)[(-1 + ((L.toNat : Nat) : Int)).toNat]? = _
  rw [ringL_get (by omega)]
  have : a + (((-1 + ((L.toNat : Nat) : Int)).toNat : Nat) : Int) = a + L - 1 := by omega
  rw [this]
theorem ringL_cut {ord : List Int} {a L : Int} (h0 : 0 ≤ a) (h1 : 0 ≤ L) (h2 : a + L ≤ ord.length) : cutV (ord.map V.int) (some a) (some (a + L)) = (ringL ord a L).map V.int := by
  obtain ⟨A, rfl⟩ : ∃ A : Nat, a = A := ⟨a.toNat, by omega⟩
  obtain ⟨B, rfl⟩ : ∃ B : Nat, L = B := ⟨L.toNat, by omega⟩
  have e : ((A : Nat) : Int) + ((B : Nat) : Int) = ((A + B : Nat) : Int) := by omega
  rw [e]
  unfold cutV
  rw [HT.sIx_nat, HT.sIx_nat, List.length_map, Nat.min_eq_left (by omega), Nat.min_eq_left (by omega), show A + B - A = B by omega]
  apply List.ext_getElem?
  intro i
  by_cases hi : i < B
  · have l : A + i < ord.length := by omega
    rw [List.getElem?_take_of_lt hi, List.getElem?_drop, List.getElem?_map, List.getElem?_map, ringL_get (by omega), List.getElem?_eq_getElem l]
    unfold ndI
    have e3 : (((A : Nat) : Int) + ((i : Nat) : Int)).toNat = A + i := by omega
    rw [e3, List.getD_eq_getElem?_getD, List.getElem?_eq_getElem l]
    rfl
  · rw [List.getElem?_eq_none (by rw [List.length_take]; omega), List.getElem?_eq_none (by rw [List.length_map, ringL_len]; omega)]
/-- the two readings of a pair of a ring -/
theorem ring_pair {ord : List Int} {a L : Int} (hL : L = 3 ∨ L = 5) {i : Nat} (hi : (i : Int) < L) : ∃ x y, atI (ringL ord a L) ((i : Nat) : Int) = some x ∧ atI (ringL ord a L) (((i : Nat) : Int) - 1) = some y ∧ ordP ord (rgA a L i) = (min x y, max x y) := by
  by_cases z : i = 0
  · subst z
    exact ⟨_, _, ringL_at (by omega) hi, ringL_end (by omega), by
      have e : a + ((0 : Nat) : Int) = a := by simp
      unfold rgA ordP ndI
      rw [if_pos rfl, e]⟩
  · refine ⟨_, _, ringL_at (by omega) hi, ringL_at (by omega) (by omega), ?_⟩
    have e : a + (((i : Nat) : Int) - 1) = a + i - 1 := by omega
    unfold rgA ordP ndI
    rw [if_neg z, e]
    simp only
    rw [Int.min_comm, Int.max_comm]
theorem g_ifK {I nx bk ct : L2.St → Hp → Prop} {rt : VK} {c : TT} {t u : TS} {σ : L2.St} {H : Hp} (h2 : ∀ σ' H', I σ' H' → nx σ' H') (h1 : ∀ nx' : L2.St → Hp → Prop, (∀ σ' H', I σ' H' → nx' σ' H') → tIfS c t u ⟨nx', rt, bk, ct⟩ σ H) : tIfS c t u ⟨nx, rt, bk, ct⟩ σ H := h1 nx h2
theorem pairs_keep {d Nn : Addr} {H H' : Hp} {xs : List V} {ps : List (Int × Int)} (k : KeepD d H H') (p : Paired (rPair (fun b => b = d ∨ b = Nn) H) xs ps) : Paired (rPair (fun b => b = d ∨ b = Nn) H') xs ps :=
  L2.Paired.mapP p fun _ _ z => rPair.frm.mv (fun b o m e => ⟨k b o (fun z => m (.inl z)) e, m⟩) z
def sp_law_rings (K : PySem.W.Frag) : Sp := fun vs H Q _ => ∃ d nl : Addr, vs = [.ref d] ∧ Drw H d nl ∧ ∀ H', KeepD d H H' → Drw H' d nl → Q (.bl true) H'
theorem sp_law_rings.len {K : PySem.W.Frag} {vs : List V} {H : Hp} {Q : VK} {E : XK} (h : sp_law_rings K vs H Q E) : vs.length = (["_law_draws"] : List Str).length := by
  obtain ⟨d, nl, rfl, _⟩ := h
  rfl
abbrev N_law_rings : List Str := ["_law_draws", "_law_rings_here", "_law_n", "_law_order_here", "_law_pairs_here", "_law_nodes", "_law_at", "_law_long", "_law_ring", "_law_graph", "_law_k"]
theorem sc_law_rings : FnScope N_law_rings ["_law_draws"] (defScope s_law_rings) := ⟨rfl, rfl, rfl, by decide +kernel, rfl, by decide +kernel, by decide +kernel⟩
theorem ok_law_rings {P : Program} {w : World} {K : PySem.W.Frag} {mg : Str → Option Value} {base : Heap} (W : Hd K mg) : OkD P w K mg base 16 "_law_rings" ["_law_draws"] (sp_law_rings K) := by
  obtain ⟨fd, F⟩ := W.df_law_rings
  refine okD_mk F W.mg_law_rings (fun _ _ _ _ _ _ us hl => match us, hl with | [_], _ => rfl) ?_
  refine F.ok sc_law_rings (fun vs H Q E h => sp_law_rings.len h) (fun cdv A outer s H vs Q E hr h => ⟨_, PSs.nox ((pss_cons (ps_setLc (i := 1) (own := [("_law_k", 10)]) (g := gName 10) rfl sc_law_rings.nd rfl rfl (sw_true rfl rfl rfl (by decide +kernel)) (pi_range1 (by rfl) (W.fr_range) (pa_cons (pe_op op_add pe_int (pe_op op_mod (pe_callD (ok_law_draw W) (hr.mono (by decide)) (pa_cons (pv 0) pa_nil)) pe_int)) pa_nil)) (blkOk_by (N := N_law_rings) (sc := defScope s_law_rings) (by decide +kernel)) (fun _ _ _ _ _ => pg_name (i := 10) sc_law_rings.nd rfl (Or.inl rfl)) (fun _ _ _ _ _ => pts_nil) (fun _ _ _ _ _ => (pe_op op_add pe_int (pe_op op_mul pe_int (pe_op op_fdiv (pe_op op_mod (pe_callD (ok_law_draw W) (hr.mono (by decide)) (pa_cons (pv 0) pa_nil)) pe_int) pe_int)))))
  (pss_cons (ps_set (i := 2) sc_law_rings.nd rfl (by first | exact .inl rfl | exact .inr rfl) (pe_op op_add (pe_callB (cr_sum rfl) (by rfl) (W.fr_sum) (by decide +kernel) (pa_cons (pv 1) pa_nil)) (pe_op op_mod (pe_callD (ok_law_draw W) (hr.mono (by decide)) (pa_cons (pv 0) pa_nil)) pe_int)))
  (pss_cons (ps_set (i := 3) sc_law_rings.nd rfl (by first | exact .inl rfl | exact .inr rfl) (pe_callD (ok_law_order W) (hr.mono (by decide)) (pa_cons (pv 0) (pa_cons (pv 2) pa_nil))))
  (pss_cons (ps_set (i := 4) sc_law_rings.nd rfl (by first | exact .inl rfl | exact .inr rfl) (pe_lst pa_nil))
  (pss_cons (ps_set (i := 5) sc_law_rings.nd rfl (by first | exact .inl rfl | exact .inr rfl) (pe_lst pa_nil))
  (pss_cons (ps_set (i := 6) sc_law_rings.nd rfl (by first | exact .inl rfl | exact .inr rfl) pe_int)
  (pss_cons (ps_for PassesOwn.never rfl (pi_list (pv 1)) (pg_name (i := 7) sc_law_rings.nd rfl (by first | exact .inl rfl | exact .inr rfl))
  (pss_cons (ps_set (i := 8) sc_law_rings.nd rfl (by first | exact .inl rfl | exact .inr rfl) (pe_slice (sl_listK K) (pv 3) (po_some (pv 6)) (po_some (pe_op op_add (pv 6) (pv 7)))))
  (pss_cons (ps_set (i := 4) sc_law_rings.nd rfl (by first | exact .inl rfl | exact .inr rfl) (pe_op op_cat (pv 4) (pe_lc (own := [("_law_k", 10)]) (g := gName 10) (tt := _) rfl sc_law_rings.nd (pi_range1 (by rfl) (W.fr_range) (pa_cons (pv 7) pa_nil)) (blkOk_by (N := N_law_rings) (sc := defScope s_law_rings) (by decide +kernel)) (fun _ _ _ _ _ => pg_name (i := 10) sc_law_rings.nd rfl (Or.inl rfl)) (fun _ _ _ _ _ => pts_nil) (fun _ _ _ _ _ => (pe_tup (pa_cons (pe_callB (call_min2q rfl) (by rfl) (W.fr_min) (by decide +kernel) (pa_cons (pe_ix (ix_listK K) (pv 8) (pv 10) (fun _ _ => rfl)) (pa_cons (pe_ix (ix_listK K) (pv 8) (pe_op op_sub (pv 10) pe_int) (fun _ _ => rfl)) pa_nil))) (pa_cons (pe_callB (call_max2q rfl) (by rfl) (W.fr_max) (by decide +kernel) (pa_cons (pe_ix (ix_listK K) (pv 8) (pv 10) (fun _ _ => rfl)) (pa_cons (pe_ix (ix_listK K) (pv 8) (pe_op op_sub (pv 10) pe_int) (fun _ _ => rfl)) pa_nil))) pa_nil)))))))
  (pss_cons (ps_expr (pe_bmK K PySem.F.plainAttrs_list PySem.F.slot_list_append PySem.F.type_list_append mt_append (pv 5) (pa_cons (pe_ix (ix_listK K) (pv 8) (pe_op op_mod (pe_callD (ok_law_draw W) (hr.mono (by decide)) (pa_cons (pv 0) pa_nil)) (pv 7)) (fun _ _ => rfl)) pa_nil)))
  (pss_one (ps_set (i := 6) sc_law_rings.nd rfl (by first | exact .inl rfl | exact .inr rfl) (pe_op op_add (pv 6) (pv 7))))))))
  (pss_cons (ps_if (pt_cmpR op_eq (pe_op op_mod (pe_callD (ok_law_draw W) (hr.mono (by decide)) (pa_cons (pv 0) pa_nil)) pe_int) pe_int (nomark _))
  (pss_one (ps_set (i := 5) sc_law_rings.nd rfl (by first | exact .inl rfl | exact .inr rfl) (pe_callB (cr_sortedSet rfl) (by rfl) (W.fr_sorted) (by decide +kernel) (pa_cons (pe_callTy (cr_setL rfl) (by rfl) (W.fr_set) (by decide +kernel) (pa_cons (pe_op op_cat (pv 5) (pe_lst (pa_cons (pe_op op_mod (pe_callD (ok_law_draw W) (hr.mono (by decide)) (pa_cons (pv 0) pa_nil)) (pv 2)) pa_nil))) pa_nil)) pa_nil))))
  pss_nil)
  (pss_cons (ps_set (i := 9) sc_law_rings.nd rfl (by first | exact .inl rfl | exact .inr rfl) (pe_makeG W (ok_Graph_init W) (hr.mono (by decide)) (pa_cons (pv 2) (pa_cons (pe_callB (cr_sortedPK K) (by rfl) (W.fr_sorted) (by decide +kernel) (pa_cons (pv 4) pa_nil)) pa_nil))))
  (pss_cons (ps_if (pt_not (pt_val (pe_callD (ok_law_asked W) (hr.mono (by decide)) (pa_cons (pv 9) (pa_cons (pe_callD (ok_law_near W) (hr.mono (by decide)) (pa_cons (pv 2) (pa_cons (pe_callB (cr_sortedPK K) (by rfl) (W.fr_sorted) (by decide +kernel) (pa_cons (pv 4) pa_nil)) pa_nil))) (pa_cons (pe_callB (cr_sortedK K) (by rfl) (W.fr_sorted) (by decide +kernel) (pa_cons (pv 5) pa_nil)) (pa_cons (pe_callB (call_lenK K) (by rfl) (W.fr_len) PySem.boot_len (pa_cons (pv 1) pa_nil)) (pa_cons pe_int pa_nil))))))))
  (pss_one (ps_ret pe_bl))
  pss_nil)
  (pss_one (ps_ret (pe_callD (ok_law_same W) (hr.mono (by decide)) (pa_cons (pv 9) (pa_cons (pv 2) (pa_cons (pe_callB (cr_sortedPK K) (by rfl) (W.fr_sorted) (by decide +kernel) (pa_cons (pv 4) pa_nil)) pa_nil))))))))))))))))), ?_⟩)
  try dsimp only [cxOf, Cx.nox, Cx.wish]
  obtain ⟨d, nl, rfl, dr, k⟩ := h
  walk_at "go"
  refine ⟨d, nl, rfl, dr, fun H1 x1 k1 dr1 => ?_⟩
  have q0 := Int.emod_nonneg x1 (b := 4) (by decide)
  have q1 := Int.emod_lt_of_pos x1 (b := 4) (by decide)
  walk_at "go"
  generalize x1 % 4 = q at q0 q1 ⊢
  refine lc_rng1 (n := 1 + q) (by omega) (by omega) (fun D i H' => KeepD d H H' ∧ Drw H' d nl ∧ ∃ ls : List Int, H' D = some (.lst (ls.map V.int)) ∧ ls.length = i ∧ RgL ls) ?_ ?_ ?_
  · exact fun D nD => ⟨KeepD.new k1 nD dr1.is, dr1.same (Same.new (Same.refl _) nD), [], upd_same, rfl, by simp [RgL]⟩
  · rintro D i H' nD hi ⟨kd, drd, ls, hD, ll, rl⟩
    have Dd : D ≠ d := fun z => dr1.is (by rw [← z]; exact nD)
    have nD0 : H D = none := k1.free Dd nD
    walk_at "go"
    refine ⟨d, nl, rfl, drd, fun H3 x k3 dr3 => ?_⟩
    have r0 := Int.emod_nonneg x (b := 3) (by decide)
    have r1 := Int.emod_lt_of_pos x (b := 3) (by decide)
    walk_at "go"
    refine ⟨_, k3 _ _ Dd hD, small_of (by rw [List.length_map]; omega), KeepD.mut (KeepD.trans kd k3) nD0, Drw.mut dr dr3 nD0, ls ++ [3 + 2 * (x % 3 / 2)], ?_, by simp [ll], fun L hL => ?_⟩
    · rw [List.map_append]
      exact upd_same
    · rcases List.mem_append.mp hL with h | h
      · exact rl L h
      · rw [List.mem_singleton.mp h]
        omega
  rintro rla H2 nRl ⟨kd2, dr2, ls, hrl, ll, rl⟩
  have rld : rla ≠ d := fun z => dr1.is (by rw [← z]; exact nRl)
  have lsum := RgL.sum rl
  walk_at "go"
  refine ⟨rla, ls, rfl, sq_of hrl, ?_⟩
  walk_at "go"
  refine ⟨d, nl, rfl, dr2, fun H3 x2 k3 dr3 => ?_⟩
  have r0 := Int.emod_nonneg x2 (b := 3) (by decide)
  have r1 := Int.emod_lt_of_pos x2 (b := 3) (by decide)
  walk_at "go"
  obtain ⟨n, en⟩ : ∃ n : Nat, ls.sum + x2 % 3 = n := ⟨(ls.sum + x2 % 3).toNat, by omega⟩
  rw [en]
  have le : ls.sum ≤ n := by omega
  have n22 : n ≤ 22 := by omega
  refine ⟨d, nl, n, rfl, dr3, by omega, fun H4 O ord k4 dr4 nO hO pm => ?_⟩
  have k04 := KeepD.trans kd2 (KeepD.trans k3 k4)
  have Od : O ≠ d := fun z => dr3.is (by rw [← z]; exact nO)
  have hrl4 := k4 _ _ rld (k3 _ _ rld hrl)
  have ol := pm.length_eq
  rw [rngI_len] at ol
  walk_at "go"
  intro P0 nP0
  have P0d : P0 ≠ d := fun z => dr4.is (by rw [← z]; exact nP0)
  have s5 : Same H4 (upd H4 P0 (.lst [])) := Same.new (Same.refl _) nP0
  have hP0 : upd H4 P0 (.lst []) P0 = some (.lst []) := upd_same
  have dr5 := dr4.same s5
  have k05 := KeepD.trans k04 (KeepD.same s5)
  have hrl5 := s5 _ _ hrl4
  have hO5 := s5 _ _ hO
  generalize upd H4 P0 (.lst []) = H5 at s5 hP0 dr5 k05 hrl5 hO5 ⊢
  walk_at "go"
  intro Nn nN
  have Nd : Nn ≠ d := fun z => dr5.is (by rw [← z]; exact nN)
  have P0N : P0 ≠ Nn := ne_of_none hP0 nN
  have nN0 : H Nn = none := k05.free Nd nN
  have s6 : Same H5 (upd H5 Nn (.lst [])) := Same.new (Same.refl _) nN
  have hN6 : upd H5 Nn (.lst []) Nn = some (.lst []) := upd_same
  generalize upd H5 Nn (.lst []) = H6 at s6 hN6 ⊢
  walk_at "go"
  refine for_ints (ns := ls) (s6 _ _ hrl5) (fun pre σ' H' => ∃ (P : Addr) (w1 w2 w3 w4 : Option V) (xs : List V) (is : List Int), σ' = [some (.ref d), some (.ref rla), some (.int n), some (.ref O), some (.ref P), some (.ref Nn), some (.int pre.sum), w1, w2, w3, w4] ∧
      KeepD d H5 H' ∧ Drw H' d nl ∧ P ≠ d ∧ P ≠ Nn ∧ H' P = some (.lst xs) ∧ Paired (rPair (fun b => b = d ∨ b = Nn) H') xs ((rgs 0 pre).map (ordP ord)) ∧ H' Nn = some (.lst ((is.map (ndI ord)).map V.int)) ∧ Picks 0 pre is) ?_ ?_ ?_ ?_
  · exact ⟨P0, _, _, _, _, [], [], rfl, KeepD.same s6, dr5.same s6, P0d, P0N, s6 _ _ hP0, .nil, hN6, trivial⟩
  · rintro pre σ' H' _ ⟨P, w1, w2, w3, w4, xs, is, _, kd, _⟩
    exact kd _ _ rld hrl5
  · rintro pre L post σ' H7 e ⟨P, w1, w2, w3, w4, xs, is, rfl, kd, drd, Pd, PN, hP, pr, hN, pk⟩
    have rlp : RgL pre := fun x hx => rl x (by rw [e]; simp [hx])
    have hL : L = 3 ∨ L = 5 := rl L (by rw [e]; simp)
    have rpost : RgL post := fun x hx => rl x (by rw [e]; simp [hx])
    have sp1 := RgL.sum rlp
    have sp2 := RgL.sum rpost
    have se : ls.sum = pre.sum + (L + post.sum) := by rw [e, List.sum_append, List.sum_cons]
    have lp : pre.length < ls.length := by rw [e]; simp
    have hO7 := kd _ _ Od hO5
    have xl : (xs.length : Int) = pre.sum := by
      have a := Paired.len pr
      have b := rgs_len (a := 0) rlp
      rw [List.length_map] at a
      omega
    have il := (Picks.at rlp pk).2.2
    walk_at "go"
    intro r nr
    rw [ringL_cut sp1.1 (by omega) (by omega)]
    have s8 : Same H7 (upd H7 r (.lst ((ringL ord pre.sum L).map V.int))) := Same.new (Same.refl _) nr
    have hr8 : upd H7 r (.lst ((ringL ord pre.sum L).map V.int)) r = some (.lst ((ringL ord pre.sum L).map V.int)) := upd_same
    have rd : r ≠ d := fun z => drd.is (by rw [← z]; exact nr)
    have rN : r ≠ Nn := (ne_of_none hN nr).symm
    generalize upd H7 r (.lst ((ringL ord pre.sum L).map V.int)) = H8 at s8 hr8 ⊢
    have dr8 := drd.same s8
    have hN8 := s8 _ _ hN
    walk_at "go"
    refine lc_rng1 (n := L) (by omega) (by omega) (fun D i H' => Col rPair (fun b => b = d ∨ b = Nn) H8 D H' ((List.range i).map fun k => ordP ord (rgA pre.sum L k))) (fun D nD => Col.nil nD) ?_ ?_
    · rintro D i H' nD hi c
      have hr' := c.same _ _ hr8
      obtain ⟨x, y, gx, gy, exy⟩ := ring_pair (ord := ord) (a := pre.sum) hL hi
      obtain ⟨_, vs, hv, _⟩ := id c
      have ln := c.len hv
      rw [List.length_map, List.length_range] at ln
      walk_at "go"
      refine g_ixI hr' gx ?_
      walk_at "go"
      refine g_ixI hr' gy ?_
      walk_at "go"
      refine g_ixI hr' gx ?_
      walk_at "go"
      refine g_ixI hr' gy ?_
      walk_at "go"
      intro u nu
      have c2 := c.step rPair.frm (Same.new (o := .tup [.int (min x y), .int (max x y)]) (Same.refl H') nu)
      have hv2 := hp_new (o' := .tup [.int (min x y), .int (max x y)]) hv nu
      have c3 := c2.app rPair.frm nD hv2 (v := .ref u) (d := ordP ord (rgA pre.sum L i)) ⟨u, rfl, fun z => z.elim (fun z => by rw [z, hv] at nu; cases nu) fun z => z.elim (fun z => (dr8.same c.same).is (by rw [← z]; exact nu)) fun z => (by rw [z, c.same _ _ hN8] at nu; cases nu), by rw [exy]; exact upd_same⟩
      refine ⟨vs, hv2, small_of (by omega), ?_⟩
      rw [List.range_succ, List.map_append]
      exact c3
    · rintro D H9 nD c
      have s79 := Same.trans s8 c.same
      have Dd : D ≠ d := fun z => dr8.is (by rw [← z]; exact nD)
      have DN : D ≠ Nn := (ne_of_none hN8 nD).symm
      obtain ⟨zs, ⟨_, e2, _, hD⟩, pz⟩ := c.done rPair.frm (fun z => z.elim Dd DN)
      cases e2
      have zl := Paired.len pz
      rw [List.length_map, List.length_range] at zl
      walk_at "go"
      refine g_cat (s79 _ _ hP) hD (size_le (by omega)) fun P' nP' => ?_
      have s10 : Same H7 (upd H9 P' (.lst (xs ++ zs))) := Same.new s79 nP'
      have s9 : Same H9 (upd H9 P' (.lst (xs ++ zs))) := Same.new (Same.refl _) nP'
      have hP10 : upd H9 P' (.lst (xs ++ zs)) P' = some (.lst (xs ++ zs)) := upd_same
      have P'd : P' ≠ d := fun z => (drd.same s79).is (by rw [← z]; exact nP')
      have P'N : P' ≠ Nn := (ne_of_none (s79 _ _ hN) nP').symm
      have pr10 : Paired (rPair (fun b => b = d ∨ b = Nn) (upd H9 P' (.lst (xs ++ zs)))) (xs ++ zs) ((rgs 0 (pre ++ [L])).map (ordP ord)) := by
        rw [rgs_snoc, List.map_append]
        refine Paired.app (L2.Paired.mapP pr fun _ _ z => rPair.frm.mv (.same s10) z) ?_
        have e3 : (rgP (0 + pre.sum) L).map (ordP ord) = (List.range L.toNat).map fun k => ordP ord (rgA pre.sum L k) := by
          unfold rgP
          rw [List.map_map, Int.zero_add]
          rfl
        rw [e3]
        exact L2.Paired.mapP pz fun _ _ z => rPair.frm.mv (.same s9) z
      have hr10 := s9 _ _ (c.same _ _ hr8)
      have hN10 := s10 _ _ hN
      generalize upd H9 P' (.lst (xs ++ zs)) = H10 at s10 hP10 pr10 hr10 hN10 ⊢
      walk_at "go"
      refine ⟨d, nl, rfl, drd.same s10, fun H11 x3 k11 dr11 => ?_⟩
      have hr11 := k11 _ _ rd hr10
      have hN11 := k11 _ _ Nd hN10
      have hP11 := k11 _ _ P'd hP10
      have pr11 := pairs_keep k11 pr10
      walk_at "go"
      refine g_rI (by omega) ?_
      have a0 := Int.emod_nonneg x3 (b := L) (by omega)
      have a1 := Int.emod_lt_of_pos x3 (b := L) (by omega)
      generalize x3 % L = j at a0 a1 ⊢
      refine g_ixI hr11 (ringL_at a0 a1) ?_
      walk_at "go"
      have m : (is.map (ndI ord) ++ [ndI ord (pre.sum + j)]) = (is ++ [pre.sum + j]).map (ndI ord) := by rw [List.map_append]; rfl
      refine g_appI hN11 (small_of (by rw [List.length_map]; omega)) ?_
      rw [m]
      have kk : KeepD d H5 H11 := KeepD.trans kd (KeepD.trans (KeepD.same s10) k11)
      walk_at "go"
      refine ⟨P', _, _, _, _, xs ++ zs, is ++ [pre.sum + j], by rw [List.sum_append, List.sum_cons, List.sum_nil, Int.add_zero]; rfl, KeepD.mut kk nN, Drw.mut dr5 dr11 nN, P'd, P'N, by rw [upd_ne P'N]; exact hP11, L2.Paired.mapP pr11 fun _ _ z => rPair.frm.mv (.mut (.inr rfl)) z, upd_same, Picks.snoc pk (by omega) (by omega)⟩
  · rintro σ' H7 ⟨P, w1, w2, w3, w4, xs, is, rfl, kd, dr7, Pd, PN, hP, pr, hN, pk⟩
    have pat := Picks.at rl pk
    have isn : (is.map (ndI ord)).Nodup := nd_nd pm pat.1 fun u hu => by have := pat.2.1 u hu; omega
    have isl : is.length ≤ 4 := by omega
    have isr : ∀ x ∈ is.map (ndI ord), 0 ≤ x ∧ x < n := fun x hx => by
      obtain ⟨i, hi, rfl⟩ := List.mem_map.mp hx
      have := pat.2.1 i hi
      exact nd_at pm (by omega) (by omega)
    have k07 := KeepD.trans k05 kd
    with_reducible refine g_seq ?_
    refine g_ifK (I := fun σ' H' => ∃ (Nx : Addr) (w1 w2 w3 w4 : Option V) (ns : List Int), σ' = [some (.ref d), some (.ref rla), some (.int n), some (.ref O), some (.ref P), some (.ref Nx), some (.int ls.sum), w1, w2, w3, w4] ∧
      KeepD d H7 H' ∧ Drw H' d nl ∧ H' Nx = some (.lst (ns.map V.int)) ∧ ns.Nodup ∧ (∀ x ∈ ns, 0 ≤ x ∧ x < n) ∧ ∀ i ∈ is, ndI ord i ∈ ns) ?_ ?_
    · rintro σ' H8 ⟨Nx, w1, w2, w3, w4, ns, rfl, k8, dr8, hNx, nsn, nsr, nsi⟩
      have hP8 := k8 _ _ Pd hP
      have pr8 : Paired (rPair No H8) xs ((rgs 0 ls).map (ordP ord)) := L2.Paired.mapP (pairs_keep k8 pr) fun _ _ z => rPair.frm.mv Mov.drop z
      have hrl8 := k8 _ _ rld (kd _ _ rld hrl5)
      have k08 := KeepD.trans k07 k8
      with_reducible refine g_seq ?_
      refine g_asg ?_
      refine g_make ?_
      walk_at "go"
      refine g_sortP hP8 pr8 fun ys Es q9 pq sr py sub nq => ?_
      have good := rings_good pm rl le pq sr
      have s9 : Same H8 (upd H8 q9 (.lst ys)) := Same.new (Same.refl _) nq
      have hq9 : upd H8 q9 (.lst ys) q9 = some (.lst ys) := upd_same
      generalize upd H8 q9 (.lst ys) = H9 at s9 hq9 ⊢
      walk_at "go"
      refine g_mkR ⟨n, .ref q9, Es, No, rfl, ⟨ys, ⟨q9, rfl, fun z => z, hq9⟩, L2.Paired.mapP py fun _ _ z => rPair.frm.mv (.same s9) z⟩, fun b z => z.elim, good, by omega, fun H10 gv s10 rg => ?_⟩
      have s810 := Same.trans s9 s10
      obtain ⟨g, dx, ge, gl, rfl, _⟩ := id rg
      have hP10 := s810 _ _ hP8
      have pr10 : Paired (rPair No H10) xs ((rgs 0 ls).map (ordP ord)) := L2.Paired.mapP pr8 fun _ _ z => rPair.frm.mv (.same s810) z
      walk_at "go"
      refine g_sortP hP10 pr10 fun ys2 Es2 q11 pq2 sr2 py2 sub2 nq2 => ?_
      have good2 := rings_good pm rl le pq2 sr2
      obtain rfl := good_uniq good2 good (pq2.trans pq.symm)
      have s11 : Same H10 (upd H10 q11 (.lst ys2)) := Same.new (Same.refl _) nq2
      have hq11 : upd H10 q11 (.lst ys2) q11 = some (.lst ys2) := upd_same
      generalize upd H10 q11 (.lst ys2) = H11 at s11 hq11 ⊢
      walk_at "go"
      refine ⟨n, .ref q11, Es2, rfl, ⟨ys2, ⟨q11, rfl, fun z => z, hq11⟩, L2.Paired.mapP py2 fun _ _ z => rPair.frm.mv (.same s11) z⟩, good, by omega, fun H12 v s12 r1 => ?_⟩
      obtain ⟨lk, ⟨la, rfl, _, hla⟩, plk⟩ := r1
      have s1012 := Same.trans s11 s12
      have s812 := Same.trans s810 s1012
      have hNx12 := s812 _ _ hNx
      have hrl12 := s812 _ _ hrl8
      walk_at "go"
      intro q13 nq13
      have s13 : Same H12 (upd H12 q13 (.lst ((isort ns).map V.int))) := Same.new (Same.refl _) nq13
      have hq13 : upd H12 q13 (.lst ((isort ns).map V.int)) q13 = some (.lst ((isort ns).map V.int)) := upd_same
      generalize upd H12 q13 (.lst ((isort ns).map V.int)) = H13 at s13 hq13 ⊢
      have hrl13 := s13 _ _ hrl12
      have s1013 := Same.trans s1012 s13
      walk_at "go"
      have ri : Rising n (isort ns) := ⟨srt_rise (isort_srt _) ((isort_perm _).nodup_iff.mpr nsn), fun x hx => nsr x (mem_isort.mp hx)⟩
      refine ⟨.ref g, la, q13, lk, n, Es2, isort ns, ls.length, 0, rfl, rGraph.frm.mv (.same s1013) rg, s13 _ _ hla, L2.Paired.mapP plk fun _ _ z => rInts.frm.mv (Mov.trans (.same s13) .drop) z, hq13, good, by omega, ri, rings_bip pm rl le pq pk (fun i hi => mem_isort.mpr (nsi i hi)), rings_least pm rl le pq pk, fun H14 s14 => ?_⟩
      have s1014 := Same.trans s1013 s14
      have s814 := Same.trans s810 s1014
      have hP14 := s814 _ _ hP8
      have pr14 : Paired (rPair No H14) xs ((rgs 0 ls).map (ordP ord)) := L2.Paired.mapP pr8 fun _ _ z => rPair.frm.mv (.same s814) z
      walk_at "go"
      refine g_sortP hP14 pr14 fun ys3 Es3 q15 pq3 sr3 py3 sub3 nq3 => ?_
      have good3 := rings_good pm rl le pq3 sr3
      obtain rfl := good_uniq good3 good (pq3.trans pq.symm)
      have s15 : Same H14 (upd H14 q15 (.lst ys3)) := Same.new (Same.refl _) nq3
      have hq15 : upd H14 q15 (.lst ys3) q15 = some (.lst ys3) := upd_same
      generalize upd H14 q15 (.lst ys3) = H15 at s15 hq15 ⊢
      have s1015 := Same.trans s1014 s15
      have s815 := Same.trans s814 s15
      walk_at "go"
      refine ⟨.ref g, .ref q15, n, Es3, rfl, rGraph.frm.mv (.same s1015) rg, ⟨ys3, ⟨q15, rfl, fun z => z, hq15⟩, L2.Paired.mapP py3 fun _ _ z => rPair.frm.mv (.same s15) z⟩, good, by omega, fun H16 s16 => ?_⟩
      have s816 := Same.trans s815 s16
      exact k H16 (KeepD.trans k08 (KeepD.same s816)) (dr8.same s816)
    · intro nx' key
      walk_at "go"
      refine ⟨d, nl, rfl, dr7, fun H8 x4 k8 dr8 => ?_⟩
      have hN8 := k8 _ _ Nd hN
      walk_at "go"
      refine g_ite (fun yes => ?_) (fun no => ?_)
      · walk_at "go"
        refine ⟨d, nl, rfl, dr8, fun H9 x5 k9 dr9 => ?_⟩
        have hN9 := k9 _ _ Nd hN8
        have pos : 0 < ls.length := by omega
        have n0 : (0 : Int) < n := by
          obtain ⟨L, t, e⟩ : ∃ L t, ls = L :: t := by
            cases ls with
            | nil => simp at pos
            | cons L t => exact ⟨L, t, rfl⟩
          have h1 := rl L (by rw [e]; simp)
          have h2 := RgL.sum (ls := t) fun x hx => rl x (by rw [e]; simp [hx])
          have h3 : ls.sum = L + t.sum := by rw [e, List.sum_cons]
          omega
        walk_at "go"
        refine g_rI n0 ?_
        have a0 := Int.emod_nonneg x5 (b := (n : Int)) (by omega)
        have a1 := Int.emod_lt_of_pos x5 (b := (n : Int)) n0
        generalize x5 % (n : Int) = y at a0 a1 ⊢
        walk_at "go"
        intro t nt
        refine g_cat (by walk_at "hp") upd_same (size_le (by simp; omega)) fun u nu => ?_
        have e1 : (is.map (ndI ord)).map V.int ++ [V.int y] = (is.map (ndI ord) ++ [y]).map V.int := by rw [List.map_append]; rfl
        rw [e1]
        have s10 : Same H9 (upd (upd H9 t (.lst [.int y])) u (.lst ((is.map (ndI ord) ++ [y]).map V.int))) := Same.new (Same.new (Same.refl _) nt) nu
        have hu : upd (upd H9 t (.lst [.int y])) u (.lst ((is.map (ndI ord) ++ [y]).map V.int)) u = some (.lst ((is.map (ndI ord) ++ [y]).map V.int)) := upd_same
        generalize upd (upd H9 t (.lst [.int y])) u (.lst ((is.map (ndI ord) ++ [y]).map V.int)) = H10 at s10 hu ⊢
        have rg2 : ∀ x ∈ is.map (ndI ord) ++ [y], 0 ≤ x ∧ x < (n : Int) := fun x hx => by
          rcases List.mem_append.mp hx with h | h
          · exact isr x h
          · rw [List.mem_singleton.mp h]
            exact ⟨a0, a1⟩
        walk_at "go"
        refine g_set hu (by simp; omega) fun p c np cb => ?_
        have c22 := cb n rg2
        have s11 : Same H10 (upd H10 p (SetO w p (fun j => decide (j ∈ is.map (ndI ord) ++ [y])) c)) := Same.new (Same.refl _) np
        have hp : upd H10 p (SetO w p (fun j => decide (j ∈ is.map (ndI ord) ++ [y])) c) p = some (SetO w p (fun j => decide (j ∈ is.map (ndI ord) ++ [y])) c) := upd_same
        generalize upd H10 p (SetO w p (fun j => decide (j ∈ is.map (ndI ord) ++ [y])) c) = H11 at s11 hp ⊢
        walk_at "go"
        refine g_sortset (ms := addI (is.map (ndI ord)) y) hp (by omega) (addI_rise isn) (fun x => mem_addI) fun q nq => ?_
        have s12 : Same H9 (upd H11 q (.lst ((addI (is.map (ndI ord)) y).map V.int))) := Same.new (Same.trans s10 s11) nq
        walk_at "go"
        exact key _ _ ⟨q, _, _, _, _, addI (is.map (ndI ord)) y, rfl, KeepD.trans k8 (KeepD.trans k9 (KeepD.same s12)), dr9.same s12, upd_same, rise_nd (addI_rise isn), fun x hx => rg2 x (mem_addI.mp hx), fun i hi => mem_addI.mpr (List.mem_append_left _ (List.mem_map.mpr ⟨i, hi, rfl⟩))⟩
      · walk_at "go"
        exact key _ _ ⟨Nn, _, _, _, _, is.map (ndI ord), rfl, k8, dr8, hN8, isn, isr, fun i hi => List.mem_map.mpr ⟨i, hi, rfl⟩⟩

/-! ### law -/
theorem Mov.keepD {d : Addr} {H H' : Hp} (k : KeepD d H H') : Mov (OffD d) H (OffD d) H' := fun b o m e => ⟨k b o m e, m⟩
theorem g_ifEK {I : V → Hp → Prop} {Q : VK} {c : TT} {ta tb : TE} {σ : L2.St} {H : Hp} (h2 : ∀ v H', I v H' → Q v H') (h1 : ∀ Q' : VK, (∀ v H', I v H' → Q' v H') → tIf c ta tb σ H Q') : tIf c ta tb σ H Q := h1 Q h2
theorem not_rise_one {n : Int} : ¬ Rising n [n] := fun z => by
  have := z.2 n (by simp)
  omega
theorem cut_one {ns : List Int} : cutV (ns.map V.int) none (some 1) = (ns.take 1).map V.int := by
  cases ns with
  | nil => rfl
  | cons x r =>
    have := cut_to (xs := (x :: r).map V.int) (k := 1) (by simp)
    rw [List.map_take]
    exact this
theorem app_int {xs : List Int} {y : Int} : xs.map V.int ++ [V.int y] = (xs ++ [y]).map V.int := by rw [List.map_append]; rfl
def sp_law (K : PySem.W.Frag) : Sp := fun vs H Q _ => ∃ (a : Addr) (ns : List Int), vs = [.ref a] ∧ SqL K H a (ns.map V.int) ∧ ns.length ≤ 63 ∧ ∀ H', Q (.bl true) H'
theorem sp_law.len {K : PySem.W.Frag} {vs : List V} {H : Hp} {Q : VK} {E : XK} (h : sp_law K vs H Q E) : vs.length = (["_law_script"] : List Str).length := by
  obtain ⟨a, ns, rfl, _⟩ := h
  rfl
abbrev N_law : List Str := ["_law_script", "_law_draws", "_law_n", "_law_edges_here", "_law_near_here", "_law_graph", "_law_least", "_law_again", "_law_nodes", "_law_v", "_law_wrong", "_law_turned", "_law_odd"]
theorem sc_law : FnScope N_law ["_law_script"] (defScope s_law) := ⟨rfl, rfl, rfl, by decide +kernel, rfl, by decide +kernel, by decide +kernel⟩
theorem fn_law {P : Program} {w : World} {K : PySem.W.Frag} {mg : Str → Option Value} {base : Heap} {fd : FuncData} (W : Hd K mg) (F : FunD K "law" "law" (defArgs s_law) (defBody s_law) (defScope s_law) [] [] (He.ga K "law") fd) : FnOk P w K mg base CX0 17 (He.ga K "law") fd ["_law_script"] (sp_law K) := by
  refine F.ok sc_law (fun vs H Q E h => sp_law.len h) (fun cdv A outer s H vs Q E hr h => ⟨_, PSs.nox ((pss_cons (ps_set (i := 1) sc_law.nd rfl (by first | exact .inl rfl | exact .inr rfl) (pe_lst (pa_cons (pe_callD (ok_law_numbers W) (hr.mono (by decide)) (pa_cons (pv 0) pa_nil)) (pa_cons pe_int pa_nil))))
  (pss_cons (ps_if (PW.pt (pw_and (pt_cmpR op_eq (pe_op op_mod (pe_callD (ok_law_draw W) (hr.mono (by decide)) (pa_cons (pv 1) pa_nil)) pe_int) pe_int (nomark _)) (pw_and1 (pt_not (pt_val (pe_callD (ok_law_rings W) (hr.mono (by decide)) (pa_cons (pv 1) pa_nil)))))))
  (pss_one (ps_ret pe_bl))
  pss_nil)
  (pss_cons (ps_set (i := 2) sc_law.nd rfl (by first | exact .inl rfl | exact .inr rfl) (pe_op op_mod (pe_callD (ok_law_draw W) (hr.mono (by decide)) (pa_cons (pv 1) pa_nil)) pe_int))
  (pss_cons (ps_set (i := 3) sc_law.nd rfl (by first | exact .inl rfl | exact .inr rfl) (pe_callD (ok_law_edges W) (hr.mono (by decide)) (pa_cons (pv 1) (pa_cons (pv 2) pa_nil))))
  (pss_cons (ps_set (i := 4) sc_law.nd rfl (by first | exact .inl rfl | exact .inr rfl) (pe_callD (ok_law_near W) (hr.mono (by decide)) (pa_cons (pv 2) (pa_cons (pv 3) pa_nil))))
  (pss_cons (ps_set (i := 5) sc_law.nd rfl (by first | exact .inl rfl | exact .inr rfl) (pe_makeG W (ok_Graph_init W) (hr.mono (by decide)) (pa_cons (pv 2) (pa_cons (pe_callTy (call_listK K) (by rfl) (W.fr_list) (by decide +kernel) (pa_cons (pv 3) pa_nil)) pa_nil))))
  (pss_cons (ps_set (i := 6) sc_law.nd rfl (by first | exact .inl rfl | exact .inr rfl) (pe_callD (ok_law_least_odd W) (hr.mono (by decide)) (pa_cons (pv 2) (pa_cons (pv 4) pa_nil))))
  (pss_cons (ps_for PassesOwn.never rfl (pi_range1 (by rfl) (W.fr_range) (pa_cons pe_int pa_nil)) (pg_name (i := 7) sc_law.nd rfl (by first | exact .inl rfl | exact .inr rfl))
  (pss_cons (ps_set (i := 8) sc_law.nd rfl (by first | exact .inl rfl | exact .inr rfl) (pe_lst pa_nil))
  (pss_cons (ps_for PassesOwn.never rfl (pi_list (pe_callD (ok_law_order W) (hr.mono (by decide)) (pa_cons (pv 1) (pa_cons (pv 2) pa_nil)))) (pg_name (i := 9) sc_law.nd rfl (by first | exact .inl rfl | exact .inr rfl))
  (pss_one (ps_if (PW.pt (pw_or (pt_cmpR op_isNq (pe_callD (ok_law_two W) (hr.mono (by decide)) (pa_cons (pv 4) (pa_cons (pe_callD (ok_law_without W) (hr.mono (by decide)) (pa_cons (pv 2) (pa_cons (pv 8) pa_nil))) pa_nil))) pe_non (nomark _)) (pw_or1 (pt_cmpR op_eq (pe_op op_mod (pe_callD (ok_law_draw W) (hr.mono (by decide)) (pa_cons (pv 1) pa_nil)) pe_int) pe_int (nomark _)))))
  (pss_one (ps_set (i := 8) sc_law.nd rfl (by first | exact .inl rfl | exact .inr rfl) (pe_callB (cr_sortedK K) (by rfl) (W.fr_sorted) (by decide +kernel) (pa_cons (pe_op op_cat (pv 8) (pe_lst (pa_cons (pv 9) pa_nil))) pa_nil))))
  pss_nil)))
  (pss_cons (ps_if (PW.pt (pw_or (pt_not (pt_val (pe_callD (ok_law_asked W) (hr.mono (by decide)) (pa_cons (pv 5) (pa_cons (pv 4) (pa_cons (pv 8) (pa_cons (pv 6) (pa_cons (pv 7) pa_nil)))))))) (pw_or1 (pt_not (pt_val (pe_callD (ok_law_same W) (hr.mono (by decide)) (pa_cons (pv 5) (pa_cons (pv 2) (pa_cons (pv 3) pa_nil)))))))))
  (pss_one (ps_ret pe_bl))
  pss_nil)
  (pss_cons (ps_setLc (i := 10) (own := [("_law_v", 9)]) (g := gName 9) rfl sc_law.nd rfl rfl (sw_true rfl rfl rfl (by decide +kernel)) (pi_list (pv 8)) (blkOk_by (N := N_law) (sc := defScope s_law) (by decide +kernel)) (fun _ _ _ _ _ => pg_name (i := 9) sc_law.nd rfl (Or.inl rfl)) (fun _ _ _ _ _ => pts_one (pt_cmpR op_eq (pe_op op_mod (pe_callD (ok_law_draw W) (hr.mono (by decide)) (pa_cons (pv 1) pa_nil)) pe_int) pe_int (nomark _))) (fun _ _ _ _ _ => (pv 9)))
  (pss_cons (ps_if (PW.pt (pw_and (pt_cmpR op_isNq (pe_callD (ok_law_two W) (hr.mono (by decide)) (pa_cons (pv 4) (pa_cons (pe_callD (ok_law_without W) (hr.mono (by decide)) (pa_cons (pv 2) (pa_cons (pv 10) pa_nil))) pa_nil))) pe_non (nomark _)) (pw_and1 (pt_not (pt_val (pe_callD (ok_law_refuses W) (hr.mono (by decide)) (pa_cons (pv 5) (pa_cons (pv 10) pa_nil))))))))
  (pss_one (ps_ret pe_bl))
  pss_nil)
  (pss_cons (ps_set (i := 11) sc_law.nd rfl (by first | exact .inl rfl | exact .inr rfl) (pe_ifExp (pt_cmpR op_gt (pe_callB (call_lenK K) (by rfl) (W.fr_len) PySem.boot_len (pa_cons (pv 8) pa_nil)) pe_int (nomark _)) (pe_revL (pv 8)) (pe_lst (pa_cons (pv 2) pa_nil))))
  (pss_cons (ps_set (i := 12) sc_law.nd rfl (by first | exact .inl rfl | exact .inr rfl) (pe_lst (pa_cons (pv 11) (pa_cons (pe_op op_cat (pe_op op_cat (pe_slice (sl_listK K) (pv 8) po_none (po_some pe_int)) (pv 8)) (pe_lst (pa_cons (pv 2) pa_nil))) (pa_cons (pe_op op_cat (pe_lst (pa_cons (pe_un un_neg pe_int) pa_nil)) (pv 8)) (pa_cons (pe_op op_cat (pv 8) (pe_lst (pa_cons (pv 2) pa_nil))) pa_nil))))))
  (pss_one (ps_if (pt_not (pt_val (pe_callD (ok_law_refuses W) (hr.mono (by decide)) (pa_cons (pv 5) (pa_cons (pe_ix (ix_listK K) (pv 12) (pe_op op_mod (pe_callD (ok_law_draw W) (hr.mono (by decide)) (pa_cons (pv 1) pa_nil)) pe_int) (fun _ _ => rfl)) pa_nil)))))
  (pss_one (ps_ret pe_bl))
  pss_nil))))))))))
  (pss_one (ps_ret pe_bl))))))))))), ?_⟩)
  try dsimp only [cxOf, Cx.nox, Cx.wish]
  obtain ⟨a, ns0, rfl, hs, hl, k⟩ := h
  walk_at "go"
  refine ⟨a, ns0, rfl, hs, hl, fun H1 nl nums s1 nnl hnl => ?_⟩
  walk_at "go"
  intro d nd
  have dr2 : Drw (upd H1 d (.lst [.ref nl, .int 0])) d nl := ⟨nums, 0, upd_same, hp_new hnl nd, Int.le_refl _⟩
  generalize upd H1 d (.lst [.ref nl, .int 0]) = H2 at dr2 ⊢
  refine g_name ?_
  with_reducible refine g_seq ?_
  refine g_ifK (I := fun σ' H' => σ' = [some (.ref a), some (.ref d), none, none, none, none, none, none, none, none, none, none, none] ∧ Drw H' d nl) ?_ ?_
  · rintro σ' H3 ⟨rfl, dr3⟩
    walk_at "go"
    refine ⟨d, nl, rfl, dr3, fun H4 x1 k4 dr4 => ?_⟩
    have a0 := Int.emod_nonneg x1 (b := 8) (by decide)
    have a1 := Int.emod_lt_of_pos x1 (b := 8) (by decide)
    walk_at "go"
    obtain ⟨n, en⟩ : ∃ n : Nat, x1 % 8 = n := ⟨(x1 % 8).toNat, by omega⟩
    rw [en]
    have n7 : n ≤ 7 := by omega
    refine ⟨d, nl, n, rfl, dr4, by omega, fun H5 p xs Es k5 dr5 np hp pr good => ?_⟩
    have pd : p ≠ d := fun z => dr4.is (by rw [← z]; exact np)
    walk_at "go"
    refine ⟨n, .ref p, Es, rfl, ⟨xs, ⟨p, rfl, fun z => z, hp⟩, L2.Paired.mapP pr fun _ _ z => rPair.frm.mv .drop z⟩, good, by omega, fun H6 v s6 r6 => ?_⟩
    obtain ⟨lk, ⟨la, rfl, nla, hla⟩, plk⟩ := r6
    have lad : la ≠ d := fun z => nla (by rw [z]; exact dr5.is)
    have pl6 : Paired (rInts (OffD d) H6) lk (links n Es) := L2.Paired.mapP plk fun _ _ z => rInts.frm.mv (.weak fun b e => by rw [show b = d from e]; exact dr5.is) z
    have hp6 := s6 _ _ hp
    have pr6 : Paired (rPair (OffD d) H6) xs Es := L2.Paired.mapP pr fun _ _ z => rPair.frm.mv (.same s6) z
    have dr6 := dr5.same s6
    refine g_name ?_
    with_reducible refine g_seq ?_
    refine g_asg ?_
    refine g_make ?_
    walk_at "go"
    intro c nc
    have cd : c ≠ d := fun z => dr6.is (by rw [← z]; exact nc)
    have s7 : Same H6 (upd H6 c (.lst xs)) := Same.new (Same.refl _) nc
    have hc : upd H6 c (.lst xs) c = some (.lst xs) := upd_same
    generalize upd H6 c (.lst xs) = H7 at s7 hc ⊢
    have dr7 := dr6.same s7
    walk_at "go"
    refine g_mkR ⟨n, .ref c, Es, OffD d, rfl, ⟨xs, ⟨c, rfl, cd, hc⟩, L2.Paired.mapP pr6 fun _ _ z => rPair.frm.mv (.same s7) z⟩, fun b e => by rw [show b = d from e]; exact dr7.is, good, by omega, fun H8 gv s8 rg => ?_⟩
    obtain ⟨g, dx, ge, gl, rfl, _⟩ := id rg
    have s68 := Same.trans s7 s8
    walk_at "go"
    refine ⟨la, lk, n, Es, rfl, s68 _ _ hla, L2.Paired.mapP pl6 fun _ _ z => rInts.frm.mv (Mov.trans (.same s68) .drop) z, good, n7, fun H9 least s9 lo => ?_⟩
    have s69 := Same.trans s68 s9
    have dr9 := dr6.same s69
    have atK : ∀ {H' : Hp}, KeepD d H9 H' → H' p = some (.lst xs) ∧ Paired (rPair No H') xs Es ∧ H' la = some (.lst lk) ∧ Paired (rInts No H') lk (links n Es) ∧ rGraph K No H' (.ref g) (n, Es) := fun kd =>
      ⟨kd _ _ pd (s69 _ _ hp6), L2.Paired.mapP pr6 fun _ _ z => rPair.frm.mv (Mov.trans (.same s69) (Mov.trans (.keepD kd) .drop)) z, kd _ _ lad (s69 _ _ hla), L2.Paired.mapP pl6 fun _ _ z => rInts.frm.mv (Mov.trans (.same s69) (Mov.trans (.keepD kd) .drop)) z, rGraph.frm.mv (Mov.trans (.same s9) (Mov.trans (.keepD kd) .drop)) rg⟩
    clear s69 s68 rg s9 s8 s7 hc pr6 pl6 hp6 plk hla nla s6 pr hp np k5 k4
    walk_at "go"
    refine for_rng1 (n := 2) (by decide) (by decide) (fun i σ' H' => (∃ w1 w2 w3 w4 w5 w6 : Option V, σ' = [some (.ref a), some (.ref d), some (.int n), some (.ref p), some (.ref la), some (.ref g), some (.int least), w1, w2, w3, w4, w5, w6]) ∧ KeepD d H9 H' ∧ Drw H' d nl) ⟨⟨_, _, _, _, _, _, rfl⟩, KeepD.refl _ _, dr9⟩ ?_ ?_
    · rintro i σ' H10 hi ⟨⟨w1, w2, w3, w4, w5, w6, rfl⟩, k10, dr10⟩
      walk_at "go"
      intro e0 ne0
      have e0d : e0 ≠ d := fun z => dr10.is (by rw [← z]; exact ne0)
      have sA : Same H10 (upd H10 e0 (.lst [])) := Same.new (Same.refl _) ne0
      have hA : upd H10 e0 (.lst []) e0 = some (.lst []) := upd_same
      generalize upd H10 e0 (.lst []) = HA at sA hA ⊢
      walk_at "go"
      refine ⟨d, nl, n, rfl, dr10.same sA, by omega, fun HB O ord kB drB nO hO pm => ?_⟩
      have Od : O ≠ d := fun z => (dr10.same sA).is (by rw [← z]; exact nO)
      have k9B := KeepD.trans k10 (KeepD.trans (KeepD.same sA) kB)
      refine for_ints (ns := ord) hO (fun pre σ' HC => ∃ (Nn : Addr) (u w3 w4 w5 : Option V) (ns : List Int), σ' = [some (.ref a), some (.ref d), some (.int n), some (.ref p), some (.ref la), some (.ref g), some (.int least), some (.int (i : Nat)), some (.ref Nn), u, w3, w4, w5] ∧
          KeepD d HB HC ∧ Drw HC d nl ∧ Nn ≠ d ∧ HC Nn = some (.lst (ns.map V.int)) ∧ Nds n Es pre ns) ?_ ?_ ?_ ?_
      · exact ⟨e0, _, _, _, _, [], rfl, KeepD.refl _ _, drB, e0d, kB _ _ e0d hA, Nds.nil⟩
      · rintro pre σ' HC _ ⟨Nn, u, w3, w4, w5, ns, _, kC, _⟩
        exact kC _ _ Od hO
      · rintro pre v post σ' HC e ⟨Nn, u, w3, w4, w5, ns, rfl, kC, drC, Nd, hN, N⟩
        obtain ⟨_, _, hlC, plC, _⟩ := atK (KeepD.trans k9B kC)
        have vr : 0 ≤ v ∧ v < n := mem_rngI.mp (pm.mem_iff.mp (by rw [e]; simp))
        have vp : v ∉ pre := fun z => by
          have := pm.nodup_iff.mpr (rngI_nd n)
          rw [e, List.nodup_append] at this
          exact this.2.2 v z v (by simp) rfl
        have nsl := N.rise.len
        walk_at "go"
        refine ⟨n, Nn, ns, rfl, hN, by omega, fun HD q sD nq hq => ?_⟩
        walk_at "go"
        refine ⟨la, q, lk, n, Es, ns, rfl, sD _ _ hlC, pl_same sD plC, hq, good, by omega, fun bp HE dd m sE ndd hdd _ _ _ => ?_, fun nb HE sE => ?_⟩
        · have sCE := Same.trans sD sE
          walk_at "go"
          refine ⟨d, nl, rfl, drC.same sCE, fun HF x kF drF => ?_⟩
          have kCF := KeepD.trans (KeepD.same sCE) kF
          have hNF := kCF _ _ Nd hN
          walk_at "go"
          refine g_ite (fun yes => ?_) (fun no => ?_)
          · walk_at "go"
            intro t nt
            refine g_cat (by walk_at "hp") upd_same (size_le (by simp; omega)) fun u nu => ?_
            have e1 : ns.map V.int ++ [V.int v] = (ns ++ [v]).map V.int := by rw [List.map_append]; rfl
            rw [e1]
            have sG : Same HF (upd (upd HF t (.lst [.int v])) u (.lst ((ns ++ [v]).map V.int))) := Same.new (Same.new (Same.refl _) nt) nu
            have hu : upd (upd HF t (.lst [.int v])) u (.lst ((ns ++ [v]).map V.int)) u = some (.lst ((ns ++ [v]).map V.int)) := upd_same
            generalize upd (upd HF t (.lst [.int v])) u (.lst ((ns ++ [v]).map V.int)) = HG at sG hu ⊢
            walk_at "go"
            intro s ns'
            have sd : s ≠ d := fun z => (drF.same sG).is (by rw [← z]; exact ns')
            have sH : Same HF (upd HG s (.lst ((isort (ns ++ [v])).map V.int))) := Same.new sG ns'
            walk_at "go"
            exact ⟨s, _, _, _, _, isort (ns ++ [v]), rfl, KeepD.trans kC (KeepD.trans kCF (KeepD.same sH)), drF.same sH, sd, upd_same, N.add vp vr⟩
          · walk_at "go"
            exact ⟨Nn, _, _, _, _, ns, rfl, KeepD.trans kC kCF, drF, Nd, hNF, N.keep bp⟩
        · have sCE := Same.trans sD sE
          have hNE := sCE _ _ hN
          have drE := drC.same sCE
          walk_at "go"
          intro t nt
          refine g_cat (by walk_at "hp") upd_same (size_le (by simp; omega)) fun u nu => ?_
          have e1 : ns.map V.int ++ [V.int v] = (ns ++ [v]).map V.int := by rw [List.map_append]; rfl
          rw [e1]
          have sG : Same HE (upd (upd HE t (.lst [.int v])) u (.lst ((ns ++ [v]).map V.int))) := Same.new (Same.new (Same.refl _) nt) nu
          have hu : upd (upd HE t (.lst [.int v])) u (.lst ((ns ++ [v]).map V.int)) u = some (.lst ((ns ++ [v]).map V.int)) := upd_same
          generalize upd (upd HE t (.lst [.int v])) u (.lst ((ns ++ [v]).map V.int)) = HG at sG hu ⊢
          walk_at "go"
          intro s ns'
          have sd : s ≠ d := fun z => (drE.same sG).is (by rw [← z]; exact ns')
          have sH : Same HE (upd HG s (.lst ((isort (ns ++ [v])).map V.int))) := Same.new sG ns'
          walk_at "go"
          exact ⟨s, _, _, _, _, isort (ns ++ [v]), rfl, KeepD.trans kC (KeepD.same (Same.trans sCE sH)), drE.same sH, sd, upd_same, N.add vp vr⟩
      · rintro σ' HC ⟨Nn, u, w3, w4, w5, ns, rfl, kC, drC, Nd, hN, N⟩
        have bp := N.fin good pm
        have ri := N.rise
        have nsl := ri.len
        have k9C := KeepD.trans k9B kC
        clear N kC kB hA sA
        obtain ⟨hpC, prC, hlC, plC, rgC⟩ := atK k9C
        walk_at "go"
        refine ⟨.ref g, la, Nn, lk, n, Es, ns, least, (i : Nat), rfl, rgC, hlC, plC, hN, good, by omega, ri, bp, lo, fun HD sD => ?_⟩
        walk_at "go"
        refine ⟨.ref g, .ref p, n, Es, rfl, rGraph.frm.mv (.same sD) rgC, ⟨xs, ⟨p, rfl, fun z => z, sD _ _ hpC⟩, L2.Paired.mapP prC fun _ _ z => rPair.frm.mv (.same sD) z⟩, good, by omega, fun HE sE => ?_⟩
        have sCE := Same.trans sD sE
        have drE := drC.same sCE
        have hNE := sCE _ _ hN
        walk_at "go"
        refine lc_rep (R := fun x (i : Int) => x = .int i) hNE (paired_map ns) (fun D pre HF => KeepD d HE HF ∧ Drw HF d nl ∧ ∃ ws : List Int, HF D = some (.lst (ws.map V.int)) ∧ ws.length ≤ pre.length) ?_ ?_ ?_ ?_
        · exact fun D nD => ⟨KeepD.new (KeepD.refl _ _) nD drE.is, drE.same (Same.new (Same.refl _) nD), [], upd_same, Nat.le_refl _⟩
        · rintro D pre HF nD _ ⟨kF, _⟩
          exact kF _ _ Nd hNE
        · rintro D pre x v post HF nD e rfl ⟨kF, drF, ws, hD, wl⟩
          have Dd : D ≠ d := fun z => drE.is (by rw [← z]; exact nD)
          have prl : pre.length ≤ ns.length := by rw [e]; simp
          walk_at "go"
          refine ⟨d, nl, rfl, drF, fun HG y kG drG => ?_⟩
          walk_at "go"
          refine g_ite (fun yes => ?_) (fun no => ?_)
          · walk_at "go"
            refine ⟨_, kG _ _ Dd hD, small_of (by rw [List.length_map]; omega), KeepD.mut (KeepD.trans kF kG) nD, Drw.mut drE drG nD, ws ++ [v], ?_, by simp; omega⟩
            rw [List.map_append]
            exact upd_same
          · walk_at "go"
            exact ⟨KeepD.trans kF kG, drG, ws, kG _ _ Dd hD, by simp; omega⟩
        · rintro D HF nD ⟨kF, drF, ws, hD, wl⟩
          have kCF := KeepD.trans (KeepD.same sCE) kF
          have k9F := KeepD.trans k9C kCF
          have hNF := kCF _ _ Nd hN
          obtain ⟨hpF, prF, hlF, plF, rgF⟩ := atK k9F
          refine g_name ?_
          with_reducible refine g_seq ?_
          refine g_ifK (I := fun σ' H' => (∃ w4 w5 : Option V, σ' = [some (.ref a), some (.ref d), some (.int n), some (.ref p), some (.ref la), some (.ref g), some (.int least), some (.int (i : Nat)), some (.ref Nn), u, some (.ref D), w4, w5]) ∧ Same HF H') ?_ ?_
          · rintro σ' HG ⟨⟨w4, w5, rfl⟩, sG⟩
            have hNG := sG _ _ hNF
            have drG := drF.same sG
            have rgG := rGraph.frm.mv (.same sG) rgF
            with_reducible refine g_seq ?_
            refine g_asg ?_
            refine g_ifEK (I := fun v H' => ∃ (tc : Addr) (zs : List Int), v = .ref tc ∧ H' tc = some (.lst (zs.map V.int)) ∧ Same HG H' ∧ ¬ Rising n zs ∧ zs.length ≤ 10000) ?_ ?_
            · rintro v HH ⟨tc, zs, rfl, hz, sH, nrz, zl⟩
              have hNH := sH _ _ hNG
              walk_at "go"
              intro c1 nc1
              rw [cut_one]
              have t1 : Same HH (upd HH c1 (.lst ((ns.take 1).map V.int))) := Same.new (Same.refl _) nc1
              have h1 : upd HH c1 (.lst ((ns.take 1).map V.int)) c1 = some (.lst ((ns.take 1).map V.int)) := upd_same
              generalize upd HH c1 (.lst ((ns.take 1).map V.int)) = X1 at t1 h1 ⊢
              have f1 := t1 _ _ hNH
              walk_at "go"
              refine g_cat h1 f1 (size_le (by simp; omega)) fun c2 nc2 => ?_
              rw [← List.map_append]
              have t2 : Same HH (upd X1 c2 (.lst ((ns.take 1 ++ ns).map V.int))) := Same.new t1 nc2
              have h2 : upd X1 c2 (.lst ((ns.take 1 ++ ns).map V.int)) c2 = some (.lst ((ns.take 1 ++ ns).map V.int)) := upd_same
              generalize upd X1 c2 (.lst ((ns.take 1 ++ ns).map V.int)) = X2 at t2 h2 ⊢
              walk_at "go"
              intro c3 nc3
              refine g_cat (hp_new h2 nc3) upd_same (size_le (by simp; omega)) fun c4 nc4 => ?_
              rw [app_int]
              have t4 : Same HH (upd (upd X2 c3 (.lst [.int n])) c4 (.lst ((ns.take 1 ++ ns ++ [(n : Int)]).map V.int))) := Same.new (Same.new t2 nc3) nc4
              have h4 : upd (upd X2 c3 (.lst [.int n])) c4 (.lst ((ns.take 1 ++ ns ++ [(n : Int)]).map V.int)) c4 = some (.lst ((ns.take 1 ++ ns ++ [(n : Int)]).map V.int)) := upd_same
              generalize upd (upd X2 c3 (.lst [.int n])) c4 (.lst ((ns.take 1 ++ ns ++ [(n : Int)]).map V.int)) = X4 at t4 h4 ⊢
              walk_at "go"
              intro c5 nc5
              have f5 := hp_new (o' := .lst [V.int (-1)]) (t4 _ _ hNH) nc5
              walk_at "go"
              refine g_cat (xs := [V.int (-1)]) upd_same f5 (size_le (by simp; omega)) fun c6 nc6 => ?_
              have e6 : [V.int (-1)] ++ ns.map V.int = (-1 :: ns).map V.int := rfl
              rw [e6]
              have t6 : Same X4 (upd (upd X4 c5 (.lst [.int (-1)])) c6 (.lst ((-1 :: ns).map V.int))) := Same.new (Same.new (Same.refl _) nc5) nc6
              have h6 : upd (upd X4 c5 (.lst [.int (-1)])) c6 (.lst ((-1 :: ns).map V.int)) c6 = some (.lst ((-1 :: ns).map V.int)) := upd_same
              generalize upd (upd X4 c5 (.lst [.int (-1)])) c6 (.lst ((-1 :: ns).map V.int)) = X6 at t6 h6 ⊢
              have f6 := t6 _ _ (t4 _ _ hNH)
              walk_at "go"
              intro c7 nc7
              refine g_cat (hp_new f6 nc7) upd_same (size_le (by simp; omega)) fun c8 nc8 => ?_
              rw [app_int]
              have t8 : Same X6 (upd (upd X6 c7 (.lst [.int n])) c8 (.lst ((ns ++ [(n : Int)]).map V.int))) := Same.new (Same.new (Same.refl _) nc7) nc8
              have h8 : upd (upd X6 c7 (.lst [.int n])) c8 (.lst ((ns ++ [(n : Int)]).map V.int)) c8 = some (.lst ((ns ++ [(n : Int)]).map V.int)) := upd_same
              generalize upd (upd X6 c7 (.lst [.int n])) c8 (.lst ((ns ++ [(n : Int)]).map V.int)) = X8 at t8 h8 ⊢
              walk_at "go"
              intro od nod
              have t9 : Same X8 (upd X8 od (.lst [.ref tc, .ref c4, .ref c6, .ref c8])) := Same.new (Same.refl _) nod
              have h9 : upd X8 od (.lst [.ref tc, .ref c4, .ref c6, .ref c8]) od = some (.lst [.ref tc, .ref c4, .ref c6, .ref c8]) := upd_same
              generalize upd X8 od (.lst [.ref tc, .ref c4, .ref c6, .ref c8]) = X9 at t9 h9 ⊢
              have sH9 : Same HH X9 := Same.trans t4 (Same.trans t6 (Same.trans t8 t9))
              have g1 := sH9 _ _ hz
              have g4 := t9 _ _ (t8 _ _ (t6 _ _ h4))
              have g6 := t9 _ _ (t8 _ _ h6)
              have g8 := t9 _ _ h8
              have dr9' := drG.same (Same.trans sH sH9)
              have ne : ∀ {b : Addr} {ys : List Int}, X9 b = some (.lst (ys.map V.int)) → b ≠ d := fun {b ys} e z => by
                obtain ⟨ms, at_, h, _⟩ := dr9'
                rw [z, h] at e
                cases ys with
                | nil => cases e
                | cons y r => cases e
              walk_at "go"
              refine ⟨d, nl, rfl, dr9', fun HK x2 kK drK => ?_⟩
              have a2 := Int.emod_nonneg x2 (b := 4) (by decide)
              have a3 := Int.emod_lt_of_pos x2 (b := 4) (by decide)
              walk_at "go"
              generalize x2 % 4 = z at a2 a3 ⊢
              obtain ⟨ad, ys, gz, gy, nry, yl⟩ : ∃ (ad : Addr) (ys : List Int), atI [V.ref tc, .ref c4, .ref c6, .ref c8] z = some (.ref ad) ∧ X9 ad = some (.lst (ys.map V.int)) ∧ ¬ Rising n ys ∧ ys.length ≤ 10000 := by
                have hz4 : z = 0 ∨ z = 1 ∨ z = 2 ∨ z = 3 := by omega
                rcases hz4 with rfl | rfl | rfl | rfl
                · exact ⟨tc, zs, rfl, g1, nrz, zl⟩
                · exact ⟨c4, _, rfl, g4, not_rise_top, by simp; omega⟩
                · exact ⟨c6, _, rfl, g6, not_rise_low, by simp; omega⟩
                · exact ⟨c8, _, rfl, g8, not_rise_top, by simp; omega⟩
              have odd : od ≠ d := fun z => by
                obtain ⟨ms, at_, h, _⟩ := dr9'
                rw [z, h] at h9
                cases h9
              refine g_ix (kK _ _ odd h9) gz ?_
              have kGK : KeepD d HG HK := KeepD.trans (KeepD.same (Same.trans sH sH9)) kK
              have kFK : KeepD d HF HK := KeepD.trans (KeepD.same sG) kGK
              have k9K := KeepD.trans k9F kFK
              obtain ⟨_, _, _, _, rgK⟩ := atK k9K
              walk_at "go"
              refine ⟨.ref g, ad, n, Es, ys, rfl, rgK, kK _ _ (ne gy) gy, good, by omega, fun z => nry z.1, yl, fun HL sL => ?_⟩
              walk_at "go"
              exact ⟨⟨_, _, _, _, _, _, rfl⟩, KeepD.trans k9K (KeepD.same sL), drK.same sL⟩
            · intro Q' key
              walk_at "go"
              refine g_ite (fun big => ?_) (fun small => ?_)
              · walk_at "go"
                refine ⟨Nn, _, rfl, sq_of hNG, fun t nt => ?_⟩
                refine key _ _ ⟨t, ns.reverse, rfl, by rw [List.map_reverse]; exact upd_same, Same.new (Same.refl _) nt, not_rise_rev ri (by omega), by rw [List.length_reverse]; omega⟩
              · walk_at "go"
                intro t nt
                exact key _ _ ⟨t, [(n : Int)], rfl, upd_same, Same.new (Same.refl _) nt, not_rise_one, by simp⟩
          · intro nx' key
            walk_at "go"
            refine ⟨n, D, ws, rfl, hD, by omega, fun HG q sG nq hq => ?_⟩
            walk_at "go"
            refine ⟨la, q, lk, n, Es, ws, rfl, sG _ _ hlF, pl_same sG plF, hq, good, by omega, fun bp' HH dd m sH ndd hdd _ _ _ => ?_, fun nb HH sH => ?_⟩
            · have sFH := Same.trans sG sH
              walk_at "go"
              exact key _ _ ⟨⟨_, _, rfl⟩, sFH⟩
            · have sFH := Same.trans sG sH
              walk_at "go"
              refine ⟨.ref g, D, n, Es, ws, rfl, rGraph.frm.mv (.same sFH) rgF, sFH _ _ hD, good, by omega, fun z => nb z.2.1, by omega, fun HI sI => ?_⟩
              walk_at "go"
              exact key _ _ ⟨⟨_, _, rfl⟩, Same.trans sFH sI⟩
    · rintro σ' H10 ⟨⟨w1, w2, w3, w4, w5, w6, rfl⟩, k10, dr10⟩
      walk_at "go"
      exact k H10
  · intro nx' key
    walk_at "go"
    refine ⟨d, nl, rfl, dr2, fun H3 x k3 dr3 => ?_⟩
    walk_at "go"
    refine g_ite (fun yes => ?_) (fun no => ?_)
    · walk_at "go"
      refine ⟨d, nl, rfl, dr3, fun H4 k4 dr4 => ?_⟩
      walk_at "go"
      exact key _ _ ⟨rfl, dr4⟩
    · walk_at "go"
      exact key _ _ ⟨rfl, dr3⟩

end G3

set_option maxHeartbeats 2000000
namespace G3
open PySem PySem.Spec PyProof.Rows L2
/-! ### the end -/
theorem facts {P : Program} {w : World} {K : PySem.W.Frag} {h : Heap} {mg : Str → Option Value} {f : Addr} (X : K.In h) (G : h.Ns mainGlobals mg) (hfa : mg ("law" : Str) = some (.ref f)) (c : He.SaysD fa fn K) (e : ex K = true) :
    ∃ fd : FuncData, (∀ (s : Shared) (v : Value), BindsTo s fd ⟨[v], []⟩ [("_law_script", v)]) ∧ ∀ base : Heap, K.In base → base.Ns mainGlobals mg → FnOk P w K mg base CX0 17 f fd ["_law_script"] (sp_law K) := by
  have W : Hd K mg := ⟨⟨h, X, G⟩, c, e⟩
  obtain ⟨fd, F⟩ := W.df_law
  have e := hfa.symm.trans W.mg_law
  cases e
  have b := FunD.bindsA (ps := ["_law_script"]) F (fun _ _ _ _ _ _ us hl => match us, hl with | [_], _ => rfl)
  exact ⟨fd, fun s v => b s [v] rfl, fun base _ _ => fn_law W F⟩
end G3
open PySem PySem.W PySem.Calls PyProof.Rows
theorem PySem.Challenge.cw_cherrystone_k75_whole_odd_sets_or_papers_holds : PySem.Challenge.rw_cherrystone_k75_whole_odd_sets_or_papers.Holds := by
  refine G3.from_walk fun w mg f h K KX c ce G hmg => ?_
  obtain ⟨fd, hb, hF⟩ := G3.facts (P := (PySem.Challenge.rw_cherrystone_k75_whole_odd_sets_or_papers).prog) (w := w) KX G hmg c ce
  exact ⟨fd, G3.sp_law K, hb, fun H a ns hl hS => ⟨a, ns, rfl, hS, hl, fun _ => rfl⟩, hF⟩

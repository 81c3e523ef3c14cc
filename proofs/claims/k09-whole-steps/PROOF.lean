import PyProof.Rows.All
import Wide.All
import OpenK.AllK
import Wide.FinOn
import HandS.ForMost
import KE.KStateDown
import HandS.Defaults
import HandS.EndTab
import HandS.HeadHook4
import HandS.HeadWalk
import HandS.HeadEnd
import HandS.Head0
import HandS.Head1
import HandS.Head2
import HandS.Evl
import HandS.Star
import HandS.TupAny
import HandS.TupLe
import HandS.IsInst
import HandS.Deep
import HandS.Style
import HandS.Conv
import HandS.Wide
import HandS.Small
import HandS.Strs
import HandS.Zip
import HandS.Walk
import HandS.SortInts
import HandS.TupLen
import HandS.DictComp
import KE.KDictKeyed
import KE.KDictDisplayH
import HandS.SortKw
import HandS.Keys
import KE.SortKeyHeap
import KE.KDictSum
import HandS.Lambda
import HandS.Iter
import KE.GoesMore
import HandS.SetFor
import PyProof.ReprRoads
import PyProof.FitsInt
import HandS.SortOrd
import PyProof.TupleOfSeq
import KE.KNestM
import PySem.Challenge.RW_plancorners_k09_whole_steps
set_option Elab.async false
set_option linter.all false
set_option maxRecDepth 100000
set_option maxHeartbeats 0
namespace Pc
open PySem PySem.Spec PyProof.Rows L2
/-! the text: each def's statement, its names by slot -/
def topS (i : Nat) : Stmt := PySem.Challenge.pw_plancorners_k09_whole_steps.main.body.getD i (.Pass ⟨0, 0, 0, 0⟩)

abbrev s_is_whole : Stmt := topS 16
abbrev N_is_whole : List Str := ["value", "least", "most"]
abbrev P_is_whole : List Str := ["value", "least", "most"]
theorem sc_is_whole : FnScope N_is_whole P_is_whole (defScope s_is_whole) := ⟨rfl, rfl, rfl, by decide +kernel, rfl, by decide +kernel, by decide +kernel⟩
abbrev s_are_rising : Stmt := topS 17
abbrev N_are_rising : List Str := ["row", "one", "other"]
abbrev P_are_rising : List Str := ["row"]
theorem sc_are_rising : FnScope N_are_rising P_are_rising (defScope s_are_rising) := ⟨rfl, rfl, rfl, by decide +kernel, rfl, by decide +kernel, by decide +kernel⟩
abbrev s_are_values : Stmt := topS 18
abbrev N_are_values : List Str := ["value", "most", "one"]
abbrev P_are_values : List Str := ["value", "most"]
theorem sc_are_values : FnScope N_are_values P_are_values (defScope s_are_values) := ⟨rfl, rfl, rfl, by decide +kernel, rfl, by decide +kernel, by decide +kernel⟩
abbrev s_is_link : Stmt := topS 19
abbrev N_is_link : List Str := ["value", "tables"]
abbrev P_is_link : List Str := ["value", "tables"]
theorem sc_is_link : FnScope N_is_link P_is_link (defScope s_is_link) := ⟨rfl, rfl, rfl, by decide +kernel, rfl, by decide +kernel, by decide +kernel⟩
abbrev s_need_links : Stmt := topS 20
abbrev N_need_links : List Str := ["links", "tables", "number", "link"]
abbrev P_need_links : List Str := ["links", "tables"]
theorem sc_need_links : FnScope N_need_links P_need_links (defScope s_need_links) := ⟨rfl, rfl, rfl, by decide +kernel, rfl, by decide +kernel, by decide +kernel⟩
abbrev s_need_prices : Stmt := topS 21
abbrev N_need_prices : List Str := ["prices"]
abbrev P_need_prices : List Str := ["prices"]
theorem sc_need_prices : FnScope N_need_prices P_need_prices (defScope s_need_prices) := ⟨rfl, rfl, rfl, by decide +kernel, rfl, by decide +kernel, by decide +kernel⟩
abbrev s_values_of : Stmt := topS 22
abbrev N_values_of : List Str := ["query", "link"]
abbrev P_values_of : List Str := ["query"]
theorem sc_values_of : FnScope N_values_of P_values_of (defScope s_values_of) := ⟨rfl, rfl, rfl, by decide +kernel, rfl, by decide +kernel, by decide +kernel⟩
abbrev s_unknown_in : Stmt := topS 23
abbrev N_unknown_in : List Str := ["query", "place", "values"]
abbrev P_unknown_in : List Str := ["query"]
theorem sc_unknown_in : FnScope N_unknown_in P_unknown_in (defScope s_unknown_in) := ⟨rfl, rfl, rfl, by decide +kernel, rfl, by decide +kernel, by decide +kernel⟩
abbrev s_need_query : Stmt := topS 24
abbrev N_need_query : List Str := ["query", "number", "values"]
abbrev P_need_query : List Str := ["query"]
theorem sc_need_query : FnScope N_need_query P_need_query (defScope s_need_query) := ⟨rfl, rfl, rfl, by decide +kernel, rfl, by decide +kernel, by decide +kernel⟩
abbrev s_need_kind : Stmt := topS 25
abbrev N_need_kind : List Str := ["kind"]
abbrev P_need_kind : List Str := ["kind"]
theorem sc_need_kind : FnScope N_need_kind P_need_kind (defScope s_need_kind) := ⟨rfl, rfl, rfl, by decide +kernel, rfl, by decide +kernel, by decide +kernel⟩
abbrev s_are_joined : Stmt := topS 27
abbrev N_are_joined : List Str := ["query", "left", "right", "one", "other", "fits"]
abbrev P_are_joined : List Str := ["query", "left", "right"]
theorem sc_are_joined : FnScope N_are_joined P_are_joined (defScope s_are_joined) := ⟨rfl, rfl, rfl, by decide +kernel, rfl, by decide +kernel, by decide +kernel⟩
abbrev s_is_table : Stmt := topS 33
abbrev N_is_table : List Str := ["value"]
abbrev P_is_table : List Str := ["value"]
theorem sc_is_table : FnScope N_is_table P_is_table (defScope s_is_table) := ⟨rfl, rfl, rfl, by decide +kernel, rfl, by decide +kernel, by decide +kernel⟩
abbrev s_tables_of : Stmt := topS 34
abbrev N_tables_of : List Str := ["plan"]
abbrev P_tables_of : List Str := ["plan"]
theorem sc_tables_of : FnScope N_tables_of P_tables_of (defScope s_tables_of) := ⟨rfl, rfl, rfl, by decide +kernel, rfl, by decide +kernel, by decide +kernel⟩
abbrev s_is_part : Stmt := topS 35
abbrev N_is_part : List Str := ["query", "value", "used", "deep"]
abbrev P_is_part : List Str := ["query", "value", "used", "deep"]
theorem sc_is_part : FnScope N_is_part P_is_part (defScope s_is_part) := ⟨rfl, rfl, rfl, by decide +kernel, rfl, by decide +kernel, by decide +kernel⟩
abbrev s_need_plan : Stmt := topS 36
abbrev N_need_plan : List Str := ["query", "plan", "waiting", "used", "here", "path"]
abbrev P_need_plan : List Str := ["query", "plan"]
theorem sc_need_plan : FnScope N_need_plan P_need_plan (defScope s_need_plan) := ⟨rfl, rfl, rfl, by decide +kernel, rfl, by decide +kernel, by decide +kernel⟩
abbrev s_nodes_of : Stmt := topS 37
abbrev N_nodes_of : List Str := ["plan"]
abbrev P_nodes_of : List Str := ["plan"]
theorem sc_nodes_of : FnScope N_nodes_of P_nodes_of (defScope s_nodes_of) := ⟨rfl, rfl, rfl, by decide +kernel, rfl, by decide +kernel, by decide +kernel⟩
abbrev s_crossed_nodes : Stmt := topS 38
abbrev N_crossed_nodes : List Str := ["query", "plan", "node"]
abbrev P_crossed_nodes : List Str := ["query", "plan"]
theorem sc_crossed_nodes : FnScope N_crossed_nodes P_crossed_nodes (defScope s_crossed_nodes) := ⟨rfl, rfl, rfl, by decide +kernel, rfl, by decide +kernel, by decide +kernel⟩
abbrev s_ways_at : Stmt := topS 41
abbrev N_ways_at : List Str := ["plan", "some", "how"]
abbrev P_ways_at : List Str := ["plan"]
theorem sc_ways_at : FnScope N_ways_at P_ways_at (defScope s_ways_at) := ⟨rfl, rfl, rfl, by decide +kernel, rfl, by decide +kernel, by decide +kernel⟩
abbrev s_turned_at : Stmt := topS 42
abbrev N_turned_at : List Str := ["plan", "how", "left", "right"]
abbrev P_turned_at : List Str := ["plan"]
theorem sc_turned_at : FnScope N_turned_at P_turned_at (defScope s_turned_at) := ⟨rfl, rfl, rfl, by decide +kernel, rfl, by decide +kernel, by decide +kernel⟩
abbrev s_leaned_at : Stmt := topS 43
abbrev N_leaned_at : List Str := ["plan", "how", "left", "right", "found", "one"]
abbrev P_leaned_at : List Str := ["plan"]
theorem sc_leaned_at : FnScope N_leaned_at P_leaned_at (defScope s_leaned_at) := ⟨rfl, rfl, rfl, by decide +kernel, rfl, by decide +kernel, by decide +kernel⟩
abbrev s_is_good : Stmt := topS 44
abbrev N_is_good : List Str := ["plan"]
abbrev P_is_good : List Str := ["plan"]
theorem sc_is_good : FnScope N_is_good P_is_good (defScope s_is_good) := ⟨rfl, rfl, rfl, by decide +kernel, rfl, by decide +kernel, by decide +kernel⟩
abbrev s_changed_at : Stmt := topS 45
abbrev N_changed_at : List Str := ["plan"]
abbrev P_changed_at : List Str := ["plan"]
theorem sc_changed_at : FnScope N_changed_at P_changed_at (defScope s_changed_at) := ⟨rfl, rfl, rfl, by decide +kernel, rfl, by decide +kernel, by decide +kernel⟩
abbrev s_changed_in : Stmt := topS 46
abbrev N_changed_in : List Str := ["plan", "how", "left", "right", "found", "one"]
abbrev P_changed_in : List Str := ["plan"]
theorem sc_changed_in : FnScope N_changed_in P_changed_in (defScope s_changed_in) := ⟨rfl, rfl, rfl, by decide +kernel, rfl, by decide +kernel, by decide +kernel⟩
abbrev s_order_of : Stmt := topS 47
abbrev N_order_of : List Str := ["plan"]
abbrev P_order_of : List Str := ["plan"]
theorem sc_order_of : FnScope N_order_of P_order_of (defScope s_order_of) := ⟨rfl, rfl, rfl, by decide +kernel, rfl, by decide +kernel, by decide +kernel⟩
abbrev s_steps_of : Stmt := topS 48
abbrev N_steps_of : List Str := ["query", "kind", "plan", "found", "one"]
abbrev P_steps_of : List Str := ["query", "kind", "plan"]
theorem sc_steps_of : FnScope N_steps_of P_steps_of (defScope s_steps_of) := ⟨rfl, rfl, rfl, by decide +kernel, rfl, by decide +kernel, by decide +kernel⟩
abbrev s_need_asked : Stmt := topS 49
abbrev N_need_asked : List Str := ["query", "plan", "kind"]
abbrev P_need_asked : List Str := ["query", "plan", "kind"]
theorem sc_need_asked : FnScope N_need_asked P_need_asked (defScope s_need_asked) := ⟨rfl, rfl, rfl, by decide +kernel, rfl, by decide +kernel, by decide +kernel⟩
abbrev s_steps : Stmt := topS 50
abbrev N_steps : List Str := ["query", "plan", "kind"]
abbrev P_steps : List Str := ["query", "plan", "kind"]
theorem sc_steps : FnScope N_steps P_steps (defScope s_steps) := ⟨rfl, rfl, rfl, by decide +kernel, rfl, by decide +kernel, by decide +kernel⟩
abbrev s_reached_from : Stmt := topS 51
abbrev N_reached_from : List Str := ["query", "kind", "plan", "found", "layer", "further", "here", "one"]
abbrev P_reached_from : List Str := ["query", "kind", "plan"]
theorem sc_reached_from : FnScope N_reached_from P_reached_from (defScope s_reached_from) := ⟨rfl, rfl, rfl, by decide +kernel, rfl, by decide +kernel, by decide +kernel⟩
abbrev s_reached : Stmt := topS 52
abbrev N_reached : List Str := ["query", "plan", "kind"]
abbrev P_reached : List Str := ["query", "plan", "kind"]
theorem sc_reached : FnScope N_reached P_reached (defScope s_reached) := ⟨rfl, rfl, rfl, by decide +kernel, rfl, by decide +kernel, by decide +kernel⟩
abbrev s_shortest_way : Stmt := topS 53
abbrev N_shortest_way : List Str := ["query", "plan", "other", "kind", "ahead", "found"]
abbrev P_shortest_way : List Str := ["query", "plan", "other", "kind"]
theorem sc_shortest_way : FnScope N_shortest_way P_shortest_way (defScope s_shortest_way) := ⟨rfl, rfl, rfl, by decide +kernel, rfl, by decide +kernel, by decide +kernel⟩
abbrev s__law_mixed : Stmt := topS 55
abbrev N__law_mixed : List Str := ["_law_cell", "_law_n", "_law_blend"]
abbrev P__law_mixed : List Str := ["_law_cell", "_law_n"]
theorem sc__law_mixed : FnScope N__law_mixed P__law_mixed (defScope s__law_mixed) := ⟨rfl, rfl, rfl, by decide +kernel, rfl, by decide +kernel, by decide +kernel⟩
abbrev s__law_folded : Stmt := topS 56
abbrev N__law_folded : List Str := ["_law_script", "_law_found", "_law_n", "_law_cell"]
abbrev P__law_folded : List Str := ["_law_script"]
theorem sc__law_folded : FnScope N__law_folded P__law_folded (defScope s__law_folded) := ⟨rfl, rfl, rfl, by decide +kernel, rfl, by decide +kernel, by decide +kernel⟩
abbrev s__law_draw : Stmt := topS 57
abbrev N__law_draw : List Str := ["_law_m", "_law_limit", "_law_n", "_law_lot", "_law_here", "_law_cell"]
abbrev P__law_draw : List Str := ["_law_m", "_law_limit"]
theorem sc__law_draw : FnScope N__law_draw P__law_draw (defScope s__law_draw) := ⟨rfl, rfl, rfl, by decide +kernel, rfl, by decide +kernel, by decide +kernel⟩
abbrev s__law_begun : Stmt := topS 58
abbrev N__law_begun : List Str := ["_law_script", "_law_m", "_law_cell"]
abbrev P__law_begun : List Str := ["_law_script"]
theorem sc__law_begun : FnScope N__law_begun P__law_begun (defScope s__law_begun) := ⟨rfl, rfl, rfl, by decide +kernel, rfl, by decide +kernel, by decide +kernel⟩
abbrev s__law_like : Stmt := topS 59
abbrev N__law_like : List Str := ["_law_heard", "_law_due"]
abbrev P__law_like : List Str := ["_law_heard", "_law_due"]
theorem sc__law_like : FnScope N__law_like P__law_like (defScope s__law_like) := ⟨rfl, rfl, rfl, by decide +kernel, rfl, by decide +kernel, by decide +kernel⟩
abbrev s__law_values : Stmt := topS 60
abbrev N__law_values : List Str := ["_law_m", "_law_most", "_law_k"]
abbrev P__law_values : List Str := ["_law_m", "_law_most"]
theorem sc__law_values : FnScope N__law_values P__law_values (defScope s__law_values) := ⟨rfl, rfl, rfl, by decide +kernel, rfl, by decide +kernel, by decide +kernel⟩
abbrev s__law_asked : Stmt := topS 61
abbrev N__law_asked : List Str := ["_law_m", "_law_tables", "_law_wide", "_law_most_so", "_law_unknown_so", "_law_left", "_law_sizes", "_law_links", "_law_k", "_law_row", "_law_j", "_law_prices"]
abbrev P__law_asked : List Str := ["_law_m", "_law_tables", "_law_wide", "_law_most_so", "_law_unknown_so"]
theorem sc__law_asked : FnScope N__law_asked P__law_asked (defScope s__law_asked) := ⟨rfl, rfl, rfl, by decide +kernel, rfl, by decide +kernel, by decide +kernel⟩
abbrev s__law_scheme : Stmt := topS 62
abbrev N__law_scheme : List Str := ["_law_m", "_law_some", "_law_near", "_law_far", "_law_k", "_law_how"]
abbrev P__law_scheme : List Str := ["_law_m", "_law_some"]
theorem sc__law_scheme : FnScope N__law_scheme P__law_scheme (defScope s__law_scheme) := ⟨rfl, rfl, rfl, by decide +kernel, rfl, by decide +kernel, by decide +kernel⟩
abbrev s__law_parts : Stmt := topS 63
abbrev N__law_parts : List Str := ["_law_scheme_here"]
abbrev P__law_parts : List Str := ["_law_scheme_here"]
theorem sc__law_parts : FnScope N__law_parts P__law_parts (defScope s__law_parts) := ⟨rfl, rfl, rfl, by decide +kernel, rfl, by decide +kernel, by decide +kernel⟩
abbrev s__law_met : Stmt := topS 64
abbrev N__law_met : List Str := ["_law_asked_here", "_law_near", "_law_far", "_law_one", "_law_other", "_law_fits"]
abbrev P__law_met : List Str := ["_law_asked_here", "_law_near", "_law_far"]
theorem sc__law_met : FnScope N__law_met P__law_met (defScope s__law_met) := ⟨rfl, rfl, rfl, by decide +kernel, rfl, by decide +kernel, by decide +kernel⟩
abbrev s__law_no_cross : Stmt := topS 65
abbrev N__law_no_cross : List Str := ["_law_asked_here", "_law_scheme_here"]
abbrev P__law_no_cross : List Str := ["_law_asked_here", "_law_scheme_here"]
theorem sc__law_no_cross : FnScope N__law_no_cross P__law_no_cross (defScope s__law_no_cross) := ⟨rfl, rfl, rfl, by decide +kernel, rfl, by decide +kernel, by decide +kernel⟩
abbrev s__law_spelling : Stmt := topS 66
abbrev N__law_spelling : List Str := ["_law_scheme_here"]
abbrev P__law_spelling : List Str := ["_law_scheme_here"]
theorem sc__law_spelling : FnScope N__law_spelling P__law_spelling (defScope s__law_spelling) := ⟨rfl, rfl, rfl, by decide +kernel, rfl, by decide +kernel, by decide +kernel⟩
abbrev s__law_is_probed_right : Stmt := topS 67
abbrev N__law_is_probed_right : List Str := ["_law_scheme_here"]
abbrev P__law_is_probed_right : List Str := ["_law_scheme_here"]
theorem sc__law_is_probed_right : FnScope N__law_is_probed_right P__law_is_probed_right (defScope s__law_is_probed_right) := ⟨rfl, rfl, rfl, by decide +kernel, rfl, by decide +kernel, by decide +kernel⟩
abbrev s__law_changed : Stmt := topS 68
abbrev N__law_changed : List Str := ["_law_scheme_here", "_law_how", "_law_near", "_law_far", "_law_found", "_law_word", "_law_one"]
abbrev P__law_changed : List Str := ["_law_scheme_here"]
theorem sc__law_changed : FnScope N__law_changed P__law_changed (defScope s__law_changed) := ⟨rfl, rfl, rfl, by decide +kernel, rfl, by decide +kernel, by decide +kernel⟩
abbrev s__law_steps : Stmt := topS 69
abbrev N__law_steps : List Str := ["_law_asked_here", "_law_sort", "_law_scheme_here", "_law_table", "_law_one"]
abbrev P__law_steps : List Str := ["_law_asked_here", "_law_sort", "_law_scheme_here"]
theorem sc__law_steps : FnScope N__law_steps P__law_steps (defScope s__law_steps) := ⟨rfl, rfl, rfl, by decide +kernel, rfl, by decide +kernel, by decide +kernel⟩
abbrev s__law_linked_scheme : Stmt := topS 70
abbrev N__law_linked_scheme : List Str := ["_law_m", "_law_asked_here", "_law_some", "_law_good", "_law_k", "_law_one"]
abbrev P__law_linked_scheme : List Str := ["_law_m", "_law_asked_here"]
theorem sc__law_linked_scheme : FnScope N__law_linked_scheme P__law_linked_scheme (defScope s__law_linked_scheme) := ⟨rfl, rfl, rfl, by decide +kernel, rfl, by decide +kernel, by decide +kernel⟩
abbrev s__law_all_from : Stmt := topS 71
abbrev N__law_all_from : List Str := ["_law_asked_here", "_law_sort", "_law_scheme_here", "_law_found", "_law_layer", "_law_fresh", "_law_here", "_law_one"]
abbrev P__law_all_from : List Str := ["_law_asked_here", "_law_sort", "_law_scheme_here"]
theorem sc__law_all_from : FnScope N__law_all_from P__law_all_from (defScope s__law_all_from) := ⟨rfl, rfl, rfl, by decide +kernel, rfl, by decide +kernel, by decide +kernel⟩
abbrev s__law_row_right : Stmt := topS 72
abbrev N__law_row_right : List Str := ["_law_asked_here", "_law_sort", "_law_row_so", "_law_first", "_law_last", "_law_many", "_law_one", "_law_two"]
abbrev P__law_row_right : List Str := ["_law_asked_here", "_law_sort", "_law_row_so", "_law_first", "_law_last", "_law_many"]
theorem sc__law_row_right : FnScope N__law_row_right P__law_row_right (defScope s__law_row_right) := ⟨rfl, rfl, rfl, by decide +kernel, rfl, by decide +kernel, by decide +kernel⟩
abbrev s__law_far_right : Stmt := topS 73
abbrev N__law_far_right : List Str := ["_law_m", "_law_asked_here", "_law_scheme_here", "_law_sort", "_law_every", "_law_goal", "_law_row_so"]
abbrev P__law_far_right : List Str := ["_law_m", "_law_asked_here", "_law_scheme_here", "_law_sort"]
theorem sc__law_far_right : FnScope N__law_far_right P__law_far_right (defScope s__law_far_right) := ⟨rfl, rfl, rfl, by decide +kernel, rfl, by decide +kernel, by decide +kernel⟩
abbrev s_law : Stmt := topS 74
abbrev N_law : List Str := ["_law_script", "_law_m", "_law_turn", "_law_asked_here", "_law_scheme_here", "_law_sort", "_law_due", "_law_one", "_law_two", "_law_three", "_law_told", "_law_four"]
abbrev P_law : List Str := ["_law_script"]
theorem sc_law : FnScope N_law P_law (defScope s_law) := ⟨rfl, rfl, rfl, by decide +kernel, rfl, by decide +kernel, by decide +kernel⟩
end Pc
namespace Pc
open PySem PySem.Spec PyProof.Rows L2
/-! the head: what the top has written, read by a Hook -/
def d_is_whole : He.DefD := ⟨("is_whole", none), "is_whole", "is_whole", defArgs s_is_whole, defBody s_is_whole, defScope s_is_whole, [], []⟩
def d_are_rising : He.DefD := ⟨("are_rising", none), "are_rising", "are_rising", defArgs s_are_rising, defBody s_are_rising, defScope s_are_rising, [], []⟩
def d_are_values : He.DefD := ⟨("are_values", none), "are_values", "are_values", defArgs s_are_values, defBody s_are_values, defScope s_are_values, [], []⟩
def d_is_link : He.DefD := ⟨("is_link", none), "is_link", "is_link", defArgs s_is_link, defBody s_is_link, defScope s_is_link, [], []⟩
def d_need_links : He.DefD := ⟨("need_links", none), "need_links", "need_links", defArgs s_need_links, defBody s_need_links, defScope s_need_links, [], []⟩
def d_need_prices : He.DefD := ⟨("need_prices", none), "need_prices", "need_prices", defArgs s_need_prices, defBody s_need_prices, defScope s_need_prices, [], []⟩
def d_values_of : He.DefD := ⟨("values_of", none), "values_of", "values_of", defArgs s_values_of, defBody s_values_of, defScope s_values_of, [], []⟩
def d_unknown_in : He.DefD := ⟨("unknown_in", none), "unknown_in", "unknown_in", defArgs s_unknown_in, defBody s_unknown_in, defScope s_unknown_in, [], []⟩
def d_need_query : He.DefD := ⟨("need_query", none), "need_query", "need_query", defArgs s_need_query, defBody s_need_query, defScope s_need_query, [], []⟩
def d_need_kind : He.DefD := ⟨("need_kind", none), "need_kind", "need_kind", defArgs s_need_kind, defBody s_need_kind, defScope s_need_kind, [], []⟩
def d_are_joined : He.DefD := ⟨("are_joined", none), "are_joined", "are_joined", defArgs s_are_joined, defBody s_are_joined, defScope s_are_joined, [], []⟩
def d_is_table : He.DefD := ⟨("is_table", none), "is_table", "is_table", defArgs s_is_table, defBody s_is_table, defScope s_is_table, [], []⟩
def d_tables_of : He.DefD := ⟨("tables_of", none), "tables_of", "tables_of", defArgs s_tables_of, defBody s_tables_of, defScope s_tables_of, [], []⟩
def d_is_part : He.DefD := ⟨("is_part", none), "is_part", "is_part", defArgs s_is_part, defBody s_is_part, defScope s_is_part, [], []⟩
def d_need_plan : He.DefD := ⟨("need_plan", none), "need_plan", "need_plan", defArgs s_need_plan, defBody s_need_plan, defScope s_need_plan, [], []⟩
def d_nodes_of : He.DefD := ⟨("nodes_of", none), "nodes_of", "nodes_of", defArgs s_nodes_of, defBody s_nodes_of, defScope s_nodes_of, [], []⟩
def d_crossed_nodes : He.DefD := ⟨("crossed_nodes", none), "crossed_nodes", "crossed_nodes", defArgs s_crossed_nodes, defBody s_crossed_nodes, defScope s_crossed_nodes, [], []⟩
def d_ways_at : He.DefD := ⟨("ways_at", none), "ways_at", "ways_at", defArgs s_ways_at, defBody s_ways_at, defScope s_ways_at, [], []⟩
def d_turned_at : He.DefD := ⟨("turned_at", none), "turned_at", "turned_at", defArgs s_turned_at, defBody s_turned_at, defScope s_turned_at, [], []⟩
def d_leaned_at : He.DefD := ⟨("leaned_at", none), "leaned_at", "leaned_at", defArgs s_leaned_at, defBody s_leaned_at, defScope s_leaned_at, [], []⟩
def d_is_good : He.DefD := ⟨("is_good", none), "is_good", "is_good", defArgs s_is_good, defBody s_is_good, defScope s_is_good, [], []⟩
def d_changed_at : He.DefD := ⟨("changed_at", none), "changed_at", "changed_at", defArgs s_changed_at, defBody s_changed_at, defScope s_changed_at, [], []⟩
def d_changed_in : He.DefD := ⟨("changed_in", none), "changed_in", "changed_in", defArgs s_changed_in, defBody s_changed_in, defScope s_changed_in, [], []⟩
def d_order_of : He.DefD := ⟨("order_of", none), "order_of", "order_of", defArgs s_order_of, defBody s_order_of, defScope s_order_of, [], []⟩
def d_steps_of : He.DefD := ⟨("steps_of", none), "steps_of", "steps_of", defArgs s_steps_of, defBody s_steps_of, defScope s_steps_of, [], []⟩
def d_need_asked : He.DefD := ⟨("need_asked", none), "need_asked", "need_asked", defArgs s_need_asked, defBody s_need_asked, defScope s_need_asked, [], []⟩
def d_steps : He.DefD := ⟨("steps", none), "steps", "steps", defArgs s_steps, defBody s_steps, defScope s_steps, [], []⟩
def d_reached_from : He.DefD := ⟨("reached_from", none), "reached_from", "reached_from", defArgs s_reached_from, defBody s_reached_from, defScope s_reached_from, [], []⟩
def d_reached : He.DefD := ⟨("reached", none), "reached", "reached", defArgs s_reached, defBody s_reached, defScope s_reached, [], []⟩
def d_shortest_way : He.DefD := ⟨("shortest_way", none), "shortest_way", "shortest_way", defArgs s_shortest_way, defBody s_shortest_way, defScope s_shortest_way, [], []⟩
def d__law_mixed : He.DefD := ⟨("_law_mixed", none), "_law_mixed", "_law_mixed", defArgs s__law_mixed, defBody s__law_mixed, defScope s__law_mixed, [], []⟩
def d__law_folded : He.DefD := ⟨("_law_folded", none), "_law_folded", "_law_folded", defArgs s__law_folded, defBody s__law_folded, defScope s__law_folded, [], []⟩
def d__law_draw : He.DefD := ⟨("_law_draw", none), "_law_draw", "_law_draw", defArgs s__law_draw, defBody s__law_draw, defScope s__law_draw, [], []⟩
def d__law_begun : He.DefD := ⟨("_law_begun", none), "_law_begun", "_law_begun", defArgs s__law_begun, defBody s__law_begun, defScope s__law_begun, [], []⟩
def d__law_like : He.DefD := ⟨("_law_like", none), "_law_like", "_law_like", defArgs s__law_like, defBody s__law_like, defScope s__law_like, [], []⟩
def d__law_values : He.DefD := ⟨("_law_values", none), "_law_values", "_law_values", defArgs s__law_values, defBody s__law_values, defScope s__law_values, [], []⟩
def d__law_asked : He.DefD := ⟨("_law_asked", none), "_law_asked", "_law_asked", defArgs s__law_asked, defBody s__law_asked, defScope s__law_asked, [], []⟩
def d__law_scheme : He.DefD := ⟨("_law_scheme", none), "_law_scheme", "_law_scheme", defArgs s__law_scheme, defBody s__law_scheme, defScope s__law_scheme, [], []⟩
def d__law_parts : He.DefD := ⟨("_law_parts", none), "_law_parts", "_law_parts", defArgs s__law_parts, defBody s__law_parts, defScope s__law_parts, [], []⟩
def d__law_met : He.DefD := ⟨("_law_met", none), "_law_met", "_law_met", defArgs s__law_met, defBody s__law_met, defScope s__law_met, [], []⟩
def d__law_no_cross : He.DefD := ⟨("_law_no_cross", none), "_law_no_cross", "_law_no_cross", defArgs s__law_no_cross, defBody s__law_no_cross, defScope s__law_no_cross, [], []⟩
def d__law_spelling : He.DefD := ⟨("_law_spelling", none), "_law_spelling", "_law_spelling", defArgs s__law_spelling, defBody s__law_spelling, defScope s__law_spelling, [], []⟩
def d__law_is_probed_right : He.DefD := ⟨("_law_is_probed_right", none), "_law_is_probed_right", "_law_is_probed_right", defArgs s__law_is_probed_right, defBody s__law_is_probed_right, defScope s__law_is_probed_right, [], []⟩
def d__law_changed : He.DefD := ⟨("_law_changed", none), "_law_changed", "_law_changed", defArgs s__law_changed, defBody s__law_changed, defScope s__law_changed, [], []⟩
def d__law_steps : He.DefD := ⟨("_law_steps", none), "_law_steps", "_law_steps", defArgs s__law_steps, defBody s__law_steps, defScope s__law_steps, [], []⟩
def d__law_linked_scheme : He.DefD := ⟨("_law_linked_scheme", none), "_law_linked_scheme", "_law_linked_scheme", defArgs s__law_linked_scheme, defBody s__law_linked_scheme, defScope s__law_linked_scheme, [], []⟩
def d__law_all_from : He.DefD := ⟨("_law_all_from", none), "_law_all_from", "_law_all_from", defArgs s__law_all_from, defBody s__law_all_from, defScope s__law_all_from, [], []⟩
def d__law_row_right : He.DefD := ⟨("_law_row_right", none), "_law_row_right", "_law_row_right", defArgs s__law_row_right, defBody s__law_row_right, defScope s__law_row_right, [], []⟩
def d__law_far_right : He.DefD := ⟨("_law_far_right", none), "_law_far_right", "_law_far_right", defArgs s__law_far_right, defBody s__law_far_right, defScope s__law_far_right, [], []⟩
def d_law : He.DefD := ⟨("law", none), "law", "law", defArgs s_law, defBody s_law, defScope s_law, [], []⟩
def fn0 : List He.DefD := [d_is_whole, d_are_rising, d_are_values, d_is_link, d_need_links, d_need_prices, d_values_of, d_unknown_in, d_need_query, d_need_kind, d_are_joined, d_is_table, d_tables_of, d_is_part, d_need_plan, d_nodes_of, d_crossed_nodes, d_ways_at, d_turned_at, d_leaned_at, d_is_good, d_changed_at, d_changed_in, d_order_of, d_steps_of]
def fn1 : List He.DefD := [d_need_asked, d_steps, d_reached_from, d_reached, d_shortest_way, d__law_mixed, d__law_folded, d__law_draw, d__law_begun, d__law_like, d__law_values, d__law_asked, d__law_scheme, d__law_parts, d__law_met, d__law_no_cross, d__law_spelling, d__law_is_probed_right, d__law_changed, d__law_steps, d__law_linked_scheme, d__law_all_from, d__law_row_right, d__law_far_right, d_law]
def fnAll : List He.DefD := fn0 ++ fn1
def fa0 : List He.Fa := [.glo "is_whole", .glo "are_rising", .glo "are_values", .glo "is_link", .glo "need_links", .glo "need_prices", .glo "values_of", .glo "unknown_in", .glo "need_query", .glo "need_kind", .glo "are_joined", .glo "is_table", .glo "tables_of", .glo "is_part", .glo "need_plan", .glo "nodes_of", .glo "crossed_nodes", .glo "ways_at", .glo "turned_at", .glo "leaned_at", .glo "is_good", .glo "changed_at", .glo "changed_in", .glo "order_of", .glo "steps_of"]
def fa1 : List He.Fa := [.glo "need_asked", .glo "steps", .glo "reached_from", .glo "reached", .glo "shortest_way", .glo "_law_mixed", .glo "_law_folded", .glo "_law_draw", .glo "_law_begun", .glo "_law_like", .glo "_law_values", .glo "_law_asked", .glo "_law_scheme", .glo "_law_parts", .glo "_law_met", .glo "_law_no_cross", .glo "_law_spelling", .glo "_law_is_probed_right", .glo "_law_changed", .glo "_law_steps", .glo "_law_linked_scheme", .glo "_law_all_from", .glo "_law_row_right", .glo "_law_far_right", .glo "law"]
def fa2 : List He.Fa := [.glo "WAYS", .free "isinstance", .free "int", .free "bool", .free "tuple", .free "str", .free "list", .free "len", .free "all", .free "zip", .free "range", .free "enumerate", .free "sorted", .free "set", .free "repr", .int "MOST_TABLES" 5, .int "MOST_LINKS" 6, .int "MOST_VALUES" 3, .int "MOST_ROWS" 1000000000, .int "MOST_FITS" 100, .int "MOST_PRICE" 100, .int "MOST_UNKNOWN" 6, .str "KIND_ANY" "any", .str "KIND_LINKED" "linked", .str "NESTED" "nested"]
def fa3 : List He.Fa := [.str "HASHED" "hashed", .str "PROBED" "probed", .int "MOST_REACHED" 20000]
def faAll : List He.Fa := fa0 ++ fa1 ++ fa2 ++ fa3
def tfAll : List He.Defn := [("_law_steps", none)]
def exAll : PySem.W.Frag → Bool := fun K => He.tupB K "WAYS" [.str "hashed", .str "nested", .str "probed"]
abbrev R : PySem.W.OpenRow := PySem.W.OpenLaw.row PySem.Challenge.rw_plancorners_k09_whole_steps
abbrev hk : PySem.W.Hook := He.hookX 4 faAll fnAll [] tfAll exAll
def ob (s : PySem.W.SharedT) : He.AlX := He.obsX 4 faAll fnAll [] tfAll exAll (HandSHeadRun.getT s)
theorem ob_eq (s : PySem.W.SharedT) : ob s = hk.obs s.abs := He.obsX_eq (HandSHeadRun.getT_eq s)
def looseAll : List Str := (["PlanError", "BadQuery", "BadPlan", "BadKind", "TooGreat", "MOST_TABLES", "MOST_LINKS", "MOST_VALUES", "MOST_ROWS", "MOST_FITS", "MOST_PRICE", "MOST_UNKNOWN", "KIND_ANY", "KIND_LINKED", "is_whole", "are_rising", "are_values", "is_link", "need_links", "need_prices", "values_of", "unknown_in", "need_query", "need_kind", "are_joined", "NESTED", "HASHED", "PROBED", "WAYS", "is_table"] : List Str) ++ (["tables_of", "is_part", "need_plan", "nodes_of", "crossed_nodes", "MOST_REACHED", "ways_at", "turned_at", "leaned_at", "is_good", "changed_at", "changed_in", "order_of", "steps_of", "need_asked", "steps", "reached_from", "reached", "shortest_way", "_law_mixed", "_law_folded", "_law_draw", "_law_begun", "_law_like", "_law_values", "_law_asked", "_law_scheme", "_law_parts", "_law_met", "_law_no_cross"] : List Str) ++ (["_law_spelling", "_law_is_probed_right", "_law_changed", "_law_steps", "_law_linked_scheme", "_law_all_from", "_law_row_right", "_law_far_right"] : List Str)
theorem run (w : World) : HandSHeadRun.RunEq R (PySem.W.view R.prog [74]) hk ob 8000 looseAll w := by
  intro os
  kernel_rfl
end Pc
/-! data at values, what a reading evaluates to as data, statements over it -/
namespace Pc
open PySem PySem.Spec PyProof.Rows L2
open Evl (Ex EvT)
open StX (tStar pa_star)

/-! ### data: tracked lists and tuples, nested -/
mutual
inductive Dt (H : Hp) : V → PyData → Prop
  | non : Dt H .non .none
  | bl (b : Bool) : Dt H (.bl b) (.bool b)
  | int (i : Int) : Dt H (.int i) (.int i)
  | str (x : Str) : Dt H (.str x) (.str x)
  | lst {a : Addr} {xs : List V} {ds : List PyData} (h : H a = some (.lst xs)) (k : DtAll H xs ds) : Dt H (.ref a) (.list ds)
  | tup {a : Addr} {xs : List V} {ds : List PyData} (h : H a = some (.tup xs)) (k : DtAll H xs ds) : Dt H (.ref a) (.tuple ds)
inductive DtAll (H : Hp) : List V → List PyData → Prop
  | nil : DtAll H [] []
  | cons {v : V} {vs : List V} {d : PyData} {ds : List PyData} (h : Dt H v d) (k : DtAll H vs ds) : DtAll H (v :: vs) (d :: ds)
end

/-- lists without their objects' kinds told apart: what stays while lists and tuples stay -/
def ExS (H H' : Hp) : Prop := (∀ a xs, H a = some (.tup xs) → H' a = some (.tup xs)) ∧ ∀ a xs, H a = some (.lst xs) → H' a = some (.lst xs)
theorem ExS.of {H H' : Hp} (e : Ex H H') : ExS H H' := ⟨fun a xs h => e a _ h, fun a xs h => e a _ h⟩
mutual
theorem Dt.monoS {H H' : Hp} (e : ExS H H') : ∀ {d : PyData} {v : V}, Dt H v d → Dt H' v d
  | .none, _, h => by cases h; exact .non
  | .bool _, _, h => by cases h; exact .bl _
  | .int _, _, h => by cases h; exact .int _
  | .str _, _, h => by cases h; exact .str _
  | .list ds, _, h => by
    cases h with
    | lst h k => exact .lst (e.2 _ _ h) (DtAll.monoS e k)
  | .tuple ds, _, h => by
    cases h with
    | tup h k => exact .tup (e.1 _ _ h) (DtAll.monoS e k)
  | .dict _, _, h => by cases h
theorem DtAll.monoS {H H' : Hp} (e : ExS H H') : ∀ {ds : List PyData} {vs : List V}, DtAll H vs ds → DtAll H' vs ds
  | [], _, h => by cases h; exact .nil
  | d :: ds, _, h => by
    cases h with
    | cons h k => exact .cons (Dt.monoS e h) (DtAll.monoS e k)
end
theorem Dt.mono {H H' : Hp} {v : V} {d : PyData} (h : Dt H v d) (e : Ex H H') : Dt H' v d := h.monoS (.of e)
theorem DtAll.mono {H H' : Hp} {vs : List V} {ds : List PyData} (h : DtAll H vs ds) (e : Ex H H') : DtAll H' vs ds := h.monoS (.of e)
mutual
/-- no list within -/
def tupOnly : PyData → Bool
  | .none | .bool _ | .int _ | .str _ => true
  | .tuple ds => tupOnlyAll ds
  | .list _ | .dict _ => false
def tupOnlyAll : List PyData → Bool
  | [] => true
  | d :: ds => tupOnly d && tupOnlyAll ds
end
/-- the tuples stay -/
def ExT (H H' : Hp) : Prop := ∀ a xs, H a = some (.tup xs) → H' a = some (.tup xs)
mutual
theorem Dt.monoT {H H' : Hp} (e : ExT H H') : ∀ {d : PyData} {v : V}, tupOnly d = true → Dt H v d → Dt H' v d
  | .none, _, _, h => by cases h; exact .non
  | .bool _, _, _, h => by cases h; exact .bl _
  | .int _, _, _, h => by cases h; exact .int _
  | .str _, _, _, h => by cases h; exact .str _
  | .list ds, _, t, h => by simp [tupOnly] at t
  | .tuple ds, _, t, h => by
    cases h with
    | tup h k => exact .tup (e _ _ h) (DtAll.monoT e (by simpa [tupOnly] using t) k)
  | .dict _, _, _, h => by cases h
theorem DtAll.monoT {H H' : Hp} (e : ExT H H') : ∀ {ds : List PyData} {vs : List V}, tupOnlyAll ds = true → DtAll H vs ds → DtAll H' vs ds
  | [], _, _, h => by cases h; exact .nil
  | d :: ds, _, t, h => by
    rw [tupOnlyAll, Bool.and_eq_true] at t
    cases h with
    | cons h k => exact .cons (Dt.monoT e t.1 h) (DtAll.monoT e t.2 k)
end
mutual
theorem Dt.dp {H : Hp} (K : PySem.W.Frag) : ∀ {d : PyData} {v : V}, Dt H v d → Dp K H v d
  | .none, _, h => by cases h; exact .non
  | .bool _, _, h => by cases h; exact .bl _
  | .int _, _, h => by cases h; exact .int _
  | .str _, _, h => by cases h; exact .str _
  | .list ds, _, h => by
    cases h with
    | lst h k => exact .lst (SqL.of h) (DtAll.dp K k)
  | .tuple ds, _, h => by
    cases h with
    | tup h k => exact .tup (SqT.of h) (DtAll.dp K k)
  | .dict _, _, h => by cases h
theorem DtAll.dp {H : Hp} (K : PySem.W.Frag) : ∀ {ds : List PyData} {vs : List V}, DtAll H vs ds → DpAll K H vs ds
  | [], _, h => by cases h; exact .nil
  | d :: ds, _, h => by
    cases h with
    | cons h k => exact .cons (Dt.dp K h) (DtAll.dp K k)
end
theorem DtAll.length {H : Hp} : ∀ {ds : List PyData} {vs : List V}, DtAll H vs ds → vs.length = ds.length
  | [], _, h => by cases h; rfl
  | d :: ds, _, h => by
    cases h with
    | cons h k => exact congrArg Nat.succ (DtAll.length k)
theorem DtAll.append {H : Hp} : ∀ {ds es : List PyData} {vs ws : List V}, DtAll H vs ds → DtAll H ws es → DtAll H (vs ++ ws) (ds ++ es)
  | [], _, _, _, h, g => by cases h; exact g
  | d :: ds, _, _, _, h, g => by
    cases h with
    | cons h k => exact .cons h (DtAll.append k g)
theorem DtAll.get {H : Hp} : ∀ {ds : List PyData} {vs : List V} {i : Nat} {v : V}, DtAll H vs ds → vs[i]? = some v → ∃ d, ds[i]? = some d ∧ Dt H v d
  | [], _, _, _, h, e => by cases h; simp at e
  | d :: ds, _, 0, _, h, e => by
    cases h with
    | cons h k =>
      simp at e
      subst e
      exact ⟨d, rfl, h⟩
  | d :: ds, _, i + 1, _, h, e => by
    cases h with
    | cons h k => exact DtAll.get (i := i) k (by simpa using e)
theorem DtAll.at {H : Hp} {ds : List PyData} {vs : List V} {i : Nat} {d : PyData} (h : DtAll H vs ds) (e : ds[i]? = some d) : ∃ v, vs[i]? = some v ∧ Dt H v d := by
  obtain ⟨hi, _⟩ := List.getElem?_eq_some_iff.mp e
  have hv : i < vs.length := by rw [h.length]; exact hi
  obtain ⟨d', e', q⟩ := h.get (List.getElem?_eq_getElem hv)
  rw [e] at e'
  cases e'
  exact ⟨_, List.getElem?_eq_getElem hv, q⟩
theorem DtAll.take {H : Hp} : ∀ {ds : List PyData} {vs : List V} (n : Nat), DtAll H vs ds → DtAll H (vs.take n) (ds.take n)
  | [], _, n, h => by cases h; simp; exact .nil
  | d :: ds, _, 0, h => .nil
  | d :: ds, _, n + 1, h => by
    cases h with
    | cons h k => exact .cons h (DtAll.take n k)
theorem DtAll.drop {H : Hp} : ∀ {ds : List PyData} {vs : List V} (n : Nat), DtAll H vs ds → DtAll H (vs.drop n) (ds.drop n)
  | [], _, n, h => by cases h; simp; exact .nil
  | d :: ds, _, 0, h => h
  | d :: ds, _, n + 1, h => by
    cases h with
    | cons h k => exact DtAll.drop n k
theorem DtAll.one {H : Hp} {v : V} {d : PyData} (h : Dt H v d) : DtAll H [v] [d] := .cons h .nil
theorem DtAll.reverse {H : Hp} : ∀ {ds : List PyData} {vs : List V}, DtAll H vs ds → DtAll H vs.reverse ds.reverse
  | [], _, h => by cases h; exact .nil
  | d :: ds, _, h => by
    cases h with
    | cons h k =>
      rw [List.reverse_cons, List.reverse_cons]
      exact (DtAll.reverse k).append (.one h)
theorem dt_int {H : Hp} {v : V} {i : Int} (h : Dt H v (.int i)) : v = .int i := by cases h; rfl
theorem dt_bl {H : Hp} {v : V} {b : Bool} (h : Dt H v (.bool b)) : v = .bl b := by cases h; rfl
theorem dt_str {H : Hp} {v : V} {x : Str} (h : Dt H v (.str x)) : v = .str x := by cases h; rfl
theorem dt_non {H : Hp} {v : V} (h : Dt H v .none) : v = .non := by cases h; rfl
theorem dt_lst {H : Hp} {v : V} {ds : List PyData} (h : Dt H v (.list ds)) : ∃ a xs, v = .ref a ∧ H a = some (.lst xs) ∧ DtAll H xs ds := by
  cases h with
  | lst h k => exact ⟨_, _, rfl, h, k⟩
theorem dt_tup {H : Hp} {v : V} {ds : List PyData} (h : Dt H v (.tuple ds)) : ∃ a xs, v = .ref a ∧ H a = some (.tup xs) ∧ DtAll H xs ds := by
  cases h with
  | tup h k => exact ⟨_, _, rfl, h, k⟩
theorem dtAll1 {H : Hp} {vs : List V} {a : PyData} (h : DtAll H vs [a]) : ∃ x, vs = [x] ∧ Dt H x a := by
  cases h with
  | cons h k => cases k; exact ⟨_, rfl, h⟩
theorem dtAll2 {H : Hp} {vs : List V} {a b : PyData} (h : DtAll H vs [a, b]) : ∃ x y, vs = [x, y] ∧ Dt H x a ∧ Dt H y b := by
  cases h with
  | cons h k => obtain ⟨_, rfl, h2⟩ := dtAll1 k; exact ⟨_, _, rfl, h, h2⟩
theorem dtAll3 {H : Hp} {vs : List V} {a b c : PyData} (h : DtAll H vs [a, b, c]) : ∃ x y z, vs = [x, y, z] ∧ Dt H x a ∧ Dt H y b ∧ Dt H z c := by
  cases h with
  | cons h k => obtain ⟨_, _, rfl, h2, h3⟩ := dtAll2 k; exact ⟨_, _, _, rfl, h, h2, h3⟩
theorem dtAll4 {H : Hp} {vs : List V} {a b c d : PyData} (h : DtAll H vs [a, b, c, d]) : ∃ x y z u, vs = [x, y, z, u] ∧ Dt H x a ∧ Dt H y b ∧ Dt H z c ∧ Dt H u d := by
  cases h with
  | cons h k => obtain ⟨_, _, _, rfl, h2, h3, h4⟩ := dtAll3 k; exact ⟨_, _, _, _, rfl, h, h2, h3, h4⟩
theorem dtAll_ints {H : Hp} : ∀ {ns : List Int} {xs : List V}, DtAll H xs (ns.map PyData.int) → xs = ns.map V.int
  | [], _, h => by cases h; rfl
  | n :: ns, _, h => by
    cases h with
    | cons h k => rw [dt_int h, dtAll_ints k]; rfl
theorem dtAll_of_ints {H : Hp} : ∀ {ns : List Int}, DtAll H (ns.map V.int) (ns.map PyData.int)
  | [] => .nil
  | n :: ns => .cons (.int n) dtAll_of_ints
theorem sz5 {n : Nat} (h : n ≤ 100000) : n ≤ sizeLine := Evl.sz_of h

/-! ### readings that evaluate to data -/
/-- from each heap that keeps H on: some value, of which P, in a heap that keeps it on -/
def EvP (te : TE) (σ : L2.St) (H : Hp) (P : V → Hp → Prop) : Prop := ∀ H1, Ex H H1 → ∀ Q : VK, (∀ v H2, Ex H1 H2 → P v H2 → Q v H2) → te σ H1 Q
abbrev EvD (te : TE) (σ : L2.St) (H : Hp) (d : PyData) : Prop := EvP te σ H fun v H2 => Dt H2 v d
def EvAD (ta : TA) (σ : L2.St) (H : Hp) (ds : List PyData) : Prop := ∀ H1, Ex H H1 → ∀ Q : List V → Hp → Prop, (∀ vs H2, Ex H1 H2 → DtAll H2 vs ds → Q vs H2) → ta σ H1 Q
/-- two values' operation, a call, as data -/
def RD (r : R2) (a b d : PyData) : Prop := ∀ H x y, Dt H x a → Dt H y b → ∀ Q : VK, (∀ z H2, Ex H H2 → Dt H2 z d → Q z H2) → r x y H Q
def RCD (r : List V → Hp → VK → Prop) (ds : List PyData) (d : PyData) : Prop := ∀ H vs, DtAll H vs ds → ∀ Q : VK, (∀ z H2, Ex H H2 → Dt H2 z d → Q z H2) → r vs H Q
section
variable {K : PySem.W.Frag} {σ : L2.St} {H H' : Hp} {ta tb tc te : TE} {tt tu : TT} {x y v : V} {a b c d : PyData} {r r' : R2} {P : V → Hp → Prop}
theorem EvP.mono (h : EvP te σ H P) (e : Ex H H') : EvP te σ H' P := fun H1 e1 Q q => h H1 (e.trans e1) Q q
theorem EvAD.mono {t : TA} {ds : List PyData} (h : EvAD t σ H ds) (e : Ex H H') : EvAD t σ H' ds := fun H1 e1 Q q => h H1 (e.trans e1) Q q
theorem evd_var {i : Nat} (h : σ[i]? = some (some v)) (k : Dt H v d) : EvD (tVar i) σ H d := fun H1 e Q q => ⟨v, h, q v H1 (Ex.refl _) (k.mono e)⟩
theorem evd_cc (k : Dt H v d) : EvD (tC v) σ H d := fun H1 e Q q => q v H1 (Ex.refl _) (k.mono e)
theorem evd_cint {i : Int} : EvD (tC (.int i)) σ H (.int i) := evd_cc (.int i)
theorem evd_cstr {x : Str} : EvD (tC (.str x)) σ H (.str x) := evd_cc (.str x)
theorem evd_cbl {b : Bool} : EvD (tC (.bl b)) σ H (.bool b) := evd_cc (.bl b)
theorem evd_cnon : EvD (tC .non) σ H .none := evd_cc .non
theorem EvP.imp {P' : V → Hp → Prop} (h : EvP te σ H P) (k : ∀ v H2, Ex H H2 → P v H2 → P' v H2) : EvP te σ H P' := fun H1 e Q q => h H1 e Q fun v H2 e2 p => q v H2 e2 (k v H2 (e.trans e2) p)
theorem evd_is (h : EvD te σ H a) (e : a = b) : EvD te σ H b := e ▸ h
theorem evd_op (ha : EvD ta σ H a) (hb : EvD tb σ H b) (hr : RD r a b d) : EvD (tOp r ta tb) σ H d := fun H1 e Q q =>
  ha H1 e _ fun x H2 e2 dx => hb H2 (e.trans e2) _ fun y H3 e3 dy => hr H3 x y (dx.mono e3) dy Q fun z H4 e4 dz => q z H4 ((e2.trans e3).trans e4) dz
theorem RD.inl (h : RD r a b d) : RD (fun x y H Q => r x y H Q ∨ r' x y H Q) a b d := fun H x y dx dy Q q => .inl (h H x y dx dy Q q)
theorem RD.inr (h : RD r' a b d) : RD (fun x y H Q => r x y H Q ∨ r' x y H Q) a b d := fun H x y dx dy Q q => .inr (h H x y dx dy Q q)
theorem rd_I0 {g : Int → Int → V} {i j : Int} (k : ∀ H, Dt H (g i j) d) : RD (rI0 g) (.int i) (.int j) d := fun H x y dx dy Q q => ⟨i, j, dt_int dx, dt_int dy, q _ H (Ex.refl _) (k H)⟩
theorem rd_I {C : Int → Int → Prop} {g : Int → Int → V} {i j : Int} (hc : C i j) (k : ∀ H, Dt H (g i j) d) : RD (rI C g) (.int i) (.int j) d := fun H x y dx dy Q q => ⟨i, j, dt_int dx, dt_int dy, hc, q _ H (Ex.refl _) (k H)⟩
theorem ex_new {p : Addr} {o : HO} (h : H p = none) : Ex H (upd H p o) := Ex.new h
theorem rd_cat {xs ys : List PyData} (hz : xs.length + ys.length ≤ 100000) : RD rCat (.list xs) (.list ys) (.list (xs ++ ys)) := fun H x y dx dy Q q => by
  obtain ⟨p, us, rfl, hp, kx⟩ := dt_lst dx
  obtain ⟨p', ws, rfl, hp', ky⟩ := dt_lst dy
  refine ⟨p, p', us, ws, rfl, rfl, hp, hp', sz5 (by rw [kx.length, ky.length]; exact hz), fun n hn => q _ _ (ex_new hn) ?_⟩
  exact .lst upd_same ((kx.append ky).mono (ex_new hn))
theorem rd_catA {xs ys : List PyData} (hz : xs.length + ys.length ≤ 100000) : RD (rCatA K) (.tuple xs) (.tuple ys) (.tuple (xs ++ ys)) := fun H x y dx dy Q q => by
  obtain ⟨p, us, rfl, hp, kx⟩ := dt_tup dx
  obtain ⟨p', ws, rfl, hp', ky⟩ := dt_tup dy
  have lx := kx.length
  have ly := ky.length
  refine ⟨p, p', us, ws, rfl, rfl, SqT.of hp, SqT.of hp', sz5 (by omega), fun e => ?_, fun _ e => ?_, fun _ _ n hn => ?_⟩
  · subst e
    have : xs = [] := List.length_eq_zero_iff.mp lx.symm
    subst this
    exact q _ H (Ex.refl _) dy
  · subst e
    have : ys = [] := List.length_eq_zero_iff.mp ly.symm
    subst this
    rw [List.append_nil] at q
    exact q _ H (Ex.refl _) dx
  · exact q _ _ (ex_new hn) (.tup upd_same ((kx.append ky).mono (ex_new hn)))
theorem rd_ixT {ds : List PyData} {j : Nat} (h : ds[j]? = some d) : RD (rIx K) (.tuple ds) (.int (j : Int)) d := fun H x y dx dy Q q => by
  obtain ⟨p, us, rfl, hp, kx⟩ := dt_tup dx
  obtain ⟨u, hu, k⟩ := kx.at h
  exact .inr (.inl ⟨p, us, j, u, rfl, dt_int dy, SqT.of hp, atI_nat hu, q u H (Ex.refl _) k⟩)
theorem rd_ixL {ds : List PyData} {j : Nat} (h : ds[j]? = some d) : RD (rIx K) (.list ds) (.int (j : Int)) d := fun H x y dx dy Q q => by
  obtain ⟨p, us, rfl, hp, kx⟩ := dt_lst dx
  obtain ⟨u, hu, k⟩ := kx.at h
  exact .inl ⟨p, us, j, u, rfl, dt_int dy, SqL.of hp, atI_nat hu, q u H (Ex.refl _) k⟩
theorem at_back {α : Type} {xs : List α} {w : α} (h : xs[xs.length - 1]? = some w) : atI xs (-1) = some w := by
  have hl : 0 < xs.length := by
    have := (List.getElem?_eq_some_iff.mp h).1
    omega
  unfold atI ixN
  rw [if_neg (by decide), if_pos (by omega)]
  show xs[((-1 : Int) + (xs.length : Int)).toNat]? = some w
  rw [show ((-1 : Int) + (xs.length : Int)).toNat = xs.length - 1 by omega]
  exact h
theorem rd_ixTb {ds : List PyData} (h : ds[ds.length - 1]? = some d) : RD (rIx K) (.tuple ds) (.int (-1)) d := fun H x y dx dy Q q => by
  obtain ⟨p, us, rfl, hp, kx⟩ := dt_tup dx
  obtain ⟨u, hu, k⟩ := kx.at h
  exact .inr (.inl ⟨p, us, -1, u, rfl, dt_int dy, SqT.of hp, at_back (by rw [kx.length]; exact hu), q u H (Ex.refl _) k⟩)
theorem rd_ixLb {ds : List PyData} (h : ds[ds.length - 1]? = some d) : RD (rIx K) (.list ds) (.int (-1)) d := fun H x y dx dy Q q => by
  obtain ⟨p, us, rfl, hp, kx⟩ := dt_lst dx
  obtain ⟨u, hu, k⟩ := kx.at h
  exact .inl ⟨p, us, -1, u, rfl, dt_int dy, SqL.of hp, at_back (by rw [kx.length]; exact hu), q u H (Ex.refl _) k⟩
theorem rd_eqD (ha : SeqAt.shaped a = true) (hb : SeqAt.shaped b = true) : RD (rEqD K) a b (.bool (PyData.eqv a b)) := fun H x y dx dy Q q => ⟨a, b, dx.dp K, dy.dp K, ha, hb, q _ H (Ex.refl _) (.bl _)⟩
theorem rd_neD (ha : SeqAt.shaped a = true) (hb : SeqAt.shaped b = true) : RD (rNeD K) a b (.bool (!PyData.eqv a b)) := fun H x y dx dy Q q => ⟨a, b, dx.dp K, dy.dp K, ha, hb, q _ H (Ex.refl _) (.bl _)⟩
/-- flat data's value -/
def flatD : PyData → Option V
  | .none => some .non
  | .bool b => some (.bl b)
  | .int i => some (.int i)
  | .str x => some (.str x)
  | _ => none
theorem dt_flat {w : V} (h : flatD d = some w) (k : Dt H v d) : v = w ∧ flatV v = true := by
  cases d with
  | none => cases h; cases k; exact ⟨rfl, rfl⟩
  | bool b => cases h; cases k; exact ⟨rfl, rfl⟩
  | int i => cases h; cases k; exact ⟨rfl, rfl⟩
  | str z => cases h; cases k; exact ⟨rfl, rfl⟩
  | _ => cases h
theorem dtAll_flat : ∀ {ds : List PyData} {vs ws : List V}, ds.mapM flatD = some ws → DtAll H vs ds → vs = ws ∧ vs.all flatV = true
  | [], _, ws, h, k => by cases k; cases h; exact ⟨rfl, rfl⟩
  | d :: ds, _, ws, h, k => by
    cases k with
    | cons k1 k2 =>
      rw [List.mapM_cons] at h
      cases e1 : flatD d with
      | none => rw [e1] at h; cases h
      | some w =>
        rw [e1] at h
        cases e2 : ds.mapM flatD with
        | none => rw [e2] at h; cases h
        | some us =>
          rw [e2] at h
          have h' : some (w :: us) = some ws := h
          cases h'
          obtain ⟨q1, q2⟩ := dt_flat e1 k1
          obtain ⟨q3, q4⟩ := dtAll_flat e2 k2
          refine ⟨by rw [q1, q3], ?_⟩
          rw [List.all_cons, q2, q4]
          rfl
theorem rd_inL {neg cb : Bool} {ds : List PyData} {w : V} {ws : List V} (h : flatD a = some w) (hs : ds.mapM flatD = some ws) (hb : (if neg then !inV w ws else inV w ws) = cb) : RD (rIn K neg) a (.list ds) (.bool cb) := fun H x y dx dy Q q => by
  obtain ⟨p, us, rfl, hp, kx⟩ := dt_lst dy
  obtain ⟨q1, q2⟩ := dt_flat h dx
  obtain ⟨q3, q4⟩ := dtAll_flat hs kx
  subst q1 q3
  exact ⟨p, us, rfl, .inl (SqL.of hp), q2, q4, q _ H (Ex.refl _) (by rw [hb]; exact .bl cb)⟩
theorem rd_inT {neg cb : Bool} {ds : List PyData} {w : V} {ws : List V} (h : flatD a = some w) (hs : ds.mapM flatD = some ws) (hb : (if neg then !inV w ws else inV w ws) = cb) : RD (rIn K neg) a (.tuple ds) (.bool cb) := fun H x y dx dy Q q => by
  obtain ⟨p, us, rfl, hp, kx⟩ := dt_tup dy
  obtain ⟨q1, q2⟩ := dt_flat h dx
  obtain ⟨q3, q4⟩ := dtAll_flat hs kx
  subst q1 q3
  exact ⟨p, us, rfl, .inr (SqT.of hp), q2, q4, q _ H (Ex.refl _) (by rw [hb]; exact .bl cb)⟩
/-- in a tuple of the written part -/
theorem evd_inK {neg cb : Bool} {wa : Addr} {w : V} {ws : List V} {t : TE} (ha : EvD ta σ H a) (hK : ∀ H, SqT K H wa ws) (h : flatD a = some w) (hf : ws.all flatV = true) (hb : (if neg then !inV w ws else inV w ws) = cb) : EvD (tOp (rIn K neg) ta (tC (.ref wa))) σ H (.bool cb) := fun H1 e Q q =>
  ha H1 e _ fun x H2 e2 dx => by
    obtain ⟨q1, q2⟩ := dt_flat h dx
    subst q1
    exact ⟨wa, ws, rfl, .inr (hK H2), q2, hf, q _ H2 e2 (by rw [hb]; exact .bl cb)⟩
/-! ### arguments, displays -/
theorem ead_nil : EvAD tNil σ H [] := fun H1 e Q q => q [] H1 (Ex.refl _) .nil
theorem ead_cons {t : TA} {ds : List PyData} (h : EvD te σ H d) (k : EvAD t σ H ds) : EvAD (tCons te t) σ H (d :: ds) := fun H1 e Q q =>
  h H1 e _ fun x H2 e2 dx => k H2 (e.trans e2) _ fun xs H3 e3 dxs => q _ H3 (e2.trans e3) (.cons (dx.mono e3) dxs)
theorem ead_starT {t : TA} {ds es : List PyData} (h : EvD te σ H (.tuple es)) (k : EvAD t σ H ds) : EvAD (tStar K te t) σ H (es ++ ds) := fun H1 e Q q =>
  h H1 e _ fun x H2 e2 dx => by
    obtain ⟨p, us, rfl, hp, kx⟩ := dt_tup dx
    exact ⟨p, us, rfl, .inl (SqT.of hp), k H2 (e.trans e2) _ fun xs H3 e3 dxs => q _ H3 (e2.trans e3) ((kx.mono e3).append dxs)⟩
theorem evd_tup {t : TA} {ds : List PyData} (h : EvAD t σ H ds) (hz : ds.length ≤ 100000) : EvD (tTup t) σ H (.tuple ds) := fun H1 e Q q =>
  h H1 e _ fun xs H2 e2 dxs => ⟨sz5 (by rw [dxs.length]; exact hz), fun p hp => q _ _ (e2.trans (ex_new hp)) (.tup upd_same (dxs.mono (ex_new hp)))⟩
theorem evd_lst {t : TA} {ds : List PyData} (h : EvAD t σ H ds) (hz : ds.length ≤ 100000) : EvD (tLst t) σ H (.list ds) := fun H1 e Q q =>
  h H1 e _ fun xs H2 e2 dxs => ⟨sz5 (by rw [dxs.length]; exact hz), fun p hp => q _ _ (e2.trans (ex_new hp)) (.lst upd_same (dxs.mono (ex_new hp)))⟩
/-! ### calls -/
/-- a def's promise, from data to data -/
def spR (R : List PyData → PyData → Prop) : Sp := fun vs H Q _ => ∃ ds d, R ds d ∧ DtAll H vs ds ∧ ∀ v H', Ex H H' → Dt H' v d → Q v H'
theorem spR_len {R : List PyData → PyData → Prop} {n : Nat} (h : ∀ ds d, R ds d → ds.length = n) : ∀ vs H Q E, spR R vs H Q E → vs.length = n := fun vs H Q E ⟨ds, d, hr, k, _⟩ => by rw [k.length]; exact h ds d hr
theorem evd_call {R : List PyData → PyData → Prop} {t : TA} {E : XK} {ds : List PyData} (h : EvAD t σ H ds) (hr : R ds d) : EvD (tCall (spR R) [] E t) σ H d := fun H1 e Q q =>
  h H1 e _ fun vs H2 e2 k => ⟨ds, d, hr, by rw [List.append_nil]; exact k, fun v H3 e3 dv => q v H3 (e2.trans e3) dv⟩
theorem evd_cb {r : List V → Hp → VK → Prop} {t : TA} {ds : List PyData} (h : EvAD t σ H ds) (hr : RCD r ds d) : EvD (tCB r t) σ H d := fun H1 e Q q =>
  h H1 e _ fun vs H2 e2 k => hr H2 vs k Q fun z H3 e3 dz => q z H3 (e2.trans e3) dz
def rLenA (K : PySem.W.Frag) : List V → Hp → VK → Prop := fun xs H Q => ∃ p ys, xs = [.ref p] ∧ (SqL K H p ys ∨ SqT K H p ys) ∧ Q (.int ys.length) H
theorem rcd_lenL {ds : List PyData} : RCD (rLenA K) [.list ds] (.int ds.length) := fun H vs k Q q => by
  cases k with
  | cons k1 k2 =>
    cases k2
    obtain ⟨p, us, rfl, hp, kx⟩ := dt_lst k1
    exact ⟨p, us, rfl, .inl (SqL.of hp), q _ H (Ex.refl _) (by rw [kx.length]; exact .int _)⟩
theorem rcd_lenT {ds : List PyData} : RCD (rLenA K) [.tuple ds] (.int ds.length) := fun H vs k Q q => by
  cases k with
  | cons k1 k2 =>
    cases k2
    obtain ⟨p, us, rfl, hp, kx⟩ := dt_tup k1
    exact ⟨p, us, rfl, .inr (SqT.of hp), q _ H (Ex.refl _) (by rw [kx.length]; exact .int _)⟩
def rListA (K : PySem.W.Frag) : List V → Hp → VK → Prop := fun xs H Q => ∃ p ys, xs = [.ref p] ∧ (SqL K H p ys ∨ SqT K H p ys) ∧ ∀ l, H l = none → Q (.ref l) (upd H l (.lst ys))
theorem rcd_listT {ds : List PyData} : RCD (rListA K) [.tuple ds] (.list ds) := fun H vs k Q q => by
  cases k with
  | cons k1 k2 =>
    cases k2
    obtain ⟨p, us, rfl, hp, kx⟩ := dt_tup k1
    exact ⟨p, us, rfl, .inr (SqT.of hp), fun l hl => q _ _ (ex_new hl) (.lst upd_same (kx.mono (ex_new hl)))⟩
theorem rcd_listL {ds : List PyData} : RCD (rListA K) [.list ds] (.list ds) := fun H vs k Q q => by
  cases k with
  | cons k1 k2 =>
    cases k2
    obtain ⟨p, us, rfl, hp, kx⟩ := dt_lst k1
    exact ⟨p, us, rfl, .inl (SqL.of hp), fun l hl => q _ _ (ex_new hl) (.lst upd_same (kx.mono (ex_new hl)))⟩
def rTupA (K : PySem.W.Frag) : List V → Hp → VK → Prop := fun xs H Q => ∃ p ys, xs = [.ref p] ∧ ((SqL K H p ys ∧ ∀ l, H l = none → Q (.ref l) (upd H l (.tup ys))) ∨ (SqT K H p ys ∧ Q (.ref p) H))
theorem rcd_tupL {ds : List PyData} : RCD (rTupA K) [.list ds] (.tuple ds) := fun H vs k Q q => by
  cases k with
  | cons k1 k2 =>
    cases k2
    obtain ⟨p, us, rfl, hp, kx⟩ := dt_lst k1
    exact ⟨p, us, rfl, .inl ⟨SqL.of hp, fun l hl => q _ _ (ex_new hl) (.tup upd_same (kx.mono (ex_new hl)))⟩⟩
/-- isinstance(x, T) by the data's own type -/
def tyD : PyData → String
  | .none => "NoneType"
  | .bool _ => "bool"
  | .int _ => "int"
  | .str _ => "str"
  | .list _ => "list"
  | .tuple _ => "tuple"
  | .dict _ => "dict"
/-! ### tests -/
theorem ev_bl {b : Bool} (h : EvD te σ H (.bool b)) : Evl.Ev te σ H (.bl b) := fun H1 e Q q => h H1 e _ fun v H2 e2 dv => by rw [dt_bl dv]; exact q H2 e2
theorem et_test {b : Bool} (h : EvD te σ H (.bool b)) : EvT (tTest te) σ H b := Evl.et_test (ev_bl h)
theorem et_B {b : Bool} (h : EvD te σ H (.bool b)) : EvT (tB te) σ H b := Evl.et_B (ev_bl h)
theorem et_not {b : Bool} (h : EvT tt σ H b) : EvT (tNot tt) σ H (!b) := Evl.et_not h
theorem et_and {p q : Bool} (h1 : EvT tt σ H p) (h2 : p = true → EvT tu σ H q) : EvT (tAnd tt tu) σ H (p && q) := Evl.et_and h1 h2
theorem et_or {p q : Bool} (h1 : EvT tt σ H p) (h2 : p = false → EvT tu σ H q) : EvT (tOr tt tu) σ H (p || q) := Evl.et_or h1 h2
theorem et_is {p q : Bool} (h : EvT tt σ H p) (e : p = q) : EvT tt σ H q := Evl.et_is h e
theorem evd_if {p : Bool} (h : EvT tt σ H p) (h1 : p = true → EvD ta σ H d) (h2 : p = false → EvD tb σ H d) : EvD (tIf tt ta tb) σ H d := fun H1 e Q q => h H1 e _ fun H2 e2 => by
  cases p with
  | true => exact h1 rfl H2 (e.trans e2) Q fun v H3 e3 dv => q v H3 (e2.trans e3) dv
  | false => exact h2 rfl H2 (e.trans e2) Q fun v H3 e3 dv => q v H3 (e2.trans e3) dv
theorem evd_and {p q : Bool} (h1 : EvD ta σ H (.bool p)) (h2 : p = true → EvD tb σ H (.bool q)) : EvD (tAndV ta tb) σ H (.bool (p && q)) := fun H1 e Q k =>
  Evl.ev_andV (ev_bl h1) (fun z => ev_bl (h2 z)) H1 e Q fun H2 e2 => k _ H2 e2 (.bl _)
theorem evd_or {p q : Bool} (h1 : EvD ta σ H (.bool p)) (h2 : p = false → EvD tb σ H (.bool q)) : EvD (tOrV ta tb) σ H (.bool (p || q)) := fun H1 e Q k =>
  Evl.ev_orV (ev_bl h1) (fun z => ev_bl (h2 z)) H1 e Q fun H2 e2 => k _ H2 e2 (.bl _)
theorem evd_not {p : Bool} (h1 : EvD ta σ H (.bool p)) : EvD (tNotV ta) σ H (.bool (!p)) := fun H1 e Q k => Evl.ev_notV (ev_bl h1) H1 e Q fun H2 e2 => k _ H2 e2 (.bl _)
theorem evd_chain {i j l : Int} {f g : Int → Int → Bool} (ha : EvD ta σ H (.int i)) (hb : EvD tb σ H (.int j)) (hc : EvD tc σ H (.int l)) :
    EvD (tChain (rI0 fun i j => .bl (f i j)) (rI0 fun i j => .bl (g i j)) ta tb tc) σ H (.bool (f i j && g j l)) := fun H1 e Q q =>
  ha H1 e _ fun x H2 e2 dx => hb H2 (e.trans e2) _ fun y H3 e3 dy => ⟨i, j, dt_int dx, dt_int dy, f i j, rfl, by
    cases hf : f i j with
    | true =>
      refine hc H3 ((e.trans e2).trans e3) _ fun z H4 e4 dz => ⟨j, l, dt_int dy, dt_int dz, q _ H4 ((e2.trans e3).trans e4) ?_⟩
      rw [hf]
      exact .bl _
    | false =>
      refine q _ H3 (e2.trans e3) ?_
      rw [hf]
      exact .bl _⟩
/-! ### statements -/
variable {D : Ends} {t1 t2 tz : TS}
theorem s_ret (h : EvD te σ H d) (k : ∀ v H1, Ex H H1 → Dt H1 v d → D.rt v H1) : tRet te D σ H := h H (Ex.refl _) _ fun v H2 e dv => k v H2 e dv
theorem q_asg {i : Nat} (h : EvD te σ H d) (k : ∀ v H1, Ex H H1 → Dt H1 v d → tz D (σ.set i (some v)) H1) : tSeq (tAsg te (gName i)) tz D σ H := h H (Ex.refl _) _ fun v H2 e dv => k v H2 e dv
theorem q_drop (h : EvP te σ H P) (k : ∀ H1, Ex H H1 → tz D σ H1) : tSeq (tDrop te) tz D σ H := h H (Ex.refl _) _ fun v H2 e _ => k H2 e
theorem q_if {p : Bool} (h : EvT tt σ H p) (h1 : p = true → ∀ H1, Ex H H1 → t1 { D with nx := tz D } σ H1) (h2 : p = false → ∀ H1, Ex H H1 → t2 { D with nx := tz D } σ H1) : tSeq (tIfS tt t1 t2) tz D σ H := h H (Ex.refl _) _ fun H2 e => by
  cases p with
  | true => exact h1 rfl H2 e
  | false => exact h2 rfl H2 e
theorem s_if {p : Bool} (h : EvT tt σ H p) (h1 : p = true → ∀ H1, Ex H H1 → t1 D σ H1) (h2 : p = false → ∀ H1, Ex H H1 → t2 D σ H1) : tIfS tt t1 t2 D σ H := h H (Ex.refl _) _ fun H2 e => by
  cases p with
  | true => exact h1 rfl H2 e
  | false => exact h2 rfl H2 e
/-- if c: return or raise; else on -/
theorem q_when {p : Bool} (h : EvT tt σ H p) (h1 : p = true → ∀ H1, Ex H H1 → t1 { D with nx := tz D } σ H1) (h2 : p = false → ∀ H1, Ex H H1 → tz D σ H1) : tSeq (tIfS tt t1 tNext) tz D σ H := q_if h h1 h2
theorem q_no (h : EvT tt σ H false) (h2 : ∀ H1, Ex H H1 → tz D σ H1) : tSeq (tIfS tt t1 tNext) tz D σ H := q_if h (fun e => nomatch e) fun _ => h2
theorem g_tup3 {i j l : Nat} {v : V} {a b c : PyData} {Q : L2.St → Hp → Prop} (k : Dt H v (.tuple [a, b, c])) (h : ∀ x y z, Dt H x a → Dt H y b → Dt H z c → Q (((σ.set i (some x)).set j (some y)).set l (some z)) H) : gTup K 3 (gCons (gName i) (gCons (gName j) (gCons (gName l) gNil))) v σ H Q := by
  obtain ⟨p, us, rfl, hp, kx⟩ := dt_tup k
  cases kx with
  | cons k1 kx => cases kx with
    | cons k2 kx => cases kx with
      | cons k3 kx =>
        cases kx
        exact ⟨p, _, rfl, SqT.of hp, rfl, _, _, rfl, _, _, rfl, _, _, rfl, rfl, h _ _ _ k1 k2 k3⟩
theorem g_tup2 {i j : Nat} {v : V} {a b : PyData} {Q : L2.St → Hp → Prop} (k : Dt H v (.tuple [a, b])) (h : ∀ x y, Dt H x a → Dt H y b → Q ((σ.set i (some x)).set j (some y)) H) : gTup K 2 (gCons (gName i) (gCons (gName j) gNil)) v σ H Q := by
  obtain ⟨p, us, rfl, hp, kx⟩ := dt_tup k
  cases kx with
  | cons k1 kx => cases kx with
    | cons k2 kx =>
      cases kx
      exact ⟨p, _, rfl, SqT.of hp, rfl, _, _, rfl, _, _, rfl, rfl, h _ _ k1 k2⟩
theorem q_unp3 {i j l : Nat} (h : EvD te σ H (.tuple [a, b, c])) (k : ∀ x y z H1, Ex H H1 → Dt H1 x a → Dt H1 y b → Dt H1 z c → tz D (((σ.set i (some x)).set j (some y)).set l (some z)) H1) :
    tSeq (tAsg te (gTup K 3 (gCons (gName i) (gCons (gName j) (gCons (gName l) gNil))))) tz D σ H := h H (Ex.refl _) _ fun v H2 e dv => g_tup3 dv fun x y z dx dy dz => k x y z H2 e dx dy dz
/-! ### what is walked, as data -/
def EvI (wi : TI) (σ : L2.St) (H : Hp) (items : List PyData) : Prop := ∀ H1, Ex H H1 → ∀ R : It → Hp → Prop,
  (∀ J H2, Ex H1 H2 → Walk J items.length (Ex H2) (fun i H3 x H4 => Ex H3 H4 ∧ ∃ d, items[i]? = some d ∧ Dt H4 x d) → R J H2) → wi σ H1 R
theorem evi_list {tl : TE} {ds : List PyData} (h : EvD tl σ H (.list ds)) : EvI (iList K tl) σ H ds := fun H1 e R k =>
  h H1 e _ fun x H2 e2 dx => by
    obtain ⟨p, us, rfl, hp, kx⟩ := dt_lst dx
    refine ⟨p, rfl, ⟨us, SqL.of hp⟩, k _ H2 e2 ?_⟩
    rw [← kx.length]
    refine walk_list.mono (fun H' e' => SqL.of (e' _ _ hp)) fun i H3 x H4 hi e' y => ?_
    obtain ⟨d, hd, dd⟩ := kx.get y.2
    rw [y.1]
    exact ⟨Ex.refl _, d, hd, dd.mono e'⟩
theorem evi_tup {tl : TE} {ds : List PyData} (h : EvD tl σ H (.tuple ds)) : EvI (iTup K tl) σ H ds := fun H1 e R k =>
  h H1 e _ fun x H2 e2 dx => by
    obtain ⟨p, us, rfl, hp, kx⟩ := dt_tup dx
    refine ⟨p, rfl, ⟨us, SqT.of hp⟩, k _ H2 e2 ?_⟩
    rw [← kx.length]
    refine walk_tup.mono (fun H' e' => SqT.of (e' _ _ hp)) fun i H3 x H4 hi e' y => ?_
    obtain ⟨d, hd, dd⟩ := kx.get y.2
    rw [y.1]
    exact ⟨Ex.refl _, d, hd, dd.mono e'⟩
def intsTo (lo : Int) (n : Nat) : List PyData := (List.range n).map fun i => .int (lo + (i : Nat))
theorem intsTo_get {lo : Int} {n i : Nat} (h : i < n) : (intsTo lo n)[i]? = some (.int (lo + (i : Nat))) := by
  unfold intsTo
  rw [List.getElem?_map, List.getElem?_range h]
  rfl
theorem intsTo_length (lo : Int) (n : Nat) : (intsTo lo n).length = n := by unfold intsTo; simp
theorem evi_range1 {t : TA} {n : Nat} (h : EvAD t σ H [.int (n : Int)]) (hn : n ≤ 100000) : EvI (iRng1 t) σ H (intsTo 0 n) := fun H1 e R k =>
  h H1 e _ fun vs H2 e2 dv => by
    cases dv with
    | cons d1 d2 =>
      cases d2
      refine ⟨n, by rw [dt_int d1], by omega, by omega, k _ H2 e2 ?_⟩
      rw [intsTo_length, Int.toNat_natCast]
      refine walk_range.mono (fun _ _ => True.intro) fun i H3 x H4 hi _ y => ?_
      rw [y.1, y.2]
      exact ⟨Ex.refl _, _, intsTo_get hi, .int _⟩
theorem evi_range2 {t : TA} {lo hi : Int} {n : Nat} (h : EvAD t σ H [.int lo, .int hi]) (hn : (hi - lo).toNat = n) (h1 : -100000 ≤ lo ∧ lo ≤ 100000) (h2 : -100000 ≤ hi ∧ hi ≤ 100000) : EvI (iRng2 t) σ H (intsTo lo n) := fun H1 e R k =>
  h H1 e _ fun vs H2 e2 dv => by
    cases dv with
    | cons d1 d2 =>
      cases d2 with
      | cons d2 d3 =>
        cases d3
        refine ⟨lo, hi, by rw [dt_int d1, dt_int d2], ⟨by omega, by omega, by omega, by omega⟩, k _ H2 e2 ?_⟩
        rw [intsTo_length, hn]
        refine walk_range.mono (fun _ _ => True.intro) fun i H3 x H4 hi _ y => ?_
        rw [y.1, y.2]
        exact ⟨Ex.refl _, _, intsTo_get hi, .int _⟩
/-! ### comprehensions -/
/-- the list made so far -/
def Cm (H : Hp) (Dl : Addr) (es : List PyData) (H' : Hp) : Prop := H Dl = none ∧ Ex H H' ∧ ∃ acc, H' Dl = some (.lst acc) ∧ DtAll H' acc es
theorem ext_lst {p : Addr} {xs ys : List V} (h : H p = some (.lst xs)) : ExT H (upd H p (.lst ys)) := fun a zs ha => by
  rw [upd_ne]
  · exact ha
  · rintro rfl
    rw [h] at ha
    cases ha
theorem tupOnlyAll_append : ∀ {ds es : List PyData}, tupOnlyAll ds = true → tupOnlyAll es = true → tupOnlyAll (ds ++ es) = true
  | [], _, _, h => h
  | d :: ds, es, h, k => by
    rw [tupOnlyAll, Bool.and_eq_true] at h
    rw [List.cons_append, tupOnlyAll, h.1, tupOnlyAll_append h.2 k]
    rfl
theorem tupOnlyAll_of : ∀ {ds : List PyData}, (∀ d ∈ ds, tupOnly d = true) → tupOnlyAll ds = true
  | [], _ => rfl
  | d :: ds, h => by
    rw [tupOnlyAll, h d (List.mem_cons_self ..), tupOnlyAll_of fun e he => h e (List.mem_cons_of_mem _ he)]
    rfl
theorem evd_lc {wi : TI} {g : TG} {vs : List Nat} {items : List PyData} (c : PyData → Bool) (f : PyData → PyData) (hw : EvI wi σ H items)
    (hb : ∀ d ∈ items, ∀ x H1, Ex H H1 → Dt H1 x d → ∀ Q : L2.St → Hp → Prop, (∀ σ2, wipe σ2 vs = wipe σ vs → EvT tt σ2 H1 (c d) → (c d = true → EvD te σ2 H1 (f d)) → Q σ2 H1) → g x (wipe σ vs) H1 Q)
    (ht : ∀ d ∈ items, c d = true → tupOnly (f d) = true) (hz : items.length ≤ 50000) : EvD (tLc wi g tt te vs) σ H (.list ((items.filter c).map f)) := fun H1 e Q q =>
  hw H1 e _ fun J H2 e2 w Dl hD => by
    have tp : ∀ i, tupOnlyAll (((items.take i).filter c).map f) = true := fun i => tupOnlyAll_of fun d hd => by
      obtain ⟨d', h1, rfl⟩ := List.mem_map.mp hd
      obtain ⟨h2, h3⟩ := List.mem_filter.mp h1
      exact ht d' (List.mem_of_mem_take h2) h3
    have len : ∀ i, (((items.take i).filter c).map f).length ≤ 50000 := fun i => by
      rw [List.length_map]
      refine Nat.le_trans (List.length_filter_le _ _) ?_
      rw [List.length_take]
      omega
    refine lc_it w (fun i H' => Cm H2 Dl (((items.take i).filter c).map f) H') ⟨hD, ex_new hD, [], upd_same, .nil⟩ (fun i H' _ p => p.2.1) (fun i x H' H3 hi p y => ?_) fun H' p => ?_
    · obtain ⟨p1, p2, acc, p3, p4⟩ := p
      obtain ⟨e3, d, hd, dx⟩ := y
      have hm : d ∈ items := List.mem_of_getElem? hd
      have eT : items.take (i + 1) = items.take i ++ [d] := by rw [List.take_add_one, hd]; rfl
      refine hb d hm x H3 ((e.trans e2).trans (p2.trans e3)) dx _ fun σ2 hσ hT hE => ⟨hσ, ?_⟩
      refine hT H3 (Ex.refl _) _ fun H4 e4 => ?_
      cases hc : c d with
      | true =>
        refine hE hc H4 e4 _ fun y H5 e5 dy => ⟨acc, e5 _ _ (e4 _ _ (e3 _ _ p3)), ?_, p1, ?_, acc ++ [y], upd_same, ?_⟩
        · have := p4.length
          have := len i
          exact Evl.sz_lt (by omega)
        · exact Ex.mut (((p2.trans e3).trans e4).trans e5) p1
        · have eL : ((items.take (i + 1)).filter c).map f = ((items.take i).filter c).map f ++ [f d] := by
            rw [eT, List.filter_append, List.map_append, List.filter_cons, if_pos hc]
            rfl
          rw [eL]
          have eD : H5 Dl = some (.lst acc) := e5 _ _ (e4 _ _ (e3 _ _ p3))
          exact ((p4.mono ((e3.trans e4).trans e5)).monoT (ext_lst eD) (tp i)).append (.one (dy.monoT (ext_lst eD) (ht d hm hc)))
      | false =>
        have eL : ((items.take (i + 1)).filter c).map f = ((items.take i).filter c).map f := by
          rw [eT, List.filter_append, List.map_append, List.filter_cons, if_neg (by rw [hc]; exact Bool.false_ne_true)]
          simp
        show Cm H2 Dl (((items.take (i + 1)).filter c).map f) H4
        rw [eL]
        exact ⟨p1, (p2.trans e3).trans e4, acc, e4 _ _ (e3 _ _ p3), p4.mono (e3.trans e4)⟩
    · obtain ⟨p1, p2, acc, p3, p4⟩ := p
      rw [List.take_length] at p4
      exact q _ H' (e2.trans p2) (.lst p3 p4)
/-! ### loops that change nothing that is known -/
theorem s_for {wi : TI} {g : TG} {tb : TS} {items : List PyData} (hw : EvI wi σ H items) (Pv : Nat → L2.St → Prop) (h0 : Pv 0 σ)
    (hs : ∀ i d x σ' H1, items[i]? = some d → Ex H H1 → Pv i σ' → Dt H1 x d → ∀ N : L2.St → Hp → Prop, (∀ σ3 H3, Pv (i + 1) σ3 → Ex H1 H3 → N σ3 H3) → g x σ' H1 fun σ2 H2 => tb { D with nx := N, ct := N, bk := D.nx } σ2 H2)
    (hd : ∀ σ' H1, Ex H H1 → Pv items.length σ' → D.nx σ' H1) : tFor wi g tb D σ H :=
  hw H (Ex.refl _) _ fun J H2 e2 w => by
    refine for_it w (fun i σ' H' => Pv i σ' ∧ Ex H2 H') ⟨h0, Ex.refl _⟩ (fun i σ' H' _ p => p.2) (fun i x σ' H' H3 hi p y => ?_) fun σ' H' p => hd σ' H' (e2.trans p.2) p.1
    obtain ⟨e3, d, hd', dx⟩ := y
    exact hs i d x σ' H3 hd' (e2.trans (p.2.trans e3)) p.1 dx _ fun σ3 H3' pv e' => ⟨pv, (p.2.trans e3).trans e'⟩
theorem q_for {wi : TI} {g : TG} {tb : TS} {items : List PyData} (hw : EvI wi σ H items) (Pv : Nat → L2.St → Prop) (h0 : Pv 0 σ)
    (hs : ∀ i d x σ' H1, items[i]? = some d → Ex H H1 → Pv i σ' → Dt H1 x d → ∀ N : L2.St → Hp → Prop, (∀ σ3 H3, Pv (i + 1) σ3 → Ex H1 H3 → N σ3 H3) → g x σ' H1 fun σ2 H2 => tb { D with nx := N, ct := N, bk := tz D } σ2 H2)
    (hd : ∀ σ' H1, Ex H H1 → Pv items.length σ' → tz D σ' H1) : tSeq (tFor wi g tb) tz D σ H := s_for (D := { D with nx := tz D }) hw Pv h0 hs hd
end
end Pc
/-! the mirror: plans, queries as plain Lean; how they are data -/
namespace Pc
open PySem PySem.Spec PyProof.Rows L2

inductive How where
  | hashed | nested | probed
  deriving DecidableEq
def How.str : How → Str
  | .hashed => "hashed"
  | .nested => "nested"
  | .probed => "probed"
theorem How.str_inj : ∀ a b : How, (a.str = b.str) = (a = b) := by
  intro a b
  cases a <;> cases b <;> first | (exact propext ⟨fun _ => rfl, fun _ => rfl⟩) | (exact propext ⟨fun h => absurd h (by decide +kernel), fun h => nomatch h⟩)
inductive Pl where
  | tab (t : Nat)
  | node (h : How) (l r : Pl)
  deriving DecidableEq
namespace Pl
def isT : Pl → Bool
  | .tab _ => true
  | .node .. => false
/-- how many nodes -/
def nn : Pl → Nat
  | .tab _ => 0
  | .node _ l r => nn l + nn r + 1
def leaves : Pl → List Nat
  | .tab t => [t]
  | .node _ l r => leaves l ++ leaves r
theorem leaves_len : ∀ p : Pl, p.leaves.length = p.nn + 1
  | .tab _ => rfl
  | .node _ l r => by
    rw [leaves, nn, List.length_append, leaves_len l, leaves_len r]
    omega
def nodes : Pl → List Pl
  | .tab _ => []
  | .node h l r => .node h l r :: (nodes l ++ nodes r)
theorem nodes_len : ∀ p : Pl, p.nodes.length = p.nn
  | .tab _ => rfl
  | .node _ l r => by
    rw [nodes, nn, List.length_cons, List.length_append, nodes_len l, nodes_len r]
/-- each probed node has a table on the right -/
def good : Pl → Bool
  | .tab _ => true
  | .node h l r => !(decide (h = .probed) && !isT r) && (good l && good r)
def ways : Pl → List Pl
  | .tab _ => []
  | .node h l r => ([How.hashed, .nested, .probed].filter fun w => decide (w ≠ h) && (decide (w ≠ .probed) || isT r)).map fun w => .node w l r
def turned : Pl → List Pl
  | .tab _ => []
  | .node h l r => if decide (h ≠ .probed) || isT l then [.node h r l] else []
def leanL : Pl → List Pl
  | .node h (.node h' x y) r => [.node h' x (.node h y r)]
  | _ => []
def leanR : Pl → List Pl
  | .node h l (.node h' x y) => [.node h' (.node h l x) y]
  | _ => []
def leaned (p : Pl) : List Pl := (leanL p ++ leanR p).filter good
def changedAt (p : Pl) : List Pl := ways p ++ turned p ++ leaned p
def changed : Pl → List Pl
  | .tab _ => []
  | .node h l r => changedAt (.node h l r) ++ (changed l).map (fun q => .node h q r) ++ (changed r).map (fun q => .node h l q)
def spell : Pl → List (Str × Nat)
  | .tab t => [("", t)]
  | .node h l r => (h.str, 0) :: (spell l ++ spell r)
end Pl
/-! ### how they are data -/
def eP : Pl → PyData
  | .tab t => .int (t : Int)
  | .node h l r => .tuple [.str h.str, eP l, eP r]
def eL (ps : List Pl) : PyData := .list (ps.map eP)
def eNs (ns : List Nat) : List PyData := ns.map fun n : Nat => .int (n : Int)
def eSpell (p : Pl) : PyData := .tuple (p.spell.map fun q => .tuple [.str q.1, .int (q.2 : Int)])
theorem eP_tup : ∀ p : Pl, tupOnly (eP p) = true
  | .tab _ => rfl
  | .node h l r => by
    show tupOnlyAll [.str h.str, eP l, eP r] = true
    rw [tupOnlyAll, tupOnlyAll, tupOnlyAll, eP_tup l, eP_tup r]
    rfl
theorem eP_inj : ∀ {p q : Pl}, eP p = eP q → p = q
  | .tab t, .tab u, h => by
    have e : (t : Int) = (u : Int) := PyData.int.inj h
    rw [Int.ofNat.inj e]
  | .tab _, .node .., h => by cases h
  | .node .., .tab _, h => by cases h
  | .node h l r, .node h' l' r', e => by
    have e1 := PyData.tuple.inj e
    injection e1 with e2 e3
    injection e3 with e4 e5
    injection e5 with e6 _
    have e7 : h = h' := (How.str_inj h h').mp (PyData.str.inj e2)
    rw [e7, eP_inj e4, eP_inj e6]
theorem eqv_eP : ∀ p q : Pl, PyData.eqv (eP p) (eP q) = decide (p = q)
  | .tab t, .tab u => by
    show ((t : Int) == (u : Int)) = _
    by_cases h : t = u
    · subst h; simp
    · have h' : ¬ (t : Int) = (u : Int) := by omega
      have h2 : ¬ Pl.tab t = Pl.tab u := fun e => h (Pl.tab.inj e)
      rw [decide_eq_false h2]
      exact beq_eq_false_iff_ne.mpr h'
  | .tab _, .node .. => by
    rw [decide_eq_false (fun e => nomatch e)]
    rfl
  | .node .., .tab _ => by
    rw [decide_eq_false (fun e => nomatch e)]
    rfl
  | .node h l r, .node h' l' r' => by
    show ((h.str == h'.str) && (PyData.eqv (eP l) (eP l') && (PyData.eqv (eP r) (eP r') && true))) = _
    rw [eqv_eP l l', eqv_eP r r', Bool.and_true]
    have e : (h.str == h'.str) = decide (h = h') := by
      by_cases q : h = h'
      · subst q
        simp
      · have q' : ¬ h.str = h'.str := fun z => q ((How.str_inj h h').mp z)
        rw [decide_eq_false q]
        exact beq_eq_false_iff_ne.mpr q'
    rw [e, ← Bool.decide_and, ← Bool.decide_and]
    refine decide_eq_decide.mpr ⟨fun ⟨a, b, c⟩ => by rw [a, b, c], fun z => ?_⟩
    injection z with a b c
    exact ⟨a, b, c⟩
theorem How.strOk (h : How) : PyData.strOk h.str = true := by cases h <;> decide +kernel
theorem eP_lay : ∀ p : Pl, (eP p).canLay0 = true
  | .tab _ => rfl
  | .node h l r => by
    show PyData.canLayAll0 [.str h.str, eP l, eP r] = true
    rw [PyData.canLayAll0, PyData.canLayAll0, PyData.canLayAll0, eP_lay l, eP_lay r]
    show (PyData.strOk h.str && (true && (true && true))) = true
    rw [How.strOk]
    rfl
theorem eP_depth : ∀ p : Pl, (eP p).depth ≤ p.nn
  | .tab _ => Nat.le_refl _
  | .node h l r => by
    have a := eP_depth l
    have b := eP_depth r
    show PyData.depthAll [.str h.str, eP l, eP r] + 1 ≤ _
    rw [PyData.depthAll, PyData.depthAll, PyData.depthAll, PyData.depthAll]
    show max 0 (max (eP l).depth (max (eP r).depth 0)) + 1 ≤ Pl.nn l + Pl.nn r + 1
    omega
theorem eP_shaped {p : Pl} (h : p.nn ≤ 64) : SeqAt.shaped (eP p) = true := by
  unfold SeqAt.shaped
  rw [eP_lay, Bool.true_and]
  exact decide_eq_true (Nat.le_trans (eP_depth p) h)
theorem eL_lay : ∀ ps : List Pl, PyData.canLayAll0 (ps.map eP) = true
  | [] => rfl
  | p :: ps => by
    show ((eP p).canLay0 && PyData.canLayAll0 (ps.map eP)) = true
    rw [eP_lay, eL_lay ps]
    rfl
theorem eL_depth {n : Nat} : ∀ {ps : List Pl}, (∀ p ∈ ps, p.nn ≤ n) → PyData.depthAll (ps.map eP) ≤ n
  | [], _ => Nat.zero_le _
  | p :: ps, h => by
    have a := eP_depth p
    have b := h p (List.mem_cons_self ..)
    have c := eL_depth (ps := ps) fun q hq => h q (List.mem_cons_of_mem _ hq)
    show max (eP p).depth (PyData.depthAll (ps.map eP)) ≤ n
    omega
theorem eL_shaped {n : Nat} (hn : n ≤ 60) {ps : List Pl} (h : ∀ p ∈ ps, p.nn ≤ n) : SeqAt.shaped (eL ps) = true := by
  unfold SeqAt.shaped eL
  have a := eL_depth h
  show (PyData.canLayAll0 (ps.map eP) && decide (PyData.depthAll (ps.map eP) + 1 ≤ 64)) = true
  rw [eL_lay, Bool.true_and]
  exact decide_eq_true (by omega)
theorem eqvAll_eL : ∀ ps qs : List Pl, PyData.eqvAll (ps.map eP) (qs.map eP) = decide (ps = qs)
  | [], [] => rfl
  | [], _ :: _ => by rw [decide_eq_false (fun e => nomatch e)]; rfl
  | _ :: _, [] => by rw [decide_eq_false (fun e => nomatch e)]; rfl
  | p :: ps, q :: qs => by
    show (PyData.eqv (eP p) (eP q) && PyData.eqvAll (ps.map eP) (qs.map eP)) = _
    rw [eqv_eP, eqvAll_eL ps qs, ← Bool.decide_and]
    refine decide_eq_decide.mpr ⟨fun ⟨a, b⟩ => by rw [a, b], fun z => ?_⟩
    injection z with a b
    exact ⟨a, b⟩
/-! ### queries -/
structure Qy where
  sizes : List (List Nat)
  links : List (Nat × Nat × List Nat)
  prices : Nat × Nat × Nat
def eRow (r : List Nat) : PyData := .tuple (eNs r)
def eLink (l : Nat × Nat × List Nat) : PyData := .tuple [.int (l.1 : Int), .int (l.2.1 : Int), eRow l.2.2]
def eQ (q : Qy) : PyData := .tuple [.tuple (q.sizes.map eRow), .tuple (q.links.map eLink), .tuple [.int (q.prices.1 : Int), .int (q.prices.2.1 : Int), .int (q.prices.2.2 : Int)]]
def rising : List Nat → Bool
  | x :: y :: r => decide (x < y) && rising (y :: r)
  | _ => true
structure RowOk (m : Nat) (r : List Nat) : Prop where
  len : 1 ≤ r.length ∧ r.length ≤ 3
  lo : ∀ x ∈ r, 1 ≤ x ∧ x ≤ m
  up : rising r = true
/-- the pairs of tables of the links ascend -/
def risingL : List (Nat × Nat × List Nat) → Bool
  | x :: y :: r => (decide (x.1 < y.1) || (decide (x.1 = y.1) && decide (x.2.1 < y.2.1))) && risingL (y :: r)
  | _ => true
structure Qok (q : Qy) : Prop where
  many : 1 ≤ q.sizes.length ∧ q.sizes.length ≤ 4
  rows : ∀ r ∈ q.sizes, RowOk 1000000000 r
  few : q.links.length ≤ 6
  link : ∀ l ∈ q.links, l.1 < l.2.1 ∧ l.2.1 < q.sizes.length ∧ RowOk 100 l.2.2
  up : risingL q.links = true
  pr : (1 ≤ q.prices.1 ∧ q.prices.1 ≤ 100) ∧ (1 ≤ q.prices.2.1 ∧ q.prices.2.1 ≤ 100) ∧ q.prices.2.2 ≤ 100
  un : ((q.sizes ++ q.links.map (·.2.2)).filter fun r => decide (1 < r.length)).length ≤ 6
/-- whether a link leads from one of some tables to one of others -/
def joined (q : Qy) (L R : List Nat) : Bool := q.links.any fun l => (decide (l.1 ∈ L) && decide (l.2.1 ∈ R)) || (decide (l.1 ∈ R) && decide (l.2.1 ∈ L))
/-- no node crossed -/
def linked (q : Qy) : Pl → Bool
  | .tab _ => true
  | .node _ l r => joined q l.leaves r.leaves && (linked q l && linked q r)
/-- a plan of n tables -/
structure Pok (n : Nat) (p : Pl) : Prop where
  perm : p.leaves.Perm (List.range n)
  good : p.good = true
theorem Pok.len {n : Nat} {p : Pl} (h : Pok n p) : p.nn + 1 = n := by
  have e := h.perm.length_eq
  rw [p.leaves_len, List.length_range] at e
  exact e
/-- the kinds of plans -/
inductive Kd where
  | any | linked
  deriving DecidableEq
def Kd.str : Kd → Str
  | .any => "any"
  | .linked => "linked"
end Pc
/-! the module's names, the defs as they are called -/
namespace Pc
open PySem PySem.Spec PyProof.Rows L2

theorem bt_isinstance : bootBuiltins "isinstance" = some (.builtin "isinstance") := by decide +kernel
theorem bt_int : bootBuiltins "int" = some (.type "int") := by decide +kernel
theorem bt_bool : bootBuiltins "bool" = some (.type "bool") := by decide +kernel
theorem bt_tuple : bootBuiltins "tuple" = some (.type "tuple") := by decide +kernel
theorem bt_str : bootBuiltins "str" = some (.type "str") := by decide +kernel
theorem bt_list : bootBuiltins "list" = some (.type "list") := by decide +kernel
theorem bt_len : bootBuiltins "len" = some (.builtin "len") := by decide +kernel
theorem bt_all : bootBuiltins "all" = some (.builtin "all") := by decide +kernel
theorem bt_zip : bootBuiltins "zip" = some (.type "zip") := by decide +kernel
theorem bt_range : bootBuiltins "range" = some (.type "range") := by decide +kernel
theorem bt_enumerate : bootBuiltins "enumerate" = some (.type "enumerate") := by decide +kernel
theorem bt_sorted : bootBuiltins "sorted" = some (.builtin "sorted") := by decide +kernel
theorem bt_set : bootBuiltins "set" = some (.type "set") := by decide +kernel
theorem bt_repr : bootBuiltins "repr" = some (.builtin "repr") := by decide +kernel
/-- the built-in names, the constants -/
structure Gs (K : PySem.W.Frag) (mg : Str → Option Value) : Prop where
  f_isinstance : mg "isinstance" = none
  f_int : mg "int" = none
  f_bool : mg "bool" = none
  f_tuple : mg "tuple" = none
  f_str : mg "str" = none
  f_list : mg "list" = none
  f_len : mg "len" = none
  f_all : mg "all" = none
  f_zip : mg "zip" = none
  f_range : mg "range" = none
  f_enumerate : mg "enumerate" = none
  f_sorted : mg "sorted" = none
  f_set : mg "set" = none
  f_repr : mg "repr" = none
  c_MOST_TABLES : ∃ u, mg "MOST_TABLES" = some u ∧ RelV (.int 5) u
  c_MOST_LINKS : ∃ u, mg "MOST_LINKS" = some u ∧ RelV (.int 6) u
  c_MOST_VALUES : ∃ u, mg "MOST_VALUES" = some u ∧ RelV (.int 3) u
  c_MOST_ROWS : ∃ u, mg "MOST_ROWS" = some u ∧ RelV (.int 1000000000) u
  c_MOST_FITS : ∃ u, mg "MOST_FITS" = some u ∧ RelV (.int 100) u
  c_MOST_PRICE : ∃ u, mg "MOST_PRICE" = some u ∧ RelV (.int 100) u
  c_MOST_UNKNOWN : ∃ u, mg "MOST_UNKNOWN" = some u ∧ RelV (.int 6) u
  c_KIND_ANY : ∃ u, mg "KIND_ANY" = some u ∧ RelV (.str "any") u
  c_KIND_LINKED : ∃ u, mg "KIND_LINKED" = some u ∧ RelV (.str "linked") u
  c_NESTED : ∃ u, mg "NESTED" = some u ∧ RelV (.str "nested") u
  c_HASHED : ∃ u, mg "HASHED" = some u ∧ RelV (.str "hashed") u
  c_PROBED : ∃ u, mg "PROBED" = some u ∧ RelV (.str "probed") u
  c_MOST_REACHED : ∃ u, mg "MOST_REACHED" = some u ∧ RelV (.int 20000) u
  ways : ∃ wa, mg "WAYS" = some (.ref wa) ∧ ∀ H, SqT K H wa [.str "hashed", .str "nested", .str "probed"]
abbrev FnP (K : PySem.W.Frag) (x : Str) (st : Stmt) (f : Addr) (fd : FuncData) : Prop := FunD K x x (defArgs st) (defBody st) (defScope st) [] [] f fd
/-- a def of the module, where it stands -/
structure Df (K : PySem.W.Frag) (mg : Str → Option Value) (x : Str) (st : Stmt) : Prop where
  ex : ∃ f fd, FnP K x st f fd ∧ mg x = some (.ref f)
/-- a def as it may be called -/
structure Cl (P : Program) (w : World) (K : PySem.W.Frag) (mg : Str → Option Value) (base : Heap) (k : Nat) (x : Str) (sp : Sp) : Prop where
  ex : ∃ f fd ps, FnOk P w K mg base CX0 k f fd ps sp ∧ mg x = some (.ref f) ∧ PySem.W.keepIn K (.ref f) = true ∧ Binds K fd ps []
section
variable {P : Program} {w : World} {K : PySem.W.Frag} {mg : Str → Option Value} {base : Heap} {j k : Nat} {x : Str} {sp sp' : Sp} {st : Stmt} {N ps : List Str}
theorem Cl.mono (c : Cl P w K mg base k x sp) (h : k ≤ j) : Cl P w K mg base j x sp := by
  obtain ⟨f, fd, ps, F, r⟩ := c.ex
  exact ⟨f, fd, ps, F.mono h, r⟩
theorem Cl.imp (c : Cl P w K mg base k x sp) (h : ∀ vs H Q E, sp' vs H Q E → sp vs H Q E) : Cl P w K mg base k x sp' := by
  obtain ⟨f, fd, ps, F, r⟩ := c.ex
  exact ⟨f, fd, ps, F.imp h, r⟩
theorem cl_of (D : Df K mg x st) (S : FnScope N ps (defScope st))
    (hb : ∀ (kV doc pm : Value) (an : Option Addr) (cdv ct : Value) (us : List Value), us.length = ps.length → bindArgs (PySem.W.fnOf x x (defArgs st) (defBody st) (defScope st) .none kV doc pm an cdv ct) ⟨us, []⟩ = pure (ps.zip us))
    (len : ∀ vs H Q E, sp vs H Q E → vs.length = ps.length)
    (body : ∀ (f : Addr) (cdv : Value) (A : Around) (outer : List Env) (s : Shared) (H : Hp) (vs : List V) (Q : VK) (E : XK), Room k (A.deeper (envOfC x (defScope st) s.heap.objs.size f cdv)) → sp vs H Q E →
      ∃ t, PSs (cxOf CX0 P w K mg base N x (defScope st) f cdv A outer s H E).nox (defBody st) t ∧ t { nx := fun _ H' => Q .non H', rt := Q } (start N vs) H) : Cl P w K mg base (k + 1) x sp := by
  obtain ⟨f, fd, F, m⟩ := D.ex
  refine ⟨f, fd, ps, F.ok S len fun cdv A outer s H vs Q E hr h => ?_, m, F.kp, F.bindsN hb⟩
  obtain ⟨t, h1, h2⟩ := body f cdv A outer s H vs Q E hr h
  exact ⟨t, h1.nox, h2⟩
end
section
variable {X : Cx} {k j : Nat} {x : Str} {sp : Sp} {e : Expr} {es : List Expr} {t : TA} {p pos : Pos}
theorem pe_u (c : Cl X.prog X.w X.K X.mg X.base k x sp) (hr : Room j X.A) (hk : k ≤ j) (hg : Gl X x) (ha : PA X (e :: es) t) (hdb : (x == ("__debug__" : Str)) = false := by decide)
    (he : starEach (e :: es) X.env = (false, eval e X.env) :: starEach es X.env := by rfl) (hpl : (backTo pos (starEach es X.env)).any (·.1) = false := by rfl) : PE X (.Call (.Name x p) (e :: es) [] pos) (tCall sp [] E0 t) := by
  obtain ⟨f, fd, ps, F, hm, kp, b⟩ := c.ex
  exact pe_call F (hr.mono hk) hg hm kp b .nil pass0 ha hdb he hpl
theorem pe_g {v : V} (hg : Gl X x) (h : ∃ u, X.mg x = some u ∧ RelV v u) (hd : (x == ("__debug__" : Str)) = false := by decide) : PE X (.Name x pos) (tC v) := by
  obtain ⟨u, hm, r⟩ := h
  exact pe_glob hg hm r hd
/-- isinstance(e, T) -/
theorem pe_isi {T : String} {y : Str} {p1 p2 : Pos} {te : TE} (hg : Gl X "isinstance") (hm : X.mg "isinstance" = none) (hgy : Gl X y) (hmy : X.mg y = none) (hv : bootBuiltins y = some (.type T)) (he : PE X e te) (hn : y ≠ "__name__" := by decide) (hdy : (y == ("__debug__" : Str)) = false := by decide)
    (h1 : starEach [e, .Name y p1] X.env = (false, eval e X.env) :: starEach [.Name y p1] X.env := by rfl) (h2 : (backTo pos (starEach [.Name y p1] X.env)).any (·.1) = false := by rfl) (h3 : starEach [.Name y p1] X.env = (false, eval (.Name y p1) X.env) :: starEach [] X.env := by rfl) :
    PE X (.Call (.Name "isinstance" p2) [e, .Name y p1] [] pos) (tCB (rIsi X.K) (tCons te (tCons (tC (.ty T)) tNil))) :=
  pe_callB call_isi hg hm bt_isinstance (pa_cons he (pa_cons (pe_bltn hgy hmy hv rfl hn hdy) pa_nil h3) h1) (by decide) (by decide) h1 h2
end
theorem tyX_dt {K : PySem.W.Frag} {H : Hp} {v : V} {d : PyData} (h : Dt H v d) : TyX K H v (.type (tyD d)) := by
  cases h with
  | non => exact .base .non
  | bl b => exact .base (.bl b)
  | int i => exact .base (.int i)
  | str z => exact .base (.str z)
  | lst h k => exact .base (.lst h)
  | tup h k => exact .base (.tup h)
theorem evd_isi {K : PySem.W.Frag} {σ : L2.St} {H : Hp} {te : TE} {d : PyData} {T : String} {b : Bool} (h : EvD te σ H d) (hk : kitB (tyD d) T = some b) : EvD (tCB (rIsi K) (tCons te (tCons (tC (.ty T)) tNil))) σ H (.bool b) := fun H1 e Q q =>
  h H1 e _ fun v H2 e2 dv => ⟨v, .ty T, _, _, b, rfl, .ty T, tyX_dt dv, kit_ty hk, q _ H2 e2 (.bl b)⟩
end Pc
/-! dicts whose keys are plans -/
namespace Pc
open PySem PySem.Spec PyProof.Rows L2
open Evl (Ex EvT)

def nk : Pl → NestedKey
  | .tab t => .num (t : Int)
  | .node h l r => .tup [.text h.str, nk l, nk r]
theorem nk_inj : ∀ {p q : Pl}, nk p = nk q → p = q
  | .tab t, .tab u, h => by
    have e : (t : Int) = (u : Int) := NestedKey.num.inj h
    rw [Int.ofNat.inj e]
  | .tab _, .node .., h => by cases h
  | .node .., .tab _, h => by cases h
  | .node h l r, .node h' l' r', e => by
    have e1 := NestedKey.tup.inj e
    injection e1 with e2 e3
    injection e3 with e4 e5
    injection e5 with e6 _
    have e7 : h = h' := (How.str_inj h h').mp (NestedKey.text.inj e2)
    rw [e7, nk_inj e4, nk_inj e6]
theorem nk_depth : ∀ p : Pl, (nk p).depth ≤ p.nn
  | .tab _ => Nat.zero_le _
  | .node h l r => by
    have a := nk_depth l
    have b := nk_depth r
    show max 0 (max (nk l).depth (max (nk r).depth 0)) + 1 ≤ l.nn + r.nn + 1
    omega
section
variable {P : Program} {w : World} {H H' : Hp} {h h' : Heap}
theorem nk_is : ∀ {p : Pl} {v : V} {u : Value}, HOk P w H h → Dt H v (eP p) → RelV v u → NestedIs h (nk p) u
  | .tab t, v, u, ok, d, r => by
    have e := dt_int d
    subst e
    obtain ⟨k, rfl⟩ := r
    exact .int _ _
  | .node hw l q, v, u, ok, d, r => by
    obtain ⟨a, xs, rfl, ha, ks⟩ := dt_tup d
    obtain ⟨x, y, z, rfl, k1, k2, k3⟩ := dtAll3 ks
    obtain rfl : u = .ref a := r
    obtain ⟨_, its, rv, o, e1, e2, n, e3⟩ := (show ObjOk P w H h a (.tup [x, y, z]) from ok a _ ha)
    cases rv with
    | cons r1 rv => cases rv with
      | cons r2 rv => cases rv with
        | cons r3 rv =>
          cases rv
          have e := dt_str k1
          subst e
          obtain ⟨t, rfl⟩ := r1
          exact .tup e1 e2 e3 (.cons (.text _ _) (.cons (nk_is ok k2 r2) (.cons (nk_is ok k3 r3) .nil)))
theorem nk_ref {p : Pl} {v : V} (hp : p.isT = false) (d : Dt H v (eP p)) : ∃ a, v = .ref a := by
  cases p with
  | tab t => cases hp
  | node h l r =>
    obtain ⟨a, xs, rfl, _⟩ := dt_tup d
    exact ⟨a, rfl⟩
theorem nk_int {p : Pl} {v : V} (hp : p.isT = true) (d : Dt H v (eP p)) : ∃ t : Nat, p = .tab t ∧ v = .int (t : Int) := by
  cases p with
  | tab t => exact ⟨t, rfl, dt_int d⟩
  | node h l r => cases hp
end
/-- what a dict holds: the plan, the key's own value, the value -/
abbrev Ent := Pl × V × V
def EntR (w : World) (e : Ent) (d : DictEntry) : Prop := d.hash = (nk e.1).hash w ∧ RelV e.2.1 d.key ∧ RelV e.2.2 d.val
def valP (es : List Ent) (p : Pl) : Option V := (es.find? fun e => decide (e.1 = p)).map (·.2.2)
def putP (es : List Ent) (p : Pl) (kv v : V) : List Ent := if (valP es p).isSome then es.map (fun e => if e.1 = p then (e.1, e.2.1, v) else e) else es ++ [(p, kv, v)]
def φP (w : World) (a : Addr) (es : List Ent) (h : Heap) : Prop := (es.length ≤ sizeLine ∧ (a == sysModules) = false ∧ (es.map (·.1)).Nodup) ∧
  ∃ o ds ep, h.get? a = some o ∧ o.ExactDict ∧ o.data = .dict ds ep ∧ Paired (EntR w) es ds.toList
structure PD (w : World) (H : Hp) (a : Addr) (es : List Ent) : Prop where
  own : H a = some (.ext (φP w a es))
  key : ∀ e ∈ es, Dt H e.2.1 (eP e.1) ∧ e.1.nn ≤ 8
  one : ∃ b, ∀ e ∈ es, e.1.isT = b
theorem valP_cons (e : Ent) (es : List Ent) (p : Pl) : valP (e :: es) p = if e.1 = p then some e.2.2 else valP es p := by
  unfold valP
  rw [List.find?_cons]
  by_cases h : e.1 = p
  · rw [decide_eq_true h, if_pos h]; rfl
  · rw [decide_eq_false h, if_neg h]
theorem valP_some {es : List Ent} {p : Pl} {v : V} (h : valP es p = some v) : ∃ e ∈ es, e.1 = p ∧ e.2.2 = v := by
  unfold valP at h
  obtain ⟨e, h1, h2⟩ := Option.map_eq_some_iff.mp h
  exact ⟨e, List.mem_of_find?_eq_some h1, by simpa using List.find?_some h1, h2⟩
theorem valP_isSome {es : List Ent} {p : Pl} : (valP es p).isSome = decide (p ∈ es.map (·.1)) := by
  induction es with
  | nil => rfl
  | cons e es ih =>
    rw [valP_cons]
    by_cases h : e.1 = p
    · rw [if_pos h, List.map_cons, decide_eq_true (by rw [h]; exact List.mem_cons_self ..)]; rfl
    · rw [if_neg h, ih, List.map_cons]
      exact decide_eq_decide.mpr ⟨fun q => List.mem_cons_of_mem _ q, fun q => by
        rcases List.mem_cons.mp q with q | q
        · exact absurd q.symm h
        · exact q⟩
theorem putP_keys (es : List Ent) (p : Pl) (kv v : V) : (putP es p kv v).map (·.1) = if (valP es p).isSome then es.map (·.1) else es.map (·.1) ++ [p] := by
  unfold putP
  split
  · rw [List.map_map]
    refine List.map_congr_left fun e _ => ?_
    show (if e.1 = p then (e.1, e.2.1, v) else e).1 = e.1
    split <;> rfl
  · rw [List.map_append]; rfl
theorem putP_len (es : List Ent) (p : Pl) (kv v : V) : (putP es p kv v).length ≤ es.length + 1 := by
  unfold putP
  split
  · rw [List.length_map]; omega
  · rw [List.length_append, List.length_singleton]; omega
theorem putP_mem {es : List Ent} {p : Pl} {kv v : V} {e : Ent} (h : e ∈ putP es p kv v) : (∃ f ∈ es, f.1 = e.1 ∧ f.2.1 = e.2.1) ∨ e = (p, kv, v) := by
  unfold putP at h
  split at h
  · obtain ⟨f, h1, h2⟩ := List.mem_map.mp h
    refine .inl ⟨f, h1, ?_⟩
    rw [← h2]
    split <;> exact ⟨rfl, rfl⟩
  · rcases List.mem_append.mp h with h | h
    · exact .inl ⟨e, h, rfl, rfl⟩
    · exact .inr (by simpa using h)
section
variable {P : Program} {w : World} {H H' : Hp} {h h' : Heap} {a : Addr} {es : List Ent}
theorem PD.mono (d : PD w H a es) (e : Ex H H') : PD w H' a es := ⟨e _ _ d.own, fun x hx => ⟨(d.key x hx).1.mono e, (d.key x hx).2⟩, d.one⟩
theorem PD.monoT (d : PD w H a es) (e : ExT H H') (q : H' a = H a) : PD w H' a es := ⟨q.trans d.own, fun x hx => ⟨(d.key x hx).1.monoT e (eP_tup _), (d.key x hx).2⟩, d.one⟩
theorem PD.raw (d : PD w H a es) (ok : HOk P w H h) : φP w a es h := (show ObjOk P w H h a (.ext (φP w a es)) from ok a _ d.own).1
theorem φP_stay {h1 h2 : Heap} (x : φP w a es h1) (k : ∀ o, h1.get? a = some o → h2.get? a = some o) : φP w a es h2 := by
  obtain ⟨c, o, ds, ep, e, r⟩ := x
  exact ⟨c, o, ds, ep, k o e, r⟩
theorem φP_ok (x : φP w a es h) : ObjOk P w H h a (.ext (φP w a es)) := by
  obtain ⟨_, o, ds, ep, e, _⟩ := id x
  exact ⟨x, ⟨o, e⟩, fun h1 h2 q k => φP_stay q k⟩
/-- its keys are ints -/
abbrev EntI (e : Ent) (v : Key × Value) : Prop := (∃ t : Nat, e.1 = .tab t ∧ e.2.1 = .int (t : Int) ∧ v.1 = Sum.inl (t : Int)) ∧ RelV e.2.2 v.2
theorem raw_int (d : ∀ e ∈ es, Dt H e.2.1 (eP e.1)) (hT : ∀ e ∈ es, e.1.isT = true) : ∀ {ds : List DictEntry}, Paired (EntR w) es ds →
    ∃ vs : List (Key × Value), Paired EntI es vs ∧ Pairs (mixKind P w) ds vs ∧ (∀ x ∈ ds, ∃ k, (mixKind P w).is k x.key = true ∧ x.hash = (mixKind P w).hash k) := by
  intro ds r
  induction r with
  | nil => exact ⟨[], .nil, .nil, fun x hx => nomatch hx⟩
  | @cons e x es ds h t ih =>
    obtain ⟨vs, a1, a2, a3⟩ := ih (fun e he => d e (List.mem_cons_of_mem _ he)) (fun e he => hT e (List.mem_cons_of_mem _ he))
    obtain ⟨t, q1, q2⟩ := nk_int (hT e (List.mem_cons_self ..)) (d e (List.mem_cons_self ..))
    obtain ⟨h1, h2, h3⟩ := h
    rw [q2] at h2
    rw [q1] at h1
    have hk : (mixKind P w).is (Sum.inl (t : Int)) x.key = true := kV_is (k := Sum.inl (t : Int)) h2
    refine ⟨(Sum.inl (t : Int), x.val) :: vs, .cons ⟨⟨t, q1, q2, rfl⟩, h3⟩ a1, .cons hk rfl a2, fun y hy => ?_⟩
    rcases List.mem_cons.mp hy with rfl | hy
    · exact ⟨_, hk, h1⟩
    · exact a3 y hy
theorem entI_keys {vs : List (Key × Value)} (r : Paired EntI es vs) : vs.map (·.1) = es.map (fun e => match e.1 with | .tab t => Sum.inl (t : Int) | .node .. => Sum.inl 0) := by
  induction r with
  | nil => rfl
  | cons h t ih =>
    obtain ⟨⟨t, q1, q2, q3⟩, _⟩ := h
    rw [List.map_cons, List.map_cons, ih, q3, q1]
theorem entI_nodup {vs : List (Key × Value)} (r : Paired EntI es vs) (hn : (es.map (·.1)).Nodup) : (vs.map (·.1)).Nodup := by
  induction r with
  | nil => exact List.nodup_nil
  | @cons e v es vs h tls ih =>
    rw [List.map_cons, List.nodup_cons] at hn ⊢
    refine ⟨fun hm => hn.1 ?_, ih hn.2⟩
    obtain ⟨u, hu, eu⟩ := List.mem_map.mp hm
    obtain ⟨⟨t, q1, q2, q3⟩, _⟩ := h
    have key : ∀ {es : List Ent} {vs : List (Key × Value)}, Paired EntI es vs → u ∈ vs → e.1 ∈ es.map (·.1) := by
      intro es vs r
      induction r with
      | nil => intro hu; exact nomatch hu
      | @cons f x es vs h tl ih =>
        intro hu
        rcases List.mem_cons.mp hu with rfl | hu
        · obtain ⟨⟨t', p1, p2, p3⟩, _⟩ := h
          have : (t : Int) = (t' : Int) := Sum.inl.inj (q3.symm.trans (eu.symm.trans p3))
          have : t = t' := by omega
          rw [List.map_cons, p1, q1, this]
          exact List.mem_cons_self ..
        · exact List.mem_cons_of_mem _ (ih hu)
    exact key tls hu
theorem PD.int (d : PD w H a es) (ok : HOk P w H h) (hT : ∀ e ∈ es, e.1.isT = true) : ∃ vs, Paired EntI es vs ∧ h.DictOf (mixKind P w) a vs := by
  obtain ⟨⟨_, _, hn⟩, o, ds, ep, h1, h2, h3, r⟩ := d.raw ok
  obtain ⟨vs, a1, a2, a3⟩ := raw_int (P := P) (H := H) (fun e he => (d.key e he).1) hT r
  exact ⟨vs, a1, o, ds, ep, h1, h2, h3, fun x hx => a3 x (by simpa using hx), a2, entI_nodup a1 hn⟩
theorem entI_val {vs : List (Key × Value)} (r : Paired EntI es vs) (t : Nat) : RelO (valP es (.tab t)) (valueAt vs (Sum.inl (t : Int))) := by
  induction r with
  | nil => exact True.intro
  | @cons e v es vs h tl ih =>
    obtain ⟨⟨u, q1, q2, q3⟩, q4⟩ := h
    rw [valP_cons]
    by_cases c : u = t
    · subst c
      rw [if_pos q1]
      have b : valueAt (v :: vs) (Sum.inl (u : Int)) = some v.2 := by simp [valueAt, List.find?_cons, q3]
      rw [b]
      exact q4
    · have c1 : ¬ e.1 = .tab t := fun z => c (Pl.tab.inj (q1.symm.trans z))
      have c2 : ¬ v.1 = Sum.inl (t : Int) := fun z => by
        have z2 : (u : Int) = (t : Int) := Sum.inl.inj (q3.symm.trans z)
        omega
      rw [if_neg c1]
      have b : valueAt (v :: vs) (Sum.inl (t : Int)) = valueAt vs (Sum.inl (t : Int)) := by simp [valueAt, List.find?_cons, c2]
      rw [b]
      exact ih
/-- its keys are tuples -/
abbrev EntT (e : Ent) (x : NestedKey × Addr × Value) : Prop := x.1 = nk e.1 ∧ e.2.1 = .ref x.2.1 ∧ RelV e.2.2 x.2.2
theorem raw_tup (d : ∀ e ∈ es, Dt H e.2.1 (eP e.1)) (hT : ∀ e ∈ es, e.1.isT = false) : ∀ {ds : List DictEntry}, Paired (EntR w) es ds →
    ∃ xs : List (NestedKey × Addr × Value), Paired EntT es xs ∧ ds = xs.map (entryOfKey (nestedKind P w)) := by
  intro ds r
  induction r with
  | nil => exact ⟨[], .nil, rfl⟩
  | @cons e x es ds h t ih =>
    obtain ⟨xs, a1, a2⟩ := ih (fun e he => d e (List.mem_cons_of_mem _ he)) (fun e he => hT e (List.mem_cons_of_mem _ he))
    obtain ⟨b, q⟩ := nk_ref (hT e (List.mem_cons_self ..)) (d e (List.mem_cons_self ..))
    obtain ⟨h1, h2, h3⟩ := h
    rw [q] at h2
    have h2' : x.key = .ref b := h2
    refine ⟨(nk e.1, b, x.val) :: xs, .cons ⟨rfl, q, h3⟩ a1, ?_⟩
    rw [List.map_cons, ← a2]
    congr 1
    cases x
    simp only at h1 h2' ⊢
    rw [h1, h2']
    rfl
theorem entT_keys {xs : List (NestedKey × Addr × Value)} (r : Paired EntT es xs) : xs.map (·.1) = (es.map (·.1)).map nk := by
  induction r with
  | nil => rfl
  | cons h t ih => rw [List.map_cons, List.map_cons, List.map_cons, ih, h.1]
theorem nodup_nk {ps : List Pl} (h : ps.Nodup) : (ps.map nk).Nodup := by
  induction ps with
  | nil => exact List.nodup_nil
  | cons p ps ih =>
    rw [List.nodup_cons] at h
    rw [List.map_cons, List.nodup_cons]
    refine ⟨fun hm => ?_, ih h.2⟩
    obtain ⟨q, hq, e⟩ := List.mem_map.mp hm
    rw [nk_inj e] at hq
    exact h.1 hq
theorem PD.tup (d : PD w H a es) (ok : HOk P w H h) (hT : ∀ e ∈ es, e.1.isT = false) : ∃ xs, Paired EntT es xs ∧ h.DictOfH (nestedKind P w) a xs := by
  obtain ⟨⟨_, _, hn⟩, o, ds, ep, h1, h2, h3, r⟩ := d.raw ok
  obtain ⟨xs, a1, a2⟩ := raw_tup (P := P) (H := H) (fun e he => (d.key e he).1) hT r
  refine ⟨xs, a1, o, ds, ep, h1, h2, h3, a2, ?_, by rw [entT_keys a1]; exact nodup_nk hn⟩
  have key : ∀ {es : List Ent} {xs : List (NestedKey × Addr × Value)}, (∀ e ∈ es, Dt H e.2.1 (eP e.1) ∧ e.1.nn ≤ 8) → Paired EntT es xs → ∀ x ∈ xs, (nestedKind P w).is h x.1 x.2.1 := by
    intro es xs d r
    induction r with
    | nil => intro x hx; exact nomatch hx
    | @cons e y es xs h t ih =>
      intro x hx
      rcases List.mem_cons.mp hx with rfl | hx
      · obtain ⟨q1, q2, _⟩ := h
        have q := d e (List.mem_cons_self ..)
        rw [q2] at q
        rw [q1]
        exact ⟨nk_is ok q.1 rfl, Nat.le_trans (nk_depth _) q.2⟩
      · exact ih (fun e he => d e (List.mem_cons_of_mem _ he)) x hx
  exact key d.key a1
theorem entT_val {xs : List (NestedKey × Addr × Value)} (r : Paired EntT es xs) (p : Pl) : RelO (valP es p) ((atKey xs (nk p)).map (·.2)) := by
  induction r with
  | nil => exact True.intro
  | @cons e x es xs h tl ih =>
    obtain ⟨q1, q2, q3⟩ := h
    rw [valP_cons]
    by_cases c : e.1 = p
    · rw [if_pos c]
      have b : atKey (x :: xs) (nk p) = some x.2 := by simp [atKey, List.find?_cons, q1, c]
      rw [b]
      exact q3
    · have c2 : ¬ x.1 = nk p := fun z => c (nk_inj (q1.symm.trans z))
      rw [if_neg c]
      have b : atKey (x :: xs) (nk p) = atKey xs (nk p) := by simp [atKey, List.find?_cons, c2]
      rw [b]
      exact ih
end
/-! ### what is done with them -/
theorem setItem_room {A : Around} (hu : A.units + 16 < cLine) (P : Program) (w : World) : (nestedKind P w).room A.in1 := by
  show A.in1.units + 8 < cLine
  have e : A.in1.units = A.units + 1 := rfl
  omega
/-- the dict with the value put -/
theorem put_int {es : List Ent} {vs : List (Key × Value)} {t : Nat} {v : V} {u : Value} (r : Paired EntI es vs) (rv : RelV v u) : Paired EntI (putP es (.tab t) (.int (t : Int)) v) (stored vs (Sum.inl (t : Int)) u) := by
  have hs : (vs.any fun kv => decide (kv.1 = Sum.inl (t : Int))) = (valP es (.tab t)).isSome := by
    rw [(entI_val r t).isSome_eq]
    unfold valueAt
    rw [Option.isSome_map, Bool.eq_iff_iff, List.any_eq_true, List.find?_isSome]
  unfold putP stored
  rw [hs]
  by_cases c : (valP es (.tab t)).isSome = true
  · rw [if_pos c, if_pos c]
    clear c hs
    induction r with
    | nil => exact .nil
    | @cons e x es vs h tl ih =>
      rw [List.map_cons, List.map_cons]
      refine .cons ?_ ih
      obtain ⟨⟨n, q1, q2, q3⟩, q4⟩ := h
      by_cases c : n = t
      · subst c
        rw [if_pos q1, if_pos q3]
        exact ⟨⟨n, q1, q2, q3⟩, rv⟩
      · rw [if_neg (fun z => c (Pl.tab.inj (q1.symm.trans z))), if_neg (fun z => by
          have z2 : (n : Int) = (t : Int) := Sum.inl.inj (q3.symm.trans z)
          omega)]
        exact ⟨⟨n, q1, q2, q3⟩, q4⟩
  · rw [if_neg c, if_neg c]
    exact Paired.snoc r ⟨⟨t, rfl, rfl, rfl⟩, rv⟩
theorem put_tup {es : List Ent} {xs : List (NestedKey × Addr × Value)} {p : Pl} {b : Addr} {v : V} {u : Value} (r : Paired EntT es xs) (rv : RelV v u) : Paired EntT (putP es p (.ref b) v) (storedH xs (nk p) b u) := by
  have hs : (atKey xs (nk p)).isSome = (valP es p).isSome := by
    rw [(entT_val r p).isSome_eq, Option.isSome_map]
  unfold putP storedH
  rw [hs]
  by_cases c : (valP es p).isSome = true
  · rw [if_pos c, if_pos c]
    clear c hs
    induction r with
    | nil => exact .nil
    | @cons e x es xs h tl ih =>
      rw [List.map_cons, List.map_cons]
      refine .cons ?_ ih
      obtain ⟨q1, q2, q3⟩ := h
      unfold putAt
      by_cases c : e.1 = p
      · rw [if_pos c, if_pos (by rw [q1, c])]
        exact ⟨q1, q2, rv⟩
      · rw [if_neg c, if_neg (fun z => c (nk_inj (q1.symm.trans z)))]
        exact ⟨q1, q2, q3⟩
  · rw [if_neg c, if_neg c]
    exact Paired.snoc r ⟨rfl, rfl, rv⟩
section
variable {P : Program} {w : World} {h : Heap} {a : Addr} {es : List Ent}
theorem back_int {vs : List (Key × Value)} (r : Paired EntI es vs) (hz : es.length ≤ sizeLine) (hd : (a == sysModules) = false) (hn : (es.map (·.1)).Nodup) (d : h.DictOf (mixKind P w) a vs) : φP w a es h := by
  obtain ⟨o, ds, ep, h1, h2, h3, h4, h5, hx⟩ := d
  clear hx
  refine ⟨⟨hz, hd, hn⟩, o, ds, ep, h1, h2, h3, ?_⟩
  have h4' : ∀ x ∈ ds.toList, ∃ k, (mixKind P w).is k x.key = true ∧ x.hash = (mixKind P w).hash k := fun x hx => h4 x (by simpa using hx)
  clear h4 hz hn h3
  generalize ds.toList = l at h5 h4'
  induction h5 generalizing es with
  | nil => cases r; exact .nil
  | @cons x kv l kvs k1 k2 tl ih =>
    cases r with
    | @cons e _ es _ q r =>
      obtain ⟨⟨t, q1, q2, q3⟩, q4⟩ := q
      refine .cons ?_ (ih r fun y hy => h4' y (List.mem_cons_of_mem _ hy))
      obtain ⟨k, b1, b2⟩ := h4' x (List.mem_cons_self ..)
      have ek : k = kv.1 := (mixKind P w).inj _ _ _ b1 k1
      rw [ek, q3] at b2
      rw [q3] at k1
      obtain ⟨tk, ex⟩ := Value.isInt_shape (k := (t : Int)) (v := x.key) k1
      refine ⟨by rw [q1]; exact b2, ?_, by rw [k2]; exact q4⟩
      rw [q2, ex]
      exact ⟨tk, rfl⟩
theorem back_tup {xs : List (NestedKey × Addr × Value)} (r : Paired EntT es xs) (hz : es.length ≤ sizeLine) (hd : (a == sysModules) = false) (hn : (es.map (·.1)).Nodup) (d : h.DictOfH (nestedKind P w) a xs) : φP w a es h := by
  obtain ⟨o, ds, ep, h1, h2, h3, h4, hx⟩ := d
  clear hx
  refine ⟨⟨hz, hd, hn⟩, o, ds, ep, h1, h2, h3, ?_⟩
  rw [h4]
  clear hz hn h4
  induction r with
  | nil => exact .nil
  | cons q r ih =>
    obtain ⟨q1, q2, q3⟩ := q
    rw [List.map_cons]
    refine .cons ⟨?_, ?_, q3⟩ ih
    · show _ = _
      rw [← q1]
      rfl
    · rw [q2]
      rfl
theorem putP_nodup {p : Pl} {kv v : V} (hn : (es.map (·.1)).Nodup) : ((putP es p kv v).map (·.1)).Nodup := by
  rw [putP_keys]
  by_cases c : (valP es p).isSome = true
  · rw [if_pos c]; exact hn
  · rw [if_neg c]
    rw [valP_isSome, decide_eq_true_eq] at c
    refine List.nodup_append.mpr ⟨hn, List.pairwise_singleton _ _, fun x hx y hy e => ?_⟩
    rw [List.mem_singleton.mp hy] at e
    exact c (e ▸ hx)
end
section
variable {X : Cx} {pins : List (Addr × Obj)} {σ : L2.St} {H : Hp} {s : Shared} {a : Addr} {es : List Ent} {p : Pl} {x v : V} {u r : Value} {A : Around} {E : Value → Shared → Prop}
theorem dp_get {Q : Value → Shared → Prop} (hu : A.units + 16 < cLine) (I : Inv X pins σ H s) (d : PD X.w H a es) (k : Dt H x (eP p)) (hp : p.nn ≤ 8) (hk : ∀ e ∈ es, e.1.isT = p.isT) (g : valP es p = some v) (rx : RelV x u)
    (h : ∀ w' s', Inv X pins σ H s' → RelV v w' → Q w' s') : wpAny (model X.prog X.w) A (getItem (.ref a) u) Q E s := by
  cases hT : p.isT with
  | true =>
    obtain ⟨vs, r1, dd⟩ := d.int I.hok fun e he => (hk e he).trans hT
    obtain ⟨t, rfl, rfl⟩ := nk_int hT k
    obtain ⟨w', hw, rw'⟩ := RelO.some_of (v := v) (o := valueAt vs (Sum.inl (t : Int))) (by rw [← g]; exact entI_val r1 t)
    exact wpAny_getItem_of (kV_is (k := Sum.inl (t : Int)) rx) dd.mapOf hw (h w' _ (I.tok _) rw')
  | false =>
    obtain ⟨xs, r1, dd⟩ := d.tup I.hok fun e he => (hk e he).trans hT
    obtain ⟨b, rfl⟩ := nk_ref hT k
    obtain rfl : u = Value.ref b := rx
    obtain ⟨w', hw, rw'⟩ := RelO.some_of (v := v) (o := (atKey xs (nk p)).map (·.2)) (by rw [← g]; exact entT_val r1 p)
    obtain ⟨q, hq, hq2⟩ := Option.map_eq_some_iff.mp hw
    refine wpAny_getItem_heap (setItem_room hu _ _) ⟨nk_is I.hok k rfl, Nat.le_trans (nk_depth _) hp⟩ dd hq ?_
    rw [hq2]
    exact h w' _ (I.tok _) rw'
theorem dp_in {Q : Value → Shared → Prop} (hu : A.units + 16 < cLine) (I : Inv X pins σ H s) (d : PD X.w H a es) (k : Dt H x (eP p)) (hp : p.nn ≤ 8) (hk : ∀ e ∈ es, e.1.isT = p.isT) (rx : RelV x u)
    (h : ∀ s', Inv X pins σ H s' → Q (.bool (valP es p).isSome) s') : wpAny (model X.prog X.w) A (compareOp .In u (.ref a)) Q E s := by
  have hs := (d.raw I.hok).1.2.1
  cases hT : p.isT with
  | true =>
    obtain ⟨vs, r1, dd⟩ := d.int I.hok fun e he => (hk e he).trans hT
    obtain ⟨t, rfl, rfl⟩ := nk_int hT k
    refine wpAny_in_of (kV_is (k := Sum.inl (t : Int)) rx) hs dd.mapOf ?_
    rw [← (entI_val r1 t).isSome_eq]
    exact h _ (I.tok _)
  | false =>
    obtain ⟨xs, r1, dd⟩ := d.tup I.hok fun e he => (hk e he).trans hT
    obtain ⟨b, rfl⟩ := nk_ref hT k
    obtain rfl : u = Value.ref b := rx
    refine wpAny_in_heap (setItem_room hu _ _) ⟨nk_is I.hok k rfl, Nat.le_trans (nk_depth _) hp⟩ hs dd ?_
    have q := (entT_val r1 p).isSome_eq
    rw [Option.isSome_map] at q
    rw [← q]
    exact h _ (I.tok _)
theorem dp_notIn {Q : Value → Shared → Prop} (hu : A.units + 16 < cLine) (I : Inv X pins σ H s) (d : PD X.w H a es) (k : Dt H x (eP p)) (hp : p.nn ≤ 8) (hk : ∀ e ∈ es, e.1.isT = p.isT) (rx : RelV x u)
    (h : ∀ s', Inv X pins σ H s' → Q (.bool (!(valP es p).isSome)) s') : wpAny (model X.prog X.w) A (compareOp .NotIn u (.ref a)) Q E s := by
  have hs := (d.raw I.hok).1.2.1
  cases hT : p.isT with
  | true =>
    obtain ⟨vs, r1, dd⟩ := d.int I.hok fun e he => (hk e he).trans hT
    obtain ⟨t, rfl, rfl⟩ := nk_int hT k
    refine wpAny_notIn_of (kV_is (k := Sum.inl (t : Int)) rx) hs dd.mapOf ?_
    rw [← (entI_val r1 t).isSome_eq]
    exact h _ (I.tok _)
  | false =>
    obtain ⟨xs, r1, dd⟩ := d.tup I.hok fun e he => (hk e he).trans hT
    obtain ⟨b, rfl⟩ := nk_ref hT k
    obtain rfl : u = Value.ref b := rx
    refine wpAny_notIn_heap (setItem_room hu _ _) ⟨nk_is I.hok k rfl, Nat.le_trans (nk_depth _) hp⟩ hs dd ?_
    have q := (entT_val r1 p).isSome_eq
    rw [Option.isSome_map] at q
    rw [← q]
    exact h _ (I.tok _)
/-- what the object is changed to -/
abbrev dpO (w : World) (a : Addr) (es : List Ent) : HO := .ext (φP w a es)
theorem dp_write {h' : Heap} {t' : Nat} {es' : List Ent} (I : Inv X pins σ H s) (d : PD X.w H a es) (hs : Heap.SameBut a s.heap h') (q : φP X.w a es' h') : Inv X pins σ (upd H a (dpO X.w a es')) { s with heap := h', toks := t' } := by
  obtain ⟨_, o, ds, ep, e, _⟩ := id q
  exact d_write I (by rw [d.own]; exact True.intro) hs ⟨o, e⟩ (φP_ok q)
theorem dp_set {Q : Unit → Shared → Prop} (hu : A.units + 16 < cLine) (I : Inv X pins σ H s) (d : PD X.w H a es) (k : Dt H x (eP p)) (hp : p.nn ≤ 8) (hk : ∀ e ∈ es, e.1.isT = p.isT) (hz : es.length < 100000) (rx : RelV x u) (rv : RelV v r)
    (h : ∀ s', Inv X pins σ (upd H a (dpO X.w a (putP es p x v))) s' → Q () s') : wpAny (model X.prog X.w) A (setItem (.ref a) u r) Q E s := by
  obtain ⟨⟨z, hd, hn⟩, _⟩ := d.raw I.hok
  have hl : (putP es p x v).length ≤ sizeLine := Nat.le_trans (putP_len _ _ _ _) (sz5 (by omega))
  cases hT : p.isT with
  | true =>
    obtain ⟨vs, r1, dd⟩ := d.int I.hok fun e he => (hk e he).trans hT
    obtain ⟨t, rfl, rfl⟩ := nk_int hT k
    refine wpAny_setItem_pairs (hsz := by rw [← Paired.length r1]; exact z) (kV_is (k := Sum.inl (t : Int)) rx) dd fun h' dd' hs => h _ ?_
    exact dp_write I d hs (back_int (put_int r1 rv) hl hd (putP_nodup hn) dd')
  | false =>
    obtain ⟨xs, r1, dd⟩ := d.tup I.hok fun e he => (hk e he).trans hT
    obtain ⟨b, rfl⟩ := nk_ref hT k
    obtain rfl : u = Value.ref b := rx
    refine wpAny_setItem_heap (hsz := by rw [← Paired.length r1]; exact z) (setItem_room hu _ _) ⟨nk_is I.hok k rfl, Nat.le_trans (nk_depth _) hp⟩ dd fun h' dd' hs => h _ ?_
    exact dp_write I d hs (back_tup (put_tup r1 rv) hl hd (putP_nodup hn) dd')
/-- the same, by a comprehension -/
theorem dp_dictSet {Q : Unit → Shared → Prop} (hu : A.units + 16 < cLine) (I : Inv X pins σ H s) (d : PD X.w H a es) (k : Dt H x (eP p)) (hp : p.nn ≤ 8) (hk : ∀ e ∈ es, e.1.isT = p.isT) (hz : es.length < 100000) (rx : RelV x u) (rv : RelV v r)
    (h : ∀ s', Inv X pins σ (upd H a (dpO X.w a (putP es p x v))) s' → Q () s') : wpAny (model X.prog X.w) A (dictSet a u r) Q E s := by
  obtain ⟨⟨z, hd, hn⟩, _⟩ := d.raw I.hok
  have hl : (putP es p x v).length ≤ sizeLine := Nat.le_trans (putP_len _ _ _ _) (sz5 (by omega))
  cases hT : p.isT with
  | true =>
    obtain ⟨vs, r1, dd⟩ := d.int I.hok fun e he => (hk e he).trans hT
    obtain ⟨t, rfl, rfl⟩ := nk_int hT k
    refine wpAny_dictSet_pairs (hsz := by rw [← Paired.length r1]; exact z) (kV_is (k := Sum.inl (t : Int)) rx) dd fun h' dd' hs => h _ ?_
    exact dp_write I d hs (back_int (put_int r1 rv) hl hd (putP_nodup hn) dd')
  | false =>
    obtain ⟨xs, r1, dd⟩ := d.tup I.hok fun e he => (hk e he).trans hT
    obtain ⟨b, rfl⟩ := nk_ref hT k
    obtain rfl : u = Value.ref b := rx
    refine wpAny_dictSet_heap (knd := nestedKind X.prog X.w) (hsz := by rw [← Paired.length r1]; exact z) (show A.units + 8 < cLine by omega) ⟨nk_is I.hok k rfl, Nat.le_trans (nk_depth _) hp⟩ dd fun h' dd' hs => h _ ?_
    exact dp_write I d hs (back_tup (put_tup r1 rv) hl hd (putP_nodup hn) dd')
end
end Pc
/-! sorted(.., key=f): f a def of the program -/
namespace Pc
open PySem PySem.W PySem.Spec PySem.Calls PyProof.Rows L2
open Evl (Ex EvT)

section
variable {P : Program} {w : World} {H : Hp} {h : Heap}
mutual
theorem reads_of (ok : HOk P w H h) : ∀ {d : PyData} {v : V} {u : Value}, tupOnly d = true → Dt H v d → RelV v u → Reads h u d []
  | .none, _, _, _, k, r => by cases k; obtain rfl : _ = Value.none := r; exact .none
  | .bool _, _, _, _, k, r => by cases k; obtain rfl : _ = Value.bool _ := r; exact .bool _
  | .int _, _, _, _, k, r => by cases k; obtain ⟨t, rfl⟩ := r; exact .int _ _
  | .str _, _, _, _, k, r => by cases k; obtain ⟨t, rfl⟩ := r; exact .str _ _
  | .list ds, _, _, t, _, _ => by simp [tupOnly] at t
  | .tuple ds, _, _, t, k, r => by
    obtain ⟨a, xs, rfl, ha, ks⟩ := dt_tup k
    obtain rfl : _ = Value.ref a := r
    obtain ⟨_, its, rv, o, e1, e2, n, e3⟩ := (show ObjOk P w H h a (.tup xs) from ok a _ ha)
    exact .tuple e1 e2 e3 (readsAll_of ok (by simpa [tupOnly] using t) ks rv)
  | .dict _, _, _, t, _, _ => by simp [tupOnly] at t
theorem readsAll_of (ok : HOk P w H h) : ∀ {ds : List PyData} {vs : List V} {us : List Value}, tupOnlyAll ds = true → DtAll H vs ds → Vals vs us → ReadsAll h us ds []
  | [], _, _, _, k, r => by cases k; cases r; exact .nil
  | d :: ds, _, _, t, k, r => by
    rw [tupOnlyAll, Bool.and_eq_true] at t
    cases k with
    | cons k1 k2 => cases r with
      | cons r1 r2 => exact .cons (as := []) (bs := []) (reads_of ok t.1 k1 r1) (readsAll_of ok t.2 k2 r2)
end
end
/-- a key function's call, within sorted -/
def KeyCall (X : Cx) (u : Value) (spk : V → Hp → VK → Prop) : Prop :=
  ∀ (pins : List (Addr × Obj)) (s : Shared) (σ : L2.St) (H : Hp) (x : V) (v : Value) (Q : VK), Inv X pins σ H s → RelV x v → spk x H Q →
    wpAny (model X.prog X.w) X.A.in1.in1 (call u [v]) (EP X pins σ Q) (fun _ _ => False) s
/-- from each of the items the wanted key -/
def KeyGives (spk : V → Hp → VK → Prop) (H : Hp) (ws : List V) (kz : List PyData) : Prop :=
  ∀ (i : Nat) (x : V) (d : PyData), ws[i]? = some x → kz[i]? = some d → ∀ H1, Ex H H1 → ∀ Q : VK, (∀ v H2, Ex H1 H2 → Dt H2 v d → Q v H2) → spk x H1 Q
theorem EachIs.pair {α β : Type} {R : α → β → Prop} : ∀ {as : List α} {bs : List β}, as.length = bs.length → (∀ (i : Nat) a b, as[i]? = some a → bs[i]? = some b → R a b) → EachIs R as bs
  | [], [], _, _ => .nil
  | [], _ :: _, h, _ => by simp at h
  | _ :: _, [], h, _ => by simp at h
  | a :: as, b :: bs, h, f => .cons (f 0 a b rfl rfl) (EachIs.pair (by simpa using h) fun i x y hx hy => f (i + 1) x y (by simpa using hx) (by simpa using hy))
theorem vals_at {xs : List V} {us : List Value} (r : Vals xs us) {i : Nat} {u : Value} (h : us[i]? = some u) : ∃ x, xs[i]? = some x ∧ RelV x u := by
  have hl := r.length
  have hi := (List.getElem?_eq_some_iff.mp h).1
  obtain ⟨u', e1, e2⟩ := r.get (List.getElem?_eq_getElem (l := xs) (i := i) (by omega))
  rw [h] at e1
  cases e1
  exact ⟨_, List.getElem?_eq_getElem (by omega), e2⟩
section
variable {X : Cx} {pins : List (Addr × Obj)} {σ : L2.St} {H : Hp} {s : Shared}
theorem key_run {u : Value} {spk : V → Hp → VK → Prop} {a kS : Addr} {e1 : Nat} {vs : List Value} {ws : List V} {kz : List PyData} {E : Value → Shared → Prop} {P : PySem.Fin → Shared → Prop}
    (kc : KeyCall X u spk) (I : Inv X pins σ H s) (fa : FpOk X pins H a) (fk : FpOk X pins H kS) (nk : s.heap.get? kS = some (seqObj "list" #[] 0)) (na : s.heap.get? a = some (seqObj "list" #[] e1)) (hka : kS ≠ a)
    (rv : Vals ws vs) (kg : KeyGives spk H ws kz) (hlen : kz.length = vs.length) (hZ : vs.length ≤ 100000) (ht : tupOnlyAll kz = true) (hal : AllAlike kz) (hsk : Sortable kz) (hu : ∀ d, d ∈ kz → X.A.in1.in1.units + d.depth < cLine)
    (fin : ∀ (H2 : Hp) (s' : Shared) (out : List Value) (c : Nat), Ex H H2 → H2 a = none → Inv X pins σ H2 s' → s'.heap.get? a = some (seqObj "list" out.toArray c) → KeyedOut false kz vs out → P (.done (.ret .none)) s') :
    wpAny (model X.prog X.w) X.A.in1.in1 (ksk_rest a u false vs.toArray e1 (.ref kS)) P E s := by
  have hZ' : vs.length ≤ sizeLine := sz5 hZ
  unfold ksk_rest
  refine wpAny_bind (wpAny_rule ?_)
  first
    | rw [List.forIn_toArray]
    | (rw [← Array.forIn_toList]; simp only [List.toList_toArray])
    | rw [← Array.forIn_toList]
  refine wpAny_bind (ksk_fold (fun i s' => ∃ (H' : Hp) (kA : Array Value) (e : Nat) (kvs : List V), Ex H H' ∧ Inv X pins σ H' s' ∧ H' a = none ∧ H' kS = none ∧ s'.heap.get? kS = some (seqObj "list" kA e) ∧
    s'.heap.get? a = some (seqObj "list" #[] e1) ∧ Vals kvs kA.toList ∧ DtAll H' kvs (kz.take i)) vs 0 s ⟨H, #[], 0, [], Ex.refl _, I, fa.1, fk.1, nk, na, .nil, by rw [List.take_zero]; exact .nil⟩ ?step ?done)
  case step =>
    rintro j x s1 hx ⟨H1, kA, e, kvs, eH, I1, a1, k1, nk1, na1, rk, dk⟩
    simp only [Nat.zero_add] at dk ⊢
    have hj : j < vs.length := (List.getElem?_eq_some_iff.mp hx).1
    obtain ⟨k, hkj⟩ : ∃ k, kz[j]? = some k := ⟨_, List.getElem?_eq_getElem (by omega)⟩
    obtain ⟨y, hy, ry⟩ := vals_at rv hx
    have hz : kA.size ≤ vs.length := by
      have h1 := rk.length
      have h2 := dk.length
      rw [List.length_take] at h2
      have hs : kA.size = kA.toList.length := (Array.length_toList).symm
      omega
    have I2 := I1.pinned (fp := [kS, a]) (fun b hb => by
      rcases List.mem_cons.mp hb with rfl | hb
      · exact ⟨k1, fk.2⟩
      · rw [List.mem_singleton.mp hb]; exact ⟨a1, fa.2⟩) (fun b hb => by
      rcases List.mem_cons.mp hb with rfl | hb
      · exact ⟨_, nk1, fun v z => nomatch z⟩
      · rw [List.mem_singleton.mp hb]; exact ⟨_, na1, fun v z => nomatch z⟩)
    refine wpAny_bind (wpAny_attempt (wpAny_mono (kc _ s1 σ H1 y x (fun v H2 => Ex H1 H2 ∧ Dt H2 v k) I2 ry (kg j y k hy hkj H1 eH _ fun v H2 e d => ⟨e, d⟩)) (fun v s2 he => ?_) fun _ _ hF => hF.elim))
    obtain ⟨z, H2, I3, rz, e2, dz⟩ := he
    have pk := I3.pin (kS, seqObj "list" kA e) (List.mem_append_right _ (List.mem_append_right _ (mem_pinsAt (by simp) nk1)))
    have pa := I3.pin (a, seqObj "list" #[] e1) (List.mem_append_right _ (List.mem_append_right _ (mem_pinsAt (by simp) na1)))
    have I4 := I3.unpinned
    try dsimp only
    have s1' := Heap.SameBut.update s2.heap kS (Obj.mapSeq (·.push v))
    obtain ⟨c2, hc2⟩ : ∃ c2, (s2.heap.update kS (Obj.mapSeq (·.push v))).get? kS = some (seqObj "list" (kA.push v) c2) := ⟨_, get?_update_seq pk.1 (·.push v)⟩
    have ek : kz.take (j + 1) = kz.take j ++ [k] := by rw [List.take_add_one, hkj]; simp
    have ea : (kA.push v).toList = kA.toList ++ [v] := by simp
    refine wpAny_bind (listUpdate_at pk.1 rfl ?_ (Nat.le_trans hz hZ') (Nat.le_trans (Nat.le_of_eq (Array.size_push ..)) (Nat.succ_le_succ (Nat.le_trans hz hZ'))))
    refine wpAny_pure ⟨rfl, H2, kA.push v, c2, kvs ++ [z], eH.trans e2, ?_, pa.2.1, pk.2.1, hc2, (s1'.2 a hka.symm).trans pa.1, ?_, ?_⟩
    · exact I4.turned (t' := s2.toks) (fun b o hb q => (s1'.2 b hb).trans q) pk.2.1 fk.2.1 fk.2.2.2.1 fk.2.2.2.2.1 fk.2.2.2.2.2
    · rw [ea]; exact rk.append (.cons rz .nil)
    · rw [ek]; exact (dk.mono e2).append (.one dz)
  case done =>
    rintro s1 ⟨H1, kA, e, kvs, eH, I1, a1, k1, nk1, na1, rk, dk⟩
    have e3 : kz.take (0 + vs.length) = kz := List.take_of_length_le (by omega)
    rw [e3] at dk
    have hl1 := rk.length
    have hl2 := dk.length
    have hs : kA.size = kA.toList.length := (Array.length_toList).symm
    have hk' : EachIs (fun v k => ∃ as, Reads s1.heap v k as) kA.toList kz := EachIs.pair (by omega) fun i v d hv hd => by
      obtain ⟨y, hy, ry⟩ := vals_at rk hv
      obtain ⟨d', hd', dd⟩ := dk.get hy
      rw [hd] at hd'
      cases hd'
      have tt : tupOnly d = true := by
        have key : ∀ {l : List PyData}, tupOnlyAll l = true → d ∈ l → tupOnly d = true := by
          intro l
          induction l with
          | nil => intro _ hm; exact nomatch hm
          | cons x l ih =>
            intro t hm
            rw [tupOnlyAll, Bool.and_eq_true] at t
            rcases List.mem_cons.mp hm with rfl | hm
            · exact t.1
            · exact ih t.2 hm
        exact key ht (List.mem_of_getElem? hd)
      exact ⟨[], reads_of I1.hok tt dd ry⟩
    try dsimp only
    refine wpAny_bind (listItems_at nk1 rfl ?_)
    refine keyH_end (κ := dataKind s1.heap kz) (h₁ := hideAll s1.heap [kS]) (fun b o hb q => of_hideAll _ q) (hideAll_none _ (by simp)) nk1 na1 hka (SortsAt.data (s := s1) hk' hal hsk hu) (by omega) hZ' fun h3 tk3 c k3 n3 => ?_
    refine fin H1 { s1 with heap := h3, toks := tk3 } _ c eH a1 ?_ n3 ⟨s1.heap, kA.toList, hal, rfl, hk'⟩
    refine Inv.turnedL (ch := [kS, a]) I1 (fun b o hb q => ?_) fun b hb => ?_
    · have hb1 : b ≠ a := fun z => hb (by simp [z])
      have hb2 : b ∉ [kS] := fun z => hb (by rw [List.mem_singleton.mp z]; simp)
      exact k3 b o hb1 (hideAll_get _ q hb2)
    · rcases List.mem_cons.mp hb with rfl | hb
      · exact ⟨k1, fk.2⟩
      · rw [List.mem_singleton.mp hb]; exact ⟨a1, fa.2⟩
/-- sorted(it, key=f), what it collects: vs -/
theorem sorted_run' {f : Addr} {r : Value} {spk : V → Hp → VK → Prop} {vs : List Value} {ws : List V} {kz : List PyData} {Q : Value → Shared → Prop} {E : Value → Shared → Prop}
    (hcol : ∀ (E' : Value → Shared → Prop) (R : List Value → Shared → Prop), (∀ h' tk, (∀ b o, s.heap.get? b = some o → h'.get? b = some o) → R vs { s with heap := h', toks := tk }) → wpAny (model X.prog X.w) X.A.in1 (collect r) R E' s)
    (kc : KeyCall X (.ref f) spk) (I : Inv X pins σ H s) (rv : Vals ws vs) (kg : KeyGives spk H ws kz) (hlen : kz.length = vs.length) (hZ : vs.length ≤ 100000) (ht : tupOnlyAll kz = true) (hal : AllAlike kz) (hsk : Sortable kz)
    (hu : ∀ d, d ∈ kz → X.A.in1.in1.units + d.depth < cLine)
    (fin : ∀ (l : Addr) (H2 : Hp) (s' : Shared) (out : List Value) (c : Nat), H l = none → Ex H H2 → FpOk X pins H2 l → Inv X pins σ H2 s' → s'.heap.get? l = some (seqObj "list" out.toArray c) → KeyedOut false kz vs out → Q (.ref l) s') :
    wpAny (model X.prog X.w) X.A (call (.builtin "sorted") [r] [(Str.ofString "key", .ref f)]) Q E s := by
  refine call_function_entry_kw kind_sorted plain_sorted entry_sorted (by cases r <;> exact PyProof.Rows.ksk_s1 _ _) ?_
  unfold Builtin.«sorted»
  refine wpAny_bind (m := checkCount "sorted" 1 1 [r].length) (wpAny_pure (wpAny_bind (hcol _ _ fun g tk kp => wpAny_bind (wpAny_newList ?_ (sz5 hZ)))))
  have I1 : Inv X pins σ H { s with heap := g, toks := tk } := I.kept kp
  have ol : (g.push (seqObj "list" vs.toArray 0)).get? g.objs.size = some (seqObj "list" vs.toArray 0) := Heap.get?_push_size _ rfl
  have I2 : Inv X pins σ H { s with heap := g.push (seqObj "list" vs.toArray 0), toks := tk } := I1.kept fun b o e => Heap.get?_push_of_some _ e
  have nl : H g.objs.size = none := I1.hok.fresh (Nat.le_refl _)
  have fl : FpOk X pins H g.objs.size := I1.fpOk (Nat.le_refl _) nl
  refine wpAny_bind (wpAny_holding (wpAny_call_entry_kw PyProof.Rows.slot_list_sort ⟨_, ol, rfl⟩ PyProof.Rows.entry_list_sort ?_ (PyProof.Rows.ksk_l1 _ _)))
  rw [PyProof.Rows.ksk_t1]
  generalize hg2 : g.push (seqObj "list" vs.toArray 0) = g2 at I2 ol ⊢
  generalize g.objs.size = l at nl fl ol ⊢
  obtain ⟨e1, ol1⟩ : ∃ e1, (g2.update l (Obj.mapSeq fun _ => (#[] : Array Value))).get? l = some (seqObj "list" #[] e1) := ⟨_, get?_update_seq ol fun _ => #[]⟩
  have sb := Heap.SameBut.update g2 l (Obj.mapSeq fun _ => (#[] : Array Value))
  have I3 : Inv X pins σ H { s with heap := g2.update l (Obj.mapSeq fun _ => (#[] : Array Value)), toks := tk } :=
    I2.turned (t' := tk) (fun b o hb q => (sb.2 b hb).trans q) nl fl.2.1 fl.2.2.2.1 fl.2.2.2.2.1 fl.2.2.2.2.2
  show wpAny (model X.prog X.w) X.A.in1.in1 (ksk_tree l (.ref f) false) _ _ _
  unfold ksk_tree
  refine wpAny_bind (listItems_at ol rfl (wpAny_bind (listUpdate_at ol rfl ?_ (by rw [List.size_toArray]; exact sz5 hZ) (Nat.zero_le _))))
  refine wpAny_bind (seqEpoch_at ol1 rfl (wpAny_bind (wpAny_newTuple ?_ (by show vs.length ≤ _; exact sz5 hZ))))
  refine wpAny_bind (wpAny_newList (wpAny_holding ?_) (Nat.zero_le _))
  generalize hg3 : g2.update l (Obj.mapSeq fun _ => (#[] : Array Value)) = g3 at ol1 I3 ⊢
  have I4 : Inv X pins σ H { s with heap := g3.push (seqObj "tuple" vs.toArray 0), toks := tk } := I3.kept fun b o e => Heap.get?_push_of_some _ e
  have ll : l < g3.objs.size := Heap.lt_size ol1
  have sz4 : (g3.push (seqObj "tuple" vs.toArray 0)).objs.size = g3.objs.size + 1 := size_push' _ _
  have nk : H (g3.push (seqObj "tuple" vs.toArray 0)).objs.size = none := I4.hok.fresh (Nat.le_refl _)
  refine key_run (s := { s with heap := (g3.push (seqObj "tuple" vs.toArray 0)).push (seqObj "list" #[] 0), toks := tk }) (kz := kz) kc (I4.kept fun b o e => Heap.get?_push_of_some _ e) fl (I4.fpOk (Nat.le_refl _) nk)
    (Heap.get?_push_size _ rfl) (Heap.get?_push_of_some _ (Heap.get?_push_of_some _ ol1)) (by rw [sz4]; exact Nat.ne_of_gt (Nat.lt_succ_of_lt ll)) rv kg hlen hZ ht hal hsk hu fun H2 s' out c e2 n2 I5 o5 ko => ?_
  exact ⟨.none, rfl, wpAny_pure ⟨_, rfl, fin l H2 s' out c nl e2 ⟨n2, fl.2⟩ I5 o5 ko⟩⟩
end
/-- how the steps are put in order -/
def leP (p q : Pl) : Bool := dataLe false eSpell p q
theorem alike_pair (a b : Str × Nat) : alike (.tuple [.str a.1, .int (a.2 : Int)]) (.tuple [.str b.1, .int (b.2 : Int)]) = true := rfl
theorem alike_spell : ∀ xs ys : List (Str × Nat), alikeAll (xs.map fun q => PyData.tuple [.str q.1, .int (q.2 : Int)]) (ys.map fun q => PyData.tuple [.str q.1, .int (q.2 : Int)]) = true
  | [], _ => by simp [alikeAll]
  | _ :: _, [] => by simp [alikeAll]
  | x :: xs, y :: ys => by
    rw [List.map_cons, List.map_cons, alikeAll, alike_pair, alike_spell xs ys]
    rfl
theorem spell_cons (p : Pl) : ∃ x r, p.spell = x :: r := by
  cases p with
  | tab t => exact ⟨_, _, rfl⟩
  | node h l r => exact ⟨_, _, rfl⟩
theorem spell_alike (ps : List Pl) : AllAlike (ps.map eSpell) := by
  intro d hd d' hd'
  obtain ⟨p, _, rfl⟩ := List.mem_map.mp hd
  obtain ⟨q, _, rfl⟩ := List.mem_map.mp hd'
  exact alike_spell _ _
theorem spell_sortable (ps : List Pl) : Sortable (ps.map eSpell) := by
  refine .inl fun d hd => ?_
  obtain ⟨p, _, rfl⟩ := List.mem_map.mp hd
  obtain ⟨x, r, e⟩ := spell_cons p
  exact ⟨_, _, by unfold eSpell; rw [e, List.map_cons]⟩
theorem depth_spell : ∀ xs : List (Str × Nat), PyData.depthAll (xs.map fun q => PyData.tuple [.str q.1, .int (q.2 : Int)]) ≤ 1
  | [] => Nat.zero_le _
  | x :: xs => by
    have h := depth_spell xs
    rw [List.map_cons, PyData.depthAll]
    have e : (PyData.tuple [.str x.1, .int (x.2 : Int)]).depth = 1 := rfl
    rw [e]
    omega
theorem spell_depth (p : Pl) : (eSpell p).depth ≤ 2 := by
  have h := depth_spell p.spell
  show PyData.depthAll _ + 1 ≤ 2
  omega
theorem spell_tupAll : ∀ xs : List (Str × Nat), tupOnlyAll (xs.map fun q => PyData.tuple [.str q.1, .int (q.2 : Int)]) = true
  | [] => rfl
  | x :: xs => by
    rw [List.map_cons, tupOnlyAll, spell_tupAll xs]
    rfl
theorem spell_tup (p : Pl) : tupOnly (eSpell p) = true := spell_tupAll p.spell
theorem spells_tup (ps : List Pl) : tupOnlyAll (ps.map eSpell) = true := tupOnlyAll_of fun d hd => by
  obtain ⟨p, _, rfl⟩ := List.mem_map.mp hd
  exact spell_tup p
theorem eachIs_of {R : Value → V × Pl → Prop} : ∀ {vs : List Value} {ws : List V} {ps : List Pl}, ps.length = ws.length → Vals ws vs → (∀ v x p, L2.RelV x v → R v (x, p)) → EachIs R vs (ws.zip ps)
  | _, [], [], _, r, _ => by cases r; exact .nil
  | _, w :: ws, p :: ps, h, r, f => by
    cases r with
    | cons r1 r2 => exact .cons (f _ _ _ r1) (eachIs_of (by simpa using h) r2 f)
  | _, [], _ :: _, h, _, _ => by simp at h
  | _, _ :: _, [], h, _, _ => by simp at h
theorem each_vals : ∀ {vs : List Value} {qs : List (V × Pl)}, EachIs (fun v (b : V × Pl) => L2.RelV b.1 v) vs qs → Vals (qs.map (·.1)) vs
  | _, [], h => by cases h; exact .nil
  | _, q :: qs, h => by
    cases h with
    | cons h1 t => exact .cons h1 (each_vals t)
theorem dtAll_zip {H : Hp} : ∀ {ws : List V} {ps : List Pl}, DtAll H ws (ps.map eP) → ∀ z ∈ ws.zip ps, Dt H z.1 (eP z.2)
  | [], _, _, z, hz => by simp at hz
  | _ :: _, [], h, _, _ => by cases h
  | w :: ws, p :: ps, h, z, hz => by
    cases h with
    | cons h1 t =>
      rw [List.zip_cons_cons] at hz
      rcases List.mem_cons.mp hz with rfl | hz
      · exact h1
      · exact dtAll_zip t z hz
theorem dtAll_unzip {H : Hp} : ∀ {qs : List (V × Pl)}, (∀ z ∈ qs, Dt H z.1 (eP z.2)) → DtAll H (qs.map (·.1)) ((qs.map (·.2)).map eP)
  | [], _ => .nil
  | q :: qs, h => .cons (h q (List.mem_cons_self ..)) (dtAll_unzip fun z hz => h z (List.mem_cons_of_mem _ hz))
def rSortP (w : World) (f : Addr) (spk : V → Hp → VK → Prop) : List V → List V → Hp → VK → Prop := fun vs zs H Q => ∃ (a : Addr) (ws : List V) (ps : List Pl), vs = [.ref a] ∧ zs = [.ref f] ∧
  (H a = some (.lst ws) ∨ ∃ es, PD w H a es ∧ ws = es.map (·.2.1) ∧ ps = es.map (·.1)) ∧ DtAll H ws (ps.map eP) ∧ KeyGives spk H ws (ps.map eSpell) ∧ ps.length ≤ 50000 ∧
  ∀ (l : Addr) (H2 : Hp) (ys : List V), H l = none → H2 l = none → Ex H H2 → DtAll H2 ys ((ps.mergeSort leP).map eP) → Q (.ref l) (upd H2 l (.lst ys))
theorem entR_keys {w : World} : ∀ {es : List Ent} {ds : List DictEntry}, Paired (EntR w) es ds → Vals (es.map (·.2.1)) (ds.map (·.key)) ∧ es.length = ds.length
  | [], _, h => by cases h; exact ⟨.nil, rfl⟩
  | e :: es, _, h => by
    cases h with
    | cons h1 t =>
      obtain ⟨q1, q2⟩ := entR_keys t
      exact ⟨.cons h1.2.1 q1, congrArg Nat.succ q2⟩
theorem keys_of {ds : Array DictEntry} {acc : Array Value} (it : ItemsOf (fun i v => ∃ en : DictEntry, ds[i]? = some en ∧ v = en.key) acc ds.size) : acc.toList = ds.toList.map (·.key) := by
  apply List.ext_getElem?
  intro j
  rw [List.getElem?_map]
  cases hj : acc.toList[j]? with
  | none =>
    have h1 := List.getElem?_eq_none_iff.mp hj
    rw [Array.length_toList, it.1] at h1
    rw [List.getElem?_eq_none (by rw [Array.length_toList]; exact h1)]
    rfl
  | some v =>
    obtain ⟨en, hen, hv⟩ := it.2 j v (by rw [← Array.getElem?_toList]; exact hj)
    rw [Array.getElem?_toList, hen, hv]
    rfl
section
variable {X : Cx}
theorem cr_sortP {f : Addr} {spk : V → Hp → VK → Prop} (hc : X.calm = true) (hu : X.A.units + 16 < cLine) (kc : KeyCall X (.ref f) spk) : CallRK X (.builtin "sorted") [Str.ofString "key"] (rSortP X.w f spk) := by
  intro pins s σ H vs zs us us' Q I r rz h
  obtain ⟨a, ws, ps, rfl, rfl, src, dk, kg, hz, q⟩ := h
  obtain rfl := Vals.ref1 r
  obtain rfl := Vals.ref1 rz
  have hl := dk.length
  rw [List.length_map] at hl
  show wpAny (model X.prog X.w) X.A (call (.builtin "sorted") [.ref a] [(Str.ofString "key", .ref f)]) _ _ s
  have fin : ∀ {vs : List Value}, Vals ws vs → (∀ (E' : Value → Shared → Prop) (R : List Value → Shared → Prop), (∀ h' tk, (∀ b o, s.heap.get? b = some o → h'.get? b = some o) → R vs { s with heap := h', toks := tk }) → wpAny (model X.prog X.w) X.A.in1 (collect (.ref a)) R E' s) →
      wpAny (model X.prog X.w) X.A (call (.builtin "sorted") [.ref a] [(Str.ofString "key", .ref f)]) (EP X pins σ Q) X.xe s := by
    intro vs rv hcol
    have hv := rv.length
    refine sorted_run' (kz := ps.map eSpell) hcol kc I rv kg (by rw [List.length_map]; omega) (by omega) (spells_tup ps) (spell_alike ps) (spell_sortable ps) (fun d hd => ?_) fun l H2 s' out c nl e2 fl I2 ol ko => ?_
    · obtain ⟨p, _, rfl⟩ := List.mem_map.mp hd
      have := spell_depth p
      show X.A.units + 1 + 1 + _ < _
      omega
    · have ez : ps = (ws.zip ps).map (·.2) := (List.map_snd_zip (by omega)).symm
      have ko' : KeyedOut false ((ws.zip ps).map fun b => eSpell b.2) vs out := by
        have e : (ws.zip ps).map (fun b => eSpell b.2) = ps.map eSpell := by
          conv => rhs; rw [ez]
          rw [List.map_map]
          rfl
        rw [e]
        exact ko
      have eo := keyedOut_each (R := fun v (b : V × Pl) => L2.RelV b.1 v) (fun b : V × Pl => eSpell b.2) ko' (eachIs_of hl.symm rv fun v x p h => h)
      generalize hqs : (ws.zip ps).mergeSort (dataLe false fun b : V × Pl => eSpell b.2) = qs at eo
      have em : qs.map (·.2) = ps.mergeSort leP := by
        rw [← hqs]
        conv => rhs; rw [ez]
        exact List.map_mergeSort fun a _ b _ => rfl
      have dz := dtAll_zip (dk.mono e2)
      have dq : ∀ z ∈ qs, Dt H2 z.1 (eP z.2) := fun z hz => dz z (by
        rw [← hqs] at hz
        exact (List.mergeSort_perm _ _).mem_iff.mp hz)
      have dy := dtAll_unzip dq
      rw [em] at dy
      have ro := each_vals eo
      have lo : (qs.map (·.1)).length ≤ sizeLine := by
        have h1 := dy.length
        have h2 := (List.mergeSort_perm ps leP).length_eq
        rw [List.length_map (f := eP)] at h1
        exact sz5 (by omega)
      refine ⟨.ref l, upd H2 l (.lst (qs.map (·.1))), I2.take (h' := s'.heap) (t' := s'.toks) (fun b ob _ e => e) fl ⟨lo, out, c, ro, ol⟩, rfl, q l H2 _ nl fl.1 e2 dy⟩
  rcases src with src | ⟨es, pd, ew, ep⟩
  · obtain ⟨z, its, n, rv, ho⟩ := (show ObjOk X.prog X.w H s.heap a (.lst ws) from I.hok a _ src)
    refine fin rv fun E' R hR => PyProof.Rows.collect_list ⟨_, ho, rfl, n, rfl⟩ (hR _ _ fun b o e => ?_) (by rw [← rv.length]; exact z)
    exact (Heap.get?_update_other _ _ (Nat.ne_of_gt (Heap.lt_size e))).trans (Heap.get?_push_of_some _ e)
  · obtain ⟨⟨z, hs, _⟩, o, ds, epc, ho, hx, hdt, pr⟩ := pd.raw I.hok
    obtain ⟨rv, hl2⟩ := entR_keys pr
    rw [← ew] at rv
    refine fin rv fun E' R hR => kdu_collect (kdl_raw hs hx hdt) (I.ok.hd hc) ho (by rw [← Array.length_toList, ← hl2]; exact z) fun h' tk acc kp it => ?_
    rw [keys_of it]
    exact hR h' tk kp
end
end Pc
/-! a lambda of one argument as a key; key functions -/
namespace Pc
open PySem PySem.W PySem.Spec PySem.Calls PyProof.Rows L2
open Evl (Ex EvT)
open LamX (TabS ExtN CodeO TabB inv_table among_app codeO_ne)

/-- a function's object, known -/
def LamO (f : Addr) (o : Obj) : HO := .ext fun h => h.get? f = some o
theorem lamO_ok {P : Program} {w : World} {H : Hp} {h : Heap} {f : Addr} {o : Obj} (e : h.get? f = some o) : ObjOk P w H h f (LamO f o) := ⟨e, ⟨o, e⟩, fun _ _ a k => k _ a⟩
def tLam1 (P : Addr) (q : Str) (params : Arguments) (body : Expr) (scope : Scope) : TE := fun σ H Q => TabS H P q ∧
  ∀ (f c' : Addr) (pm ctv : Value) (H1 : Hp), ExtN H H1 → TabS H1 P q → H1 f = some (LamO f (kla_obj "<lambda>" q params body scope [] pm c' ctv)) → H1 c' = some (CodeO c' q) → Q (.ref f) H1
theorem extN_laid {H : Hp} {f : Addr} {o : HO} (n : H f = none) : ExtN H (upd H f o) := fun b u e _ => by rw [upd_ne (ne_of_none e n)]; exact e
theorem tabS_laid {H : Hp} {f P : Addr} {q : Str} {o : HO} (n : H f = none) (t : TabS H P q) : TabS (upd H f o) P q := t.ext fun b u e => by rw [upd_ne (ne_of_none e n)]; exact e
section
variable {X : Cx}
theorem pe_lam1 {c P : Addr} {params : Arguments} {body : Expr} {scope : Scope} {pos : Pos} (TB : TabB X.base X.mg c P) (hcode : X.env.code = .ref c) (hdef : defaultsOf params X.env = ([], [])) (hcl : closureFor scope X.env = pure []) :
    PE X (.Lambda params body scope pos) (tLam1 P (X.env.qual ++ "<lambda>") params body scope) := by
  refine ⟨fun pins s σ H Q I h => ?_⟩
  obtain ⟨⟨ps, tP, tok, tall⟩, h⟩ := h
  have gP : s.heap.get? P = some { cls := .none, data := .fields ps } := I.hok P _ tP
  have bP := TB.bm.keeps I.bk
  refine kla_eval hdef ?_
  cases hc : codeAmong pos ps.toList with
  | some cv =>
    obtain ⟨c', rfl, hco⟩ := tall pos cv hc
    refine kla_makeFunctionHit (mg := X.mg) hcl I.ok.glob (I.mod.glob.keeps I.bk) hcode (TB.code.keeps I.bk) gP tok hc bP fun ctv g tk kp hsz => ?_
    have I1 : Inv X pins σ H { s with heap := g, toks := tk } := I.kept kp
    have nf : H g.objs.size = none := I1.hok.fresh (Nat.le_refl _)
    refine ⟨.ref g.objs.size, upd H g.objs.size (LamO g.objs.size _), I1.laid (t' := tk) (fun b o e => Heap.get?_push_of_some _ e) (Nat.le_refl _) (lamO_ok (Heap.get?_push_size _ rfl)), rfl, ?_⟩
    exact h _ c' _ ctv _ (extN_laid nf) (tabS_laid nf ⟨ps, tP, tok, tall⟩) upd_same (by rw [upd_ne (ne_of_none hco nf)]; exact hco)
  | none =>
    refine kla_makeFunction (mg := X.mg) hcl I.ok.glob (I.mod.glob.keeps I.bk) hcode (TB.code.keeps I.bk) gP tok hc TB.gP bP fun c' ctv g tk kx hge hlt hrec htb => ?_
    obtain ⟨c2, oc, vs, t, e2, hoc, hd, hv⟩ := hrec
    cases e2
    have nC : H c' = none := I.hok.fresh hge
    have I1 := inv_table (t' := tk) (more := #[rawInt pos.line, rawInt pos.col, .ref c']) (h' := g) I tP kx htb hge ⟨oc, vs, t, hoc, hd, hv⟩
    generalize hH1 : upd (upd H P (.tbl (ps ++ #[rawInt pos.line, rawInt pos.col, .ref c']))) c' (CodeO c' (X.env.qual ++ "<lambda>")) = H1 at I1
    have nf : H1 g.objs.size = none := I1.hok.fresh (Nat.le_refl _)
    have e1 : ExtN H H1 := fun b o e n => by
      rw [← hH1, upd_ne (ne_of_none e nC), upd_ne (fun z => n ps (Option.some.inj (e.symm.trans (by rw [z]; exact tP))))]
      exact e
    have aC : H1 c' = some (CodeO c' (X.env.qual ++ "<lambda>")) := by rw [← hH1]; exact upd_same
    have t1 : TabS H1 P (X.env.qual ++ "<lambda>") := by
      have eL : (ps ++ #[rawInt pos.line, rawInt pos.col, Value.ref c']).toList = ps.toList ++ [rawInt pos.line, rawInt pos.col, .ref c'] := by simp
      refine ⟨_, by rw [← hH1, upd_ne (ne_of_none tP nC)]; exact upd_same, by rw [eL]; exact PySem.TriplesOk_snoc _ _ _ _ tok, fun p' cv hcv => ?_⟩
      rw [eL] at hcv
      rcases among_app _ tok hcv with z | z
      · obtain ⟨c0, q1, q2⟩ := tall p' cv z
        exact ⟨c0, q1, e1 _ _ q2 codeO_ne⟩
      · exact ⟨c', z, aC⟩
    refine ⟨.ref g.objs.size, upd H1 g.objs.size (LamO g.objs.size _), I1.laid (t' := tk) (fun b o e => Heap.get?_push_of_some _ e) (Nat.le_refl _) (lamO_ok (Heap.get?_push_size _ rfl)), rfl, ?_⟩
    exact h _ c' _ ctv _ (e1.trans (extN_laid nf)) (tabS_laid nf t1) upd_same (by rw [upd_ne (ne_of_none aC nf)]; exact aC)
theorem keyCall_lam {f c' : Addr} {pm ctv : Value} {q a : Str} {params : Arguments} {body : Expr} {scope : Scope} {N : List Str} {k : Nat} {tb : TE} (S : FnScope N [a] scope) (hr : Room (k + 3) X.A)
    (hbind : ∀ u, bindArgs (kla_fn "<lambda>" q params body scope [] pm (.ref c') ctv) ⟨[u], []⟩ = pure [(a, u)])
    (hbody : ∀ (A : Around) (outer : List Env) (s : Shared) (H : Hp), Room k (A.deeper (envOfC q scope s.heap.objs.size f (.ref c'))) → PE (cxOf CX0 X.prog X.w X.K X.mg X.base N q scope f (.ref c') A outer s H E0) body tb) :
    KeyCall X (.ref f) (fun x H Q => H f = some (LamO f (kla_obj "<lambda>" q params body scope [] pm c' ctv)) ∧ H c' = some (CodeO c' q) ∧ tb (start N [x]) H Q) := by
  intro pins s σ H x v Q I rx h
  obtain ⟨hf, hc, ht⟩ := h
  have r1 := hr.in1.in1
  have of1 : s.heap.get? f = some (kla_obj "<lambda>" q params body scope [] pm c' ctv) := (show ObjOk X.prog X.w H s.heap f (LamO f _) from I.hok f _ hf).1
  obtain ⟨⟨oc, vs, t, hoc, hdc, hvc⟩, _, _⟩ := (show ObjOk X.prog X.w H s.heap c' (CodeO c' q) from I.hok c' _ hc)
  have e0 := I.env0.in1.in1
  have lim : s.heap.NoLimit := e0.mod.nolimit.keeps fun b o e => (e0.bs b o e).1
  have rc : codeAny (model X.prog X.w) X.A.in1.in1 (.call (.ref f) ⟨[v], []⟩) (CR CX0 X.stack X.prog X.w H s Q E0) s := by
    refine kla_callFunE r1.depth of1 rfl S.co S.gen rfl ⟨c', oc, vs, t, rfl, hoc, hdc, hvc⟩ ?_
    rw [hbind]
    refine wpAny_pure (wpAny_newFunctionEnv_cells (binds := [a].zip [v]) S.kind (fun y hy => ?_) fun env he s1 x1 => ?_)
    · rcases S.par y.1 (List.of_mem_zip hy).1 with z | z
      · exact .inl z
      · exact .inr ⟨z, PySem.W.cellsFrom_some _ _ _ (.inl z)⟩
    · subst he
      have J := inv_start (CX := CX0) (E := E0) S r1.hd e0 rfl (.cons rx .nil) x1
      refine ⟨lim.keeps x1.toInCall.keep, kla_codeExpr (wpAny_mono ((hbody _ _ s H (r1.deeper _)).run [] s1 _ H Q J ht) (fun u s' hq => ?_) fun e s' hq => hq)⟩
      obtain ⟨z, H', J', rz, q'⟩ := hq
      exact ⟨z, H', J'.os, J'.bare, J'.base, J'.hok, rz, q'⟩
  refine wpAny_call (codeAny_mono rc fun r s' hq => ?_)
  cases r with
  | error e => exact (show False from hq).elim
  | ok fl =>
    cases fl with
    | ret u => exact I.after hq
    | next => exact False.elim hq
    | brk => exact False.elim hq
    | cont => exact False.elim hq
/-- a def as a key -/
theorem keyCall_def {f : Addr} {fd : FuncData} {ps : List Str} {sp : Sp} {k j : Nat} (F : FnOk X.prog X.w X.K X.mg X.base CX0 k f fd ps sp) (hr : Room (j + 2) X.A) (hk : k ≤ j) (hb : Binds X.K fd ps []) :
    KeyCall X (.ref f) (fun x H Q => sp [x] H Q E0) := by
  intro pins s σ H x v Q I rx h
  have hl : [v].length = ps.length := F.len _ _ _ _ h
  refine wpAny_call (codeAny_mono (F.run X.A.in1.in1 X.stack s H ⟨[v], []⟩ [v] [x] Q E0 (hr.in1.in1.mono hk) I.env0.in1.in1 (hb s [v] I.kIn hl) (.cons rx .nil) h) fun r s' hq => ?_)
  cases r with
  | error e => exact (show False from hq).elim
  | ok fl =>
    cases fl with
    | ret u => exact I.after hq
    | next => exact False.elim hq
    | brk => exact False.elim hq
    | cont => exact False.elim hq
end
end Pc
/-! dicts of plans: rules -/
namespace Pc
open PySem PySem.W PySem.Spec PySem.Calls PyProof.Rows L2
open Evl (Ex EvT)

theorem φP_nil {w : World} {h : Heap} (hb : sysModules < h.objs.size) : φP w h.objs.size [] (h.push { cls := .type "dict", data := .dict #[] }) :=
  ⟨⟨Nat.zero_le _, beq_eq_false_iff_ne.mpr (Nat.ne_of_gt hb), List.nodup_nil⟩, _, #[], 0, Heap.get?_push_size _ rfl, ⟨rfl, rfl, rfl⟩, rfl, .nil⟩
/-- what an operation at a plan's key asks -/
structure At (w : World) (H : Hp) (a : Addr) (es : List Ent) (x : V) (p : Pl) : Prop where
  pd : PD w H a es
  dt : Dt H x (eP p)
  nn : p.nn ≤ 8
  kd : ∀ e ∈ es, e.1.isT = p.isT
def rInP (w : World) (neg : Bool) : R2 := fun x y H Q => ∃ a es p, y = .ref a ∧ At w H a es x p ∧ Q (.bl (if neg then !(valP es p).isSome else (valP es p).isSome)) H
def rIxP (w : World) : R2 := fun x y H Q => ∃ a es p v, x = .ref a ∧ At w H a es y p ∧ valP es p = some v ∧ Q v H
def sPutP (w : World) (td ty tv : TE) : TS := fun D σ H => tv σ H fun v H1 => td σ H1 fun x H2 => ty σ H2 fun y H3 => ∃ a es p, x = .ref a ∧ At w H3 a es y p ∧ es.length < 100000 ∧ D.nx σ (upd H3 a (dpO w a (putP es p y v)))
def rLenP (w : World) : List V → Hp → VK → Prop := fun xs H Q => ∃ a es, xs = [.ref a] ∧ PD w H a es ∧ Q (.int (es.length : Nat)) H
def rListP (w : World) : List V → Hp → VK → Prop := fun xs H Q => ∃ a es, xs = [.ref a] ∧ PD w H a es ∧ ∀ l, H l = none → Q (.ref l) (upd H l (.lst (es.map (·.2.1))))
def tNewP (w : World) : TE := fun _ H Q => ∀ p, H p = none → Q (.ref p) (upd H p (dpO w p []))
def tDispP (w : World) (te tv : TE) : TE := fun σ H Q => ∀ a, H a = none → te σ (upd H a (dpO w a [])) fun x H1 => tv σ H1 fun y H2 => ∃ p, At w H2 a [] x p ∧ Q (.ref a) (upd H2 a (dpO w a (putP [] p x y)))
def tDcP (w : World) (wi : TI) (g : TG) (te tv : TE) (vs : List Nat) : TE := fun σ H Q => wi σ H fun J H1 => ∀ D, H1 D = none → ∃ W : Nat → Nat → Hp → Prop, (∃ m, W 0 m (upd H1 D (dpO w D []))) ∧
  ∀ i m H, W i m H → (J.stop i H ∧ Q (.ref D) H) ∨ (J.go i H ∧ ∃ Nx : Hp → Prop, (∀ H', Nx H' → ∃ m', m' < m ∧ W (i + 1) m' H') ∧
    ∀ x H', J.yld i H x H' → g x (wipe σ vs) H' fun σ2 H2 => wipe σ2 vs = wipe σ vs ∧ te σ2 H2 fun y H3 => tv σ2 H3 fun z H4 => ∃ es p, At w H4 D es y p ∧ es.length < 100000 ∧ Nx (upd H4 D (dpO w D (putP es p y z))))
section
variable {X : Cx} {o i e value : Expr} {pos pos' : Pos} {td ty tv te : TE}
theorem op_inP (hu : X.A.units + 16 < cLine) : OpR X (compareOp .In) (rInP X.w false) := by
  intro pins s σ H x y v u Q I rx ry h
  obtain ⟨a, es, p, rfl, A, q⟩ := h
  obtain rfl : u = Value.ref a := ry
  exact dp_in hu I A.pd A.dt A.nn A.kd rx fun s' I' => ⟨.bl (valP es p).isSome, H, I', rfl, q⟩
theorem op_notInP (hu : X.A.units + 16 < cLine) : OpR X (compareOp .NotIn) (rInP X.w true) := by
  intro pins s σ H x y v u Q I rx ry h
  obtain ⟨a, es, p, rfl, A, q⟩ := h
  obtain rfl : u = Value.ref a := ry
  exact dp_notIn hu I A.pd A.dt A.nn A.kd rx fun s' I' => ⟨.bl (!(valP es p).isSome), H, I', rfl, q⟩
theorem ix_P (hu : X.A.units + 16 < cLine) : IxR X (rIxP X.w) := by
  intro vx sx pins s σ H x y v u Q I rx ry h hs
  obtain ⟨a, es, p, z, rfl, A, g, q⟩ := h
  obtain rfl : v = Value.ref a := rx
  obtain ⟨_, ob, ds, ep, e1, e2, _⟩ := A.pd.raw I.hok
  exact tail_any (T := "dict") ⟨ob, e1, e2.1⟩ PySem.F.slot_dict_getitem.lookup (dp_get hu I A.pd A.dt A.nn A.kd g ry fun w' s' I' rw' => ⟨z, H, I', rw', q⟩) hs
theorem ps_putP (hu : X.A.units + 16 < cLine) (ho : PE X o td) (hi : PE X i ty) (hv : PE X value tv) (hs : swapsWith value (some (.Subscript o i pos')) pos.line X.env = pure false) :
    PS X (.Assign [.Subscript o i pos'] value pos) (sPutP X.w td ty tv) := by
  refine ⟨fun pins s σ H D I h => wpAny_Assign_Subscript (thn (hv.run pins s σ H _ I h) fun r s1 h1 => ?_) hs⟩
  obtain ⟨v, H1, I1, rv, h1⟩ := h1
  refine thn (ho.run pins s1 σ H1 _ I1 h1) fun u s2 h2 => ?_
  obtain ⟨x, H2, I2, rx, h2⟩ := h2
  refine thn (hi.run pins s2 σ H2 _ I2 h2) fun iv s3 h3 => ?_
  obtain ⟨y, H3, I3, ry, a, es, p, rfl, A, hz, q⟩ := h3
  obtain rfl : u = Value.ref a := rx
  exact dp_set hu I3 A.pd A.dt A.nn A.kd hz ry rv fun s4 I4 => ⟨σ, _, I4, q⟩
theorem call_lenP : CallR X (.builtin "len") (rLenP X.w) := by
  intro pins s σ H xs us Q I r h
  obtain ⟨a, es, rfl, d, q⟩ := h
  obtain rfl := Vals.ref1 r
  obtain ⟨⟨z, hd, _⟩, _⟩ := d.raw I.hok
  obtain ⟨b, hb⟩ := d.one
  cases b with
  | true =>
    obtain ⟨vs, pr, dd⟩ := d.int I.hok hb
    have e := Paired.length pr
    refine call_len_dict hd dd (by rw [← e]; rw [sizeLine_eq] at z; omega) ?_
    rw [← e]
    exact ⟨.int (es.length : Nat), H, I.tok _, ⟨_, rfl⟩, q⟩
  | false =>
    obtain ⟨vs, pr, dd⟩ := d.tup I.hok hb
    have e := Paired.length pr
    refine call_len_dictH hd dd (by rw [← e]; rw [sizeLine_eq] at z; omega) ?_
    rw [← e]
    exact ⟨.int (es.length : Nat), H, I.tok _, ⟨_, rfl⟩, q⟩
theorem call_listP (hc : X.calm = true) : CallR X (.type "list") (rListP X.w) := by
  intro pins s σ H xs us Q I r h
  obtain ⟨a, es, rfl, d, q⟩ := h
  obtain rfl := Vals.ref1 r
  obtain ⟨⟨z, hs, _⟩, ob, ds, ep, ho, hx, hdt, pr⟩ := d.raw I.hok
  obtain ⟨rv, hl⟩ := entR_keys pr
  refine kdl_call (kdl_raw hs hx hdt) (I.ok.hd hc) ho (by rw [← Array.length_toList, ← hl]; exact z) fun g tk acc c kp e it => ?_
  refine ⟨.ref s.heap.objs.size, _, I.laid (t' := tk) (o := .lst (es.map (·.2.1))) kp (Nat.le_refl _) ⟨by rw [List.length_map]; exact z, acc.toList, c, ?_, by rw [Array.toArray_toList]; exact e⟩, rfl, q _ (I.hok.fresh (Nat.le_refl _))⟩
  rw [keys_of it]
  exact rv
theorem laidP {pins : List (Addr × Obj)} {σ : L2.St} {H : Hp} {s : Shared} (I : Inv X pins σ H s) : Inv X pins σ (upd H s.heap.objs.size (dpO X.w s.heap.objs.size [])) { s with heap := s.heap.push { cls := .type "dict", data := .dict #[] } } :=
  I.laid (t' := s.toks) (fun _ _ z => Heap.get?_push_of_some _ z) (Nat.le_refl _) (φP_ok (φP_nil I.big))
theorem pe_newP : PE X (.Dict [] [] pos) (tNewP X.w) := ⟨fun pins s σ H Q I h => wpAny_Dict_empty ⟨.ref s.heap.objs.size, _, laidP I, rfl, h _ (I.hok.fresh (Nat.le_refl _))⟩⟩
theorem pe_dispP (hu : X.A.units + 16 < cLine) (he : PE X e te) (hv : PE X value tv) : PE X (.Dict [some e] [value] pos) (tDispP X.w te tv) := by
  refine ⟨fun pins s σ H Q I h => ?_⟩
  rw [arm_eval_Dict]
  refine wpAny_bind (wpAny_standAt ?_)
  have ed : dictDisplay ((evalEachOpt [some e] X.env).zip ((evalEach [value] X.env).map fun v => do let x ← v; standAt pos; pure x)) = (do let d ← subDict [(eval e X.env, do let x ← eval value X.env; standAt pos; pure x)]; pure (.ref d)) :=
    dictDisplay_pairs [(eval e X.env, do let x ← eval value X.env; standAt pos; pure x)] (by simp) (by simp)
  rw [ed]
  unfold subDict
  refine wpAny_bind (wpAny_bind (wpAny_alloc (wpAny_bind (wpAny_holding ?_))))
  rw [if_pos (by simp)]
  unfold evalPairs
  refine wpAny_bind (wpAny_bind (thn (he.run pins _ σ _ _ (laidP I) (h _ (I.hok.fresh (Nat.le_refl _)))) fun u s1 h1 => ?_))
  obtain ⟨x, H1, I1, rx, h1⟩ := h1
  refine wpAny_bind (wpAny_holding (wpAny_bind (thn (hv.run pins s1 σ H1 _ I1 h1) fun v s2 h2 => ?_)))
  obtain ⟨y, H2, I2, ry, p, A, q⟩ := h2
  refine wpAny_bind (wpAny_standAt (wpAny_pure ?_))
  unfold evalPairs
  refine wpAny_bind (wpAny_holding (wpAny_pure (wpAny_pure (wpAny_holding ?_))))
  rw [List.forIn_cons]
  refine wpAny_bind (wpAny_bind (wpAny_bind (dp_dictSet hu I2 A.pd A.dt A.nn A.kd (by simp) rx ry fun s3 I3 => wpAny_pure ?_)))
  dsimp only
  rw [List.forIn_nil]
  exact wpAny_pure (wpAny_pure (wpAny_pure (wpAny_pure ⟨.ref _, _, I3, rfl, q⟩)))
/-- {target: value for target in iter} -/
theorem pe_dcP {kx vx tg iter : Expr} {scope : Scope} {own : List (Str × Nat)} {pos : Pos} {wi : TI} {g : TG} {tk : TE} (hu : X.A.units + 16 < cLine) (hc : X.calm = true) (hN : X.N.Nodup) (hi : PI X tg iter wi) (ok : BlkOk X.N X.env.scope scope own)
    (hg : ∀ (s : Shared) (H : Hp) (C : Addr) (cl : List (Str × Addr)) (fp : List Addr), PG (X.blk s H scope (compEnvC scope cl C X.env) fp) tg g)
    (hk : ∀ (s : Shared) (H : Hp) (C : Addr) (cl : List (Str × Addr)) (fp : List Addr), PE (X.blk s H scope (compEnvC scope cl C X.env) fp) kx tk)
    (he : ∀ (s : Shared) (H : Hp) (C : Addr) (cl : List (Str × Addr)) (fp : List Addr), PE (X.blk s H scope (compEnvC scope cl C X.env) fp) vx tv) (hs : ∀ x, foldedSetIterable iter X.env x = pure x := by intro _; rfl) :
    PE X (.DictComp kx vx [⟨tg, iter, [], 0⟩] scope pos) (tDcP X.w wi g tk tv (own.map (·.2))) := by
  refine ⟨fun pins s σ H Q I h => ?_⟩
  rw [arm_eval_DictComp]
  have hfree : ∀ y ∈ scope.names, y.2 = .free → ∃ c, X.env.cells.lookup y.1 = some c := fun y hy e => (ok.free y hy e).elim (fun k => I.ok.has _ (.inl k)) fun k => I.ok.has _ (.inr k)
  refine wpAny_comprehension_free (use := none) rfl hs (closure_ok hfree) ok.kind (fun y hy e => by rw [ok.uniq y hy, e]) (thn (hi.run pins s σ H _ I h) fun xv s1 hx => thn hx fun itv s2 h2 => ?_)
  obtain ⟨it, fp, tn, J, H2, rfl, I2, T, st2, f2, q⟩ := h2
  refine wpAny_newObj_type (newEnv_comp ?_)
  have n2 : H2 s2.heap.objs.size = none := I2.hok.fresh (Nat.le_refl _)
  have I3 := laidP I2
  have lt2 : ∀ b ∈ fp, b ≠ s2.heap.objs.size := fun b hb => by
    obtain ⟨o, e, _⟩ := T.obj _ _ st2 b hb
    exact Nat.ne_of_lt (Heap.lt_size e)
  have st3 : tn 0 (s2.heap.push { cls := .type "dict", data := .dict #[] }) := T.keep _ _ _ st2 fun b _ o e => Heap.get?_push_of_some _ e
  have up3 : ∀ b ∈ fp, b < (s2.heap.push { cls := .type "dict", data := .dict #[] }).objs.size := fun b hb => by
    obtain ⟨o, e, _⟩ := T.obj _ _ st3 b hb
    exact Heap.lt_size e
  generalize hs3 : ({ s2 with heap := s2.heap.push { cls := .type "dict", data := .dict #[] } } : Shared) = s3 at I3
  have e3 : s3.heap = s2.heap.push { cls := .type "dict", data := .dict #[] } := by rw [← hs3]
  rw [← e3] at st3 up3
  generalize s2.heap.objs.size = D at n2 I3 q lt2 ⊢
  obtain ⟨W, ⟨m0, w0⟩, turn⟩ := q D n2
  have f3 : ∀ b ∈ fp, FpOk X pins (upd H2 D (dpO X.w D [])) b ∧ b < s3.heap.objs.size := fun b hb => ⟨⟨by rw [upd_ne (lt2 b hb)]; exact (f2 b hb).1, (f2 b hb).2⟩, up3 b hb⟩
  have I4 := block_start I3 ok hN f3
  generalize upd H2 D (dpO X.w D []) = H3 at I3 I4 w0 f3
  have pg := hg s3 H3 s3.heap.objs.size (cellsFrom (s3.heap.objs.size + 1) scope.names (cloFrom X.env.cells scope.names [])) fp
  have pk := hk s3 H3 s3.heap.objs.size (cellsFrom (s3.heap.objs.size + 1) scope.names (cloFrom X.env.cells scope.names [])) fp
  have pv' := he s3 H3 s3.heap.objs.size (cellsFrom (s3.heap.objs.size + 1) scope.names (cloFrom X.env.cells scope.names [])) fp
  have nx : s3.heap.objs.size = (s2.heap.push { cls := .type "dict", data := .dict #[] }).objs.size := by rw [e3]
  have goal' : codeAny (model X.prog X.w) X.A (.compStart (.DictComp kx vx [⟨tg, iter, [], 0⟩] scope pos) 0 (.ref it) (.ref D) (compEnvC scope (cellsFrom (s3.heap.objs.size + 1) scope.names (cloFrom X.env.cells scope.names [])) s3.heap.objs.size X.env))
      (compPost (model X.prog X.w) X.A X.xe none (EP X pins σ Q) (.ref D) s3.heap.objs.size) { s3 with heap := pushCells (s3.heap.push { cls := .type "dict", data := .dict #[] }) scope.names } := by
    generalize hs4 : ({ s3 with heap := pushCells (s3.heap.push { cls := .type "dict", data := .dict #[] }) scope.names } : Shared) = s4 at I4 ⊢
    have st4 : tn 0 s4.heap := T.keep _ _ _ st3 fun b _ o e => by rw [← hs4]; exact pushCells_keeps _ _ _ _ (Heap.get?_push_of_some _ e)
    generalize hce : compEnvC scope (cellsFrom (s3.heap.objs.size + 1) scope.names (cloFrom X.env.cells scope.names [])) s3.heap.objs.size X.env = ce at I4 pg pk pv' ⊢
    have cL : ce.locals = s3.heap.objs.size := by rw [← hce]; rfl
    have stat : ∀ {σ' : L2.St} {H' : Hp} {s' : Shared}, Inv (X.blk s3 H3 scope ce fp) [] σ' H' s' → (∀ b ∈ fp, H' b = none) → ∀ b ∈ fp, FpOk (X.blk s3 H3 scope ce fp) [] H' b := fun {σ' H' s'} J hn b hb =>
      ⟨hn b hb, (J.ok.exf b hb).1, J.ok.exfs b hb, .inl hb, fun x c e => (J.ok.exf b hb).2 x c e, fun p hp => nomatch (show p ∈ ([] : List (Addr × Obj)) from hp)⟩
    refine codeAny_compStart_dict ?lp (T.self X.A 0 _ _ _ st4 ?lp)
    refine compLoop_anyD (fun n s' => ∃ j H', Inv (X.blk s3 H3 scope ce fp) [] (wipe σ (own.map (·.2))) H' s' ∧ tn j s'.heap ∧ (∀ b ∈ fp, H' b = none) ∧ W j n H') ?_ m0 ⟨0, H3, I4, st4, fun b hb => (f3 b hb).1.1, w0⟩
    rintro n s5 ⟨j, H5, I5, st5, n5, w5⟩
    rcases turn j n H5 w5 with ⟨stop, qq⟩ | ⟨go, Nx, hNx, step⟩
    · refine thnF (T.done (X.blk s3 H3 scope ce fp) rfl rfl rfl hc j [] s5 _ H5 (fun _ _ => False) I5 (stat I5 n5) st5 stop) fun r s6 hr => ?_
      obtain ⟨rfl, I6⟩ := hr
      have I7 : Inv X pins σ H5 s6 := I3.call' (ch := fp) I6.os I6.base I6.hok I6.bare fun b hb => ⟨(f3 b hb).1.2.2.2.1, (f3 b hb).1.2.1, (f3 b hb).1.2.2.2.2.1, (f3 b hb).1.2.2.2.2.2⟩
      have nC : H5 s3.heap.objs.size = none := by rw [← cL]; exact I6.free
      obtain ⟨m, hn, _⟩ := I6.loc
      have hn' : s6.heap.Ns ce.locals m := hn
      rw [cL] at hn'
      have fC := I3.fpOk (Nat.le_refl _) nC
      exact ⟨m, hn', fun h'' sb => ⟨.ref D, H5, I7.turned (t' := s6.toks) (fun b o hb e => (sb.2 b hb).trans e) nC fC.2.1 fC.2.2.2.1 fC.2.2.2.2.1 fC.2.2.2.2.2, rfl, qq⟩⟩
    · refine thnF (T.item (X.blk s3 H3 scope ce fp) rfl rfl rfl hc j [] s5 _ H5 (fun _ _ => False) I5 (stat I5 n5) st5 go) fun r s6 hr => ?_
      obtain ⟨u, rfl, h6⟩ := hr
      refine thnF h6 fun _ s7 h7 => ?_
      obtain ⟨x, H7, I7, r7, y7, st7, n7⟩ := h7
      refine thnF (pg.run _ s7 _ H7 x u _ (I7.pinned (stat I7 n7) (T.obj _ _ st7)) r7 (step x H7 y7)) fun _ s8 h8 => ?_
      obtain ⟨σ8, H8, I8, hw8, q8⟩ := h8
      show wpAny _ _ (forIn [] true _) _ _ _
      rw [List.forIn_nil]
      refine wpAny_pure ?_
      rw [if_pos rfl]
      refine thnF (pk.run _ s8 σ8 H8 _ I8 q8) fun z s9 h9 => ?_
      obtain ⟨yk, H9, I9, r9, q9⟩ := h9
      refine thnF (pv'.run _ s9 σ8 H9 _ I9 q9) fun z2 s10 h10 => ?_
      obtain ⟨yv, H10, I10, r10, es, p, A, hz, nxt⟩ := h10
      refine dp_dictSet (X := X.blk s3 H3 scope ce fp) hu I10 A.pd A.dt A.nn A.kd hz r9 r10 fun s11 I11 => ?_
      obtain ⟨m', hm, w'⟩ := hNx _ nxt
      have pin' : ∀ b ∈ fp, ∀ o, s7.heap.get? b = some o → s11.heap.get? b = some o ∧ upd H10 D (dpO X.w D (putP es p yk yv)) b = none := fun b hb o e => by
        have z := I11.pin (b, o) (List.mem_append_right _ (List.mem_append_right _ (mem_pinsAt hb e)))
        exact ⟨z.1, z.2.1⟩
      refine ⟨m', hm, j + 1, _, (I11.unpinned (pins := [])).weak (by rw [← hw8, wipe_length]) (fun j v e => ?_), T.keep _ _ _ st7 fun b hb o e => (pin' b hb o e).1, fun b hb => ?_, w'⟩
      · rw [← hw8] at e
        exact (wipe_some e).1
      · obtain ⟨o, e, _⟩ := T.obj _ _ st7 b hb
        exact (pin' b hb o e).2
  subst hs3
  exact goal'
end
end Pc
/-! enumerate of a tuple -/
namespace Pc
open PySem PySem.Spec PyProof.Rows L2
open Evl (Ex EvT)
open AutoSeq1 (wpAny_loadPart')

theorem meets_enumT (l : Addr) (items : Array Value) (n : Nat) (dct : Option Addr) (sl : Array (Option Value)) :
    Meets (Builtin.«enumerate.__new__» ⟨[.type "enumerate", .ref l], []⟩) (fun _ R s => s.heap.get? l = some { cls := .type "tuple", dict := dct, data := .seq items n, slots := sl } ∧
      R (.ok (.ret (.ref (s.heap.push { cls := .type "tuple_iterator", data := .fields #[.ref l, .int 0 0] }).objs.size))) { s with heap := (s.heap.push { cls := .type "tuple_iterator", data := .fields #[.ref l, .int 0 0] }).push { cls := .type "enumerate", data := .fields #[.none, .bool false, .ref s.heap.objs.size, rawInt 0, .none, .none] } }) := .of_wp fun prog w A R s h => by
  obtain ⟨hp, g, d, tk, os⟩ := s
  obtain ⟨hl, h⟩ := h
  have hsub := sub_enumerate
  have hL : Heap.IsTuple (Shared.heap ⟨hp, g, d, tk, os⟩) l items := ⟨_, hl, rfl, n, rfl⟩
  wp_walk using wpAny_loadPart' hl
  refine wpAny_stack_any fun st => wpAny_pure ?_
  split
  · rename_i c _ _ _ _ _
    cases (c == Value.type "enumerate")
    all_goals
      wp_walk using wpAny_loadPart' hl, wpAny_pyIter_tuple hL
      exact ⟨_, rfl, h⟩
  · wp_walk using wpAny_loadPart' hl, wpAny_pyIter_tuple hL
    exact ⟨_, rfl, h⟩
section
variable {prog : Program} {w : World} {A : Around} {E : Value → Shared → Prop} {s : Shared}
theorem call_enumT {l : Addr} {items : Array Value} {Q : Value → Shared → Prop} (hL : s.heap.IsTuple l items)
    (h : ∀ h', IsEnum h' (s.heap.objs.size + 1) s.heap.objs.size 0 .none → h'.IsTupleIter s.heap.objs.size l 0 → (∀ b o, s.heap.get? b = some o → h'.get? b = some o) → Q (.ref (s.heap.objs.size + 1)) { s with heap := h' }) :
    wpAny (model prog w) A (call (.type "enumerate") [.ref l]) Q E s := by
  obtain ⟨⟨c, dct, dt, sl⟩, hl, hc, n, hd⟩ := hL
  obtain rfl : c = .type "tuple" := hc
  obtain rfl : dt = .seq items n := hd
  refine callType_new F.called_enumerate (by decide) (F.typeCall_enumerate_1 _) (F.newCall_enumerate_1 _) (fun obj => F.args_object_init_2 obj _) F.entry_enumerate_new (meets_enumT l items n dct sl) ⟨hl, ?_⟩
  show _ ∧ _
  have hz : (s.heap.push { cls := .type "tuple_iterator", data := .fields #[.ref l, .int 0 0] }).objs.size = s.heap.objs.size + 1 := Heap.size_push ..
  rw [hz]
  have e1 := Heap.get?_push_size (s.heap.push { cls := .type "tuple_iterator", data := .fields #[.ref l, .int 0 0] }) (o := { cls := .type "enumerate", data := .fields #[.none, .bool false, .ref s.heap.objs.size, rawInt 0, .none, .none] }) rfl
  rw [hz] at e1
  exact ⟨⟨_, e1, rfl⟩, h _ e1 ⟨_, Heap.get?_push_of_some _ (Heap.get?_push_size _ rfl), rfl, rfl⟩ fun b o z => Heap.get?_push_of_some _ (Heap.get?_push_of_some _ z)⟩
end
/-- the tuple at a, its items in new pairs -/
def IteT (K : PySem.W.Frag) (a : Addr) : It :=
  ⟨fun i H => ∃ (xs : List V) (x : V), SqT K H a xs ∧ xs[i]? = some x, fun i H v H' => ∃ T x, v = .ref T ∧ H T = none ∧ H' = upd H T (.tup [.int (i : Nat), x]) ∧ ∀ xs, SqT K H a xs → xs[i]? = some x, fun i H => ∃ xs : List V, SqT K H a xs ∧ xs.length = i⟩
theorem turn_enumT {P : Program} {w : World} {K : PySem.W.Frag} {elts : List Expr} {kk : Nat} {tpos : Pos} (a e it : Addr) (items : Array Value) :
    Turn P w K (.Tuple elts kk tpos) (IteT K a) [e, it] e (fun i h => (∃ old, IsEnum h e it ((i : Nat) : Int) old) ∧ h.IsTupleIter it a i ∧ e ≠ it ∧ a ≠ it ∧ a ≠ e) where
  mem := by simp
  obj := fun i h st b hb => by
    obtain ⟨⟨old, he⟩, ⟨o, ho, hc, hd⟩, _⟩ := st
    rcases List.mem_cons.mp hb with rfl | hb
    · exact ⟨_, he, fun v q => nomatch q⟩
    · rw [List.mem_singleton.mp hb]
      exact ⟨o, ho, fun v q => by rw [hd] at q; cases q⟩
  keep := fun i h h' st k => let ⟨⟨old, he⟩, hi, hne⟩ := st; ⟨⟨old, k e (by simp) _ he⟩, hi.at fun o q => k it (by simp) o q, hne⟩
  item := by
    intro X hP hw hK hc i pins s σ H E I hf st hg
    subst hP hw hK
    obtain ⟨⟨old, he⟩, hit, hne, hai, hae⟩ := st
    obtain ⟨xs, x, hq, hx⟩ := hg
    obtain ⟨its, rv, p, hz⟩ := I.tuple hq
    obtain ⟨u, hu, ru⟩ := rv.get hx
    have hel : e < s.heap.objs.size := Heap.lt_size he
    have hil : it < s.heap.objs.size := by obtain ⟨_, q, _⟩ := hit; exact Heap.lt_size q
    have hlt : i < its.toArray.size := by rw [List.size_toArray]; exact (List.getElem?_eq_some_iff.mp hu).1
    refine wpAny_pyNext_enum_itemD (i := i) (Draws.tuple (A := X.A.in1) (I.ok.hd hc) it a hai its.toArray) he ⟨hit, p⟩ hlt hne (by simp [hne, Ne.symm hae]) fun y h' tk hy ho st' hT hsz hk => ?_
    have ey : y = u := by
      have z : its.toArray[i]? = some u := by simpa using hu
      exact Option.some.inj (hy.symm.trans z)
    subst ey
    refine ⟨_, rfl, wpAny_letOwnedTupleGo_enum (s := { s with heap := h', toks := tk + 1 }) ho fun h'' he' sb => ?_⟩
    have hT2 := (sb.2 _ (Nat.ne_of_gt hel)).trans hT
    have new : ObjOk X.prog X.w (upd H s.heap.objs.size (.tup [.int (i : Nat), x])) h'' s.heap.objs.size (.tup [.int (i : Nat), x]) := ⟨by show 2 ≤ sizeLine; decide, [.int i tk, y], .cons ⟨_, rfl⟩ (.cons ru .nil), ⟨_, hT2, rfl, _, rfl⟩⟩
    have I1 : Inv X pins σ (upd H s.heap.objs.size (.tup [.int (i : Nat), x])) { s with heap := h'', toks := tk + 1 } :=
      I.turnedNew (ch := [e, it]) (fun b ob hb q => (sb.2 b (fun z => hb (by simp [z]))).trans (hk b ob (fun z => hb (by simp [z])) (fun z => hb (by simp [z])) q)) hf (Nat.le_refl _) new
    have e1 : ((i + 1 : Nat) : Int) = (i : Int) + 1 := by omega
    refine ⟨.ref s.heap.objs.size, _, I1, rfl, ⟨_, x, rfl, I.hok.fresh (Nat.le_refl _), rfl, fun ys hy => by rw [I.tuple_inj hy hq]; exact hx⟩, ⟨⟨y, by rw [e1]; exact he'⟩, st'.1.at fun o q => (sb.2 it (Ne.symm hne)).trans q, hne, hai, hae⟩, fun b hb => ?_⟩
    have hb' : b < s.heap.objs.size := by
      rcases List.mem_cons.mp hb with rfl | hb
      · exact hel
      · rw [List.mem_singleton.mp hb]; exact hil
    rw [upd_ne (Nat.ne_of_lt hb')]
    exact (hf b hb).1
  done := by
    intro X hP hw hK hc i pins s σ H E I hf st hg
    subst hP hw hK
    obtain ⟨⟨old, he⟩, hit, hne, hai, hae⟩ := st
    obtain ⟨xs, hq, hx⟩ := hg
    obtain ⟨its, rv, p, hz⟩ := I.tuple hq
    obtain ⟨f0, f1, f2, f3, f4, f5⟩ := hf it (by simp)
    have hl := rv.length
    refine wpAny_pyNext_enum_endD (Draws.tuple (A := X.A.in1) (I.ok.hd hc) it a hai its.toArray) he ⟨by rw [List.size_toArray, ← hl, hx]; exact hit, p⟩ fun h' eb => ⟨rfl, I.turned (t' := s.toks) (fun b o hb q => eb b o hb q) f0 f1 f3 f4 f5⟩
  self := fun A i s Q E st h => let ⟨⟨_, he⟩, _⟩ := st; wpAny_pyIter_enum he h
def iEnumT (K : PySem.W.Frag) (ta : TA) : TI := fun σ H R => ta σ H fun vs H1 => ∃ a xs, vs = [.ref a] ∧ SqT K H1 a xs ∧ R (IteT K a) H1
theorem pi_enumT {X : Cx} {e : Expr} {ta : TA} {p pos tpos : Pos} {elts : List Expr} {kk : Nat} (hg : Gl X "enumerate") (hm : X.mg "enumerate" = none) (ha : PA X [e] ta) (hs : starEach [e] X.env = [(false, eval e X.env)] := by rfl) :
    PI X (.Tuple elts kk tpos) (.Call (.Name "enumerate" p) [e] [] pos) (iEnumT X.K ta) := by
  refine ⟨fun pins s σ H R I h => Call_ (ld_blt I hg hm boot_enumerate (PyProof.Rows.callWith_type1 (thn (ha.run pos pins s σ H _ I h) fun us s1 h1 => ?_) hs rfl))⟩
  obtain ⟨vs, H1, I1, r1, a, xs, rfl, hq, q⟩ := h1
  obtain rfl := Vals.ref1 r1
  obtain ⟨its, rv, pt, hz⟩ := I1.tuple hq
  have al : a < s1.heap.objs.size := by obtain ⟨_, z, _⟩ := pt; exact Heap.lt_size z
  refine call_enumT pt fun h' he hit hk => wpAny_pyIter_enum he ?_
  refine ⟨s1.heap.objs.size + 1, [s1.heap.objs.size + 1, s1.heap.objs.size], _, _, H1, rfl, I1.kept (t' := s1.toks) hk, turn_enumT a (s1.heap.objs.size + 1) s1.heap.objs.size its.toArray, ⟨⟨.none, he⟩, hit, Nat.succ_ne_self _, Nat.ne_of_lt al, Nat.ne_of_lt (Nat.lt_succ_of_lt al)⟩, fun b hb => ?_, q⟩
  have hle : s1.heap.objs.size ≤ b := by
    rcases List.mem_cons.mp hb with rfl | hb
    · exact Nat.le_succ _
    · rw [List.mem_singleton.mp hb]; exact Nat.le_refl _
  exact I1.fpOk hle (I1.hok.fresh hle)
end Pc
/-! set of a list of ints -/
namespace Pc
open PySem PySem.Spec PyProof.Rows L2
open Evl (Ex EvT)

/-- an empty set's object, as set() makes it -/
abbrev set0 (w : World) : Obj := { cls := .type "set", dict := none, data := .set #[] 0 (.fresh 0 0 (!w.params.followText "set-order")) }
section
variable {P : Program} {w : World} {A : Around} {E : Value → Shared → Prop} {s : Shared}
theorem call_setL {l : Addr} {items : Array Value} (ns : List Int) {Q : Value → Shared → Prop} (hh : A.handled = none) (hl : s.heap.IsList l items) (hit : IntsAre items.toList ns) (hb : ns.length + 1 < scanBound)
    (h : ∀ (h' : Heap) (tk c : Nat), SetR w h' s.heap.objs.size (fun j => decide (j ∈ ns)) c → c ≤ ns.length → (∀ b o, s.heap.get? b = some o → h'.get? b = some o) → Q (.ref s.heap.objs.size) { s with heap := h', toks := tk }) :
    wpAny (model P w) A (call (.type "set") [.ref l]) Q E s := by
  have sz : items.size = ns.length := by rw [← Array.length_toList]; exact IntsAre.length hit
  obtain ⟨c, tl, hmro⟩ := F.called_set.mro
  have k1 := F.called_set.made
  have k2 := F.called_set.sub
  have k3 := F.called_set.notType
  have k4 := F.called_set.canCreate
  have k5 := F.typeCall_set_1 (.ref l)
  refine wpAny_call (codeAny_of_tree (?_ : wpAny _ _ (callAny (.type "set") _) _ _ _))
  refine wpAny_pure ⟨Code.quiet_builtin _ (by decide +kernel), codeAny_builtin F.entry_type_call ?_⟩
  rw [Around.under_plain (weight_type_call_type "set" [.ref l] []) rfl]
  repeat (any_goals (first | assumption | wp_step))
  refine codeAny_mono (code_set_led1 (.ref l) (E := E) (Q₁ := fun obj s₁ => obj = .ref s.heap.objs.size ∧ s₁ = { s with heap := s.heap.push (set0 w) }) ⟨rfl, rfl⟩) fun r s₁ hr => ?_
  cases r with
  | error e => exact hr
  | ok fl =>
    cases fl with
    | next => exact hr
    | brk => exact hr
    | cont => exact hr
    | ret obj =>
      obtain ⟨rfl, rfl⟩ := hr
      have oS : (s.heap.push (set0 w)).get? s.heap.objs.size = some (set0 w) := Heap.get?_push_size _ rfl
      have zS : (s.heap.push (set0 w)).objs.size = s.heap.objs.size + 1 := Heap.size_push ..
      have hT : Shared.TypeIs { s with heap := s.heap.push (set0 w) } (.ref s.heap.objs.size) "set" := ⟨_, oS, rfl⟩
      have k6 := F.called_set.init.lookup
      have k7 := F.called_set.init.bind (.ref s.heap.objs.size)
      repeat (any_goals (first | assumption | wp_step))
      refine codeAny_mono (codeAny_call_builtin (R := wants (fun r s₂ => r = .none ∧ ∃ h' tk c, s₂ = { s with heap := h', toks := tk } ∧ SetR w h' s.heap.objs.size (fun j => decide (j ∈ ns)) c ∧ c ≤ ns.length ∧ (∀ b o, s.heap.get? b = some o → h'.get? b = some o)) E)
        F.called_set.init.plain F.entry_set_init (check_set_init_1 hT ?_)) fun r₂ s₂ hr₂ => ?_
      · obtain ⟨⟨ocls, odict, odata, oslots⟩, hol, hcl, nl, hdl⟩ := hl
        obtain rfl : ocls = .type "list" := hcl
        obtain rfl : odata = .seq items nl := hdl
        have hol' : (s.heap.push (set0 w)).get? l = some { cls := .type "list", dict := odict, data := .seq items nl, slots := oslots } := Heap.get?_push_of_some _ hol
        have k8 := F.sub_list_set
        have k9 := F.sub_list_frozenset
        have k10 : (Value.type "list" == Value.type "dict") = false := by decide
        have hl1 : (s.heap.push (set0 w)).IsList l items := ⟨_, hol', rfl, nl, rfl⟩
        unfold Builtin.«set.__init__» noKeywords Builtin.Frozenset.updateFrom
        generalize hPI : pyIter = PI
        wp_walk
        subst hPI
        refine wpAny_pyIter_list hl1 (wpAny_bind (wpAny_runValue ?_))
        have lS : l < s.heap.objs.size := Heap.lt_size hol
        have nI : l ≠ (s.heap.push (set0 w)).objs.size := by rw [zS]; exact Nat.ne_of_lt (Nat.lt_succ_of_lt lS)
        have nS : s.heap.objs.size ∉ [(s.heap.push (set0 w)).objs.size, l] := by
          rw [zS]
          simp only [List.mem_cons, List.not_mem_nil, or_false, not_or]
          exact ⟨Nat.ne_of_lt (Nat.lt_succ_self _), Nat.ne_of_gt lS⟩
        refine set_update_ints ((Walks.list (by simp [hh]) _ l nI items).toS) s.heap.objs.size nS ns sz hb (fun i v hv => ?_) (items.size - 0) 0 _ (by omega) (Nat.zero_le _) ⟨⟨_, Heap.get?_push_size _ rfl, rfl, rfl⟩, hl1.push _⟩
          ⟨0, Nat.le_refl 0, setR_new_at (Heap.get?_push_of_some _ oS)⟩ fun s' c' hm hc' hS' => ?_
        · have hi : i < ns.length := by rw [← sz]; exact (Array.getElem?_eq_some_iff.mp hv).1
          obtain ⟨t, e⟩ := PyProof.Rows.IntsAre.int_at hit i v (by rw [Array.getElem?_toList]; exact hv)
          refine ⟨ns[i], t, List.getElem?_eq_getElem hi, ?_⟩
          rw [e, List.getD_eq_getElem?_getD, List.getElem?_eq_getElem hi]
          rfl
        · obtain ⟨h', g2, d', tk', os'⟩ := s'
          obtain rfl : g2 = s.gens := hm.gens
          obtain rfl : d' = s.drawn := hm.drawn
          obtain rfl : os' = s.os := hm.os
          refine wpAny_pure (?_ : wpAny _ _ (ret Value.none) _ _ _)
          rw [sz] at hc'
          refine wpAny_pure ⟨rfl, h', tk', c', rfl, hS', hc', fun b o e => ?_⟩
          have bl := Heap.lt_size e
          refine hm.heap b o ?_ (Heap.get?_push_of_some _ (Heap.get?_push_of_some _ e))
          rw [zS]
          simp only [List.mem_cons, List.not_mem_nil, or_false, not_or]
          exact ⟨Nat.ne_of_lt bl, Nat.ne_of_lt (Nat.lt_succ_of_lt bl)⟩
      · cases r₂ with
        | error e => exact hr₂
        | ok fl₂ =>
          cases fl₂ with
          | next => exact hr₂
          | brk => exact hr₂
          | cont => exact hr₂
          | ret r =>
            obtain ⟨rfl, h', tk, c', rfl, hS', hc', hk'⟩ := hr₂
            repeat (any_goals (first | assumption | wp_step))
            exact h h' tk c' hS' hc' hk'
end
/-- set(xs), ints -/
def rSetOfL (K : PySem.W.Frag) (w : World) : List V → Hp → VK → Prop := fun vs H Q => ∃ (a : Addr) (ns : List Int), vs = [V.ref a] ∧ SqL K H a (ns.map V.int) ∧ ns.length ≤ 1000 ∧
  ∀ (p : Addr) (c : Nat), H p = none → c ≤ ns.length → Q (.ref p) (upd H p (SetO w p (fun j => decide (j ∈ ns)) c))
theorem cr_setL {X : Cx} (hc : X.calm = true) : CallR X (.type "set") (rSetOfL X.K X.w) := by
  intro pins s σ H xs us Q I r h
  obtain ⟨a, ns, rfl, hs, hz, q⟩ := h
  obtain rfl := Vals.ref1 r
  obtain ⟨its, rv, hl, _⟩ := I.list hs
  refine call_setL ns (I.ok.hd hc) hl.isList (by simpa using rv.ints) (by unfold scanBound; omega) fun g tk c R hc' kp => ?_
  exact ⟨.ref _, _, I.laid (t' := tk) kp (Nat.le_refl _) (setO_new R), rfl, q _ c (I.hok.fresh (Nat.le_refl _)) hc'⟩
end Pc
/-! repr; defs that are called while nothing is being shown -/
namespace Pc
open PySem PySem.Spec PyProof.Rows L2
open Evl (Ex EvT)

section
variable {P : Program} {w : World} {H : Hp} {h : Heap}
mutual
theorem readsX (ok : HOk P w H h) : ∀ {d : PyData} {v : V} {u : Value}, Dt H v d → L2.RelV v u → ∃ as, Reads h u d as
  | .none, _, _, k, r => by cases k; obtain rfl : _ = Value.none := r; exact ⟨_, .none⟩
  | .bool _, _, _, k, r => by cases k; obtain rfl : _ = Value.bool _ := r; exact ⟨_, .bool _⟩
  | .int _, _, _, k, r => by cases k; obtain ⟨t, rfl⟩ := r; exact ⟨_, .int _ _⟩
  | .str _, _, _, k, r => by cases k; obtain ⟨t, rfl⟩ := r; exact ⟨_, .str _ _⟩
  | .list ds, _, _, k, r => by
    obtain ⟨a, xs, rfl, ha, ks⟩ := dt_lst k
    obtain rfl : _ = Value.ref a := r
    obtain ⟨_, its, n, rv, e⟩ := (show ObjOk P w H h a (.lst xs) from ok a _ ha)
    obtain ⟨as, q⟩ := readsXs ok ks rv
    exact ⟨_, .list e rfl rfl (by simpa using q)⟩
  | .tuple ds, _, _, k, r => by
    obtain ⟨a, xs, rfl, ha, ks⟩ := dt_tup k
    obtain rfl : _ = Value.ref a := r
    obtain ⟨_, its, rv, o, e1, e2, n, e3⟩ := (show ObjOk P w H h a (.tup xs) from ok a _ ha)
    obtain ⟨as, q⟩ := readsXs ok ks rv
    exact ⟨_, .tuple e1 e2 e3 (by simpa using q)⟩
  | .dict _, _, _, k, _ => by cases k
theorem readsXs (ok : HOk P w H h) : ∀ {ds : List PyData} {vs : List V} {us : List Value}, DtAll H vs ds → Vals vs us → ∃ as, ReadsAll h us ds as
  | [], _, _, k, r => by cases k; cases r; exact ⟨_, .nil⟩
  | d :: ds, _, _, k, r => by
    cases k with
    | cons k1 k2 => cases r with
      | cons r1 r2 =>
        obtain ⟨as, q1⟩ := readsX ok k1 r1
        obtain ⟨bs, q2⟩ := readsXs ok k2 r2
        exact ⟨_, .cons q1 q2⟩
end
end
/-- what repr can show, within n signs -/
structure Shows (n : Nat) (d : PyData) : Prop where
  ok : d.showable = true
  nod : d.hasDict = false
  len : d.shown.length ≤ n
theorem textFrom_le : ∀ (ts : List Str) (k : Nat) (acc : Str), (textFrom k acc ts).length ≤ acc.length + piled ts
  | [], _, acc => Nat.le_refl _
  | t :: r, k, acc => by
    have h := textFrom_le r (k + 1) (acc ++ (if k > 0 then ", " else "" : String) ++ t)
    have e1 : (Str.ofString (if k > 0 then ", " else "" : String)).length ≤ 2 := by
      split
      · decide +kernel
      · decide +kernel
    rw [Str.length_append, Str.length_append] at h
    show (textFrom (k + 1) (acc ++ (if k > 0 then ", " else "" : String) ++ t) r).length ≤ _
    rw [piled_cons]
    omega
theorem listText_le (ts : List Str) : (listText ts).length ≤ 2 + piled ts := by
  have h := textFrom_le ts 0 "["
  have e1 : (Str.ofString "[").length = 1 := by decide +kernel
  have e2 : (Str.ofString "]").length = 1 := by decide +kernel
  unfold listText
  rw [Str.length_append]
  omega
theorem tupleText_le (ts : List Str) : (tupleText ts).length ≤ 3 + piled ts := by
  have e1 : (Str.ofString "(").length = 1 := by decide +kernel
  have e2 : (Str.ofString (if ts.length == 1 then ",)" else ")" : String)).length ≤ 2 := by split <;> decide +kernel
  unfold tupleText
  rw [Str.length_append, Str.length_append]
  cases ts with
  | nil =>
    have e3 : (Str.join ", " []).length = 0 := by decide +kernel
    omega
  | cons t r =>
    have h := join_length_add (t :: r) (by simp)
    omega
/-- shown texts, together -/
def ShowsAll (n : Nat) (ds : List PyData) : Prop := PyData.showableAll ds = true ∧ PyData.hasDictAll ds = false ∧ piled (PyData.shownAll ds) ≤ n
theorem ShowsAll.nil : ShowsAll 0 [] := ⟨rfl, rfl, Nat.le_refl _⟩
theorem ShowsAll.cons {m n : Nat} {d : PyData} {ds : List PyData} (h : Shows m d) (k : ShowsAll n ds) : ShowsAll (m + 2 + n) (d :: ds) := by
  obtain ⟨k1, k2, k3⟩ := k
  refine ⟨by rw [PyData.showableAll, h.ok, k1]; rfl, by rw [PyData.hasDictAll, h.nod, k2]; rfl, ?_⟩
  rw [PyData.shownAll, piled_cons]
  have := h.len
  omega
theorem ShowsAll.all {m : Nat} : ∀ {ds : List PyData}, (∀ d ∈ ds, Shows m d) → ShowsAll (ds.length * (m + 2)) ds
  | [], _ => by rw [List.length_nil, Nat.zero_mul]; exact .nil
  | d :: ds, h => by
    have e : (d :: ds).length * (m + 2) = m + 2 + ds.length * (m + 2) := by rw [List.length_cons, Nat.succ_mul, Nat.add_comm]
    rw [e]
    exact .cons (h d (List.mem_cons_self ..)) (ShowsAll.all fun x hx => h x (List.mem_cons_of_mem _ hx))
theorem ShowsAll.list {n : Nat} {ds : List PyData} (k : ShowsAll n ds) : Shows (2 + n) (.list ds) := ⟨k.1, k.2.1, Nat.le_trans (listText_le _) (Nat.add_le_add_left k.2.2 _)⟩
theorem ShowsAll.tup {n : Nat} {ds : List PyData} (k : ShowsAll n ds) : Shows (3 + n) (.tuple ds) := ⟨k.1, k.2.1, Nat.le_trans (tupleText_le _) (Nat.add_le_add_left k.2.2 _)⟩
theorem Shows.mono {m n : Nat} {d : PyData} (h : Shows m d) (e : m ≤ n) : Shows n d := ⟨h.ok, h.nod, Nat.le_trans h.len e⟩
theorem shows_int {i : Int} (h : i.natAbs < 10 ^ 6) : Shows 7 (.int i) := by
  refine ⟨decide_eq_true ?_, rfl, ?_⟩
  · by_cases z : i.natAbs = 0
    · rw [z]; decide +kernel
    · have := (Nat.log2_lt z (k := 20)).mpr (by omega)
      omega
  · show (PyData.shown (.int i)).length ≤ 7
    have e := int_text_length_le10 (a := i) (k := 6) (by decide) h
    have e2 : (Str.ofString (toString i)).length = (toString i).length := PySem.ofString_length _
    show (Str.ofString (toString i)).length ≤ 7
    omega
theorem shows_how (h : How) : Shows 8 (.str h.str) := ⟨rfl, rfl, by cases h <;> decide +kernel⟩
theorem shows_eP : ∀ p : Pl, (∀ t ∈ p.leaves, t < 100) → Shows (31 * p.nn + 7) (eP p)
  | .tab t, h => by
    have ht := h t (List.mem_cons_self ..)
    exact (shows_int (i := (t : Int)) (by omega)).mono (by simp [Pl.nn])
  | .node hw l r, h => by
    have a := shows_eP l fun t ht => h t (List.mem_append_left _ ht)
    have b := shows_eP r fun t ht => h t (List.mem_append_right _ ht)
    exact (((ShowsAll.nil.cons b).cons a).cons (shows_how hw)).tup.mono (by rw [Pl.nn]; omega)
section
variable {X : Cx}
/-- repr(x): a list -/
def rRepr : List V → Hp → VK → Prop := fun vs H Q => ∃ (v : V) (ds : List PyData), vs = [v] ∧ Dt H v (.list ds) ∧ Shows 10000000 (.list ds) ∧ (PyData.list ds).depth ≤ 50 ∧ Q (.str (PyData.list ds).shown) H
theorem cr_repr (hg : X.A.guards = some []) (hu : X.A.units + 64 < cLine) : CallR X (.builtin "repr") rRepr := by
  intro pins s σ H xs us Q I r h
  obtain ⟨v, ds, rfl, d, sh, dp, q⟩ := h
  obtain ⟨u, rfl, rx⟩ := vals1 r
  obtain ⟨as, rd⟩ := readsX I.hok d rx
  obtain ⟨a, ys, rfl, _⟩ := dt_lst d
  obtain rfl : u = Value.ref a := rx
  refine repr_of_reads' rd sh.ok (fun z => by rw [sh.nod] at z; cases z) hg (by omega) (fun _ _ e => e) (fun h' u tk hk => ⟨.str (PyData.list ds).shown, H, I.kept hk, ⟨u, rfl⟩, q⟩) (by rw [sizeLine_eq]; have := sh.len; omega)
end
/-! ### a def that is called while nothing is being shown -/
structure FnG (P : Program) (w : World) (K : PySem.W.Frag) (mg : Str → Option Value) (base : Heap) (k : Nat) (f : Addr) (fd : FuncData) (ps : List Str) (sp : Sp) : Prop where
  len : ∀ vs H Q E, sp vs H Q E → vs.length = ps.length
  run : ∀ (A : Around) (outer : List Env) (s : Shared) (H : Hp) (us : List Value) (vs : List V) (Q : VK) (E : XK), Room k A → A.guards = some [] → Env0 P w K mg base A outer s H → BindsTo s fd ⟨us, []⟩ (ps.zip us) → Vals vs us → sp vs H Q E →
    codeAny (model P w) A (.call (.ref f) ⟨us, []⟩) (CR CX0 outer P w H s Q E) s
structure ClG (P : Program) (w : World) (K : PySem.W.Frag) (mg : Str → Option Value) (base : Heap) (k : Nat) (x : Str) (sp : Sp) : Prop where
  ex : ∃ f fd ps, FnG P w K mg base k f fd ps sp ∧ mg x = some (.ref f) ∧ PySem.W.keepIn K (.ref f) = true ∧ Binds K fd ps []
section
variable {P : Program} {w : World} {K : PySem.W.Frag} {mg : Str → Option Value} {base : Heap} {j k : Nat} {x : Str} {sp sp' : Sp} {st : Stmt} {N ps : List Str}
theorem fnG_of {f : Addr} {fd : FuncData} (F : FnP K x st f fd) (S : FnScope N ps (defScope st)) (len : ∀ vs H Q E, sp vs H Q E → vs.length = ps.length)
    (body : ∀ (cdv : Value) (A : Around) (outer : List Env) (s : Shared) (H : Hp) (vs : List V) (Q : VK) (E : XK), Room k (A.deeper (envOfC x (defScope st) s.heap.objs.size f cdv)) → A.guards = some [] → sp vs H Q E →
      ∃ t, PSs (cxOf CX0 P w K mg base N x (defScope st) f cdv A outer s H E).nox (defBody st) t ∧ t { nx := fun _ H' => Q .non H', rt := Q } (start N vs) H) : FnG P w K mg base (k + 1) f fd ps sp := by
  obtain ⟨oc, od, dV, kV, doc, pm, an, cdv, ct, osl, rfl, lk, hcd, _, _⟩ := F.ex
  refine ⟨len, fun A outer s H us vs Q E hr hg e0 hb r h => LamX.run_ofS lk hcd S hr e0 hb r (len _ _ _ _ h) fun hr' => ?_⟩
  obtain ⟨t, h1, h2⟩ := body cdv A outer s H vs Q E hr' hg h
  exact ⟨t, h1.nox, h2⟩
theorem clG_of (D : Df K mg x st) (S : FnScope N ps (defScope st))
    (hb : ∀ (kV doc pm : Value) (an : Option Addr) (cdv ct : Value) (us : List Value), us.length = ps.length → bindArgs (PySem.W.fnOf x x (defArgs st) (defBody st) (defScope st) .none kV doc pm an cdv ct) ⟨us, []⟩ = pure (ps.zip us))
    (len : ∀ vs H Q E, sp vs H Q E → vs.length = ps.length)
    (body : ∀ (f : Addr) (cdv : Value) (A : Around) (outer : List Env) (s : Shared) (H : Hp) (vs : List V) (Q : VK) (E : XK), Room k (A.deeper (envOfC x (defScope st) s.heap.objs.size f cdv)) → A.guards = some [] → sp vs H Q E →
      ∃ t, PSs (cxOf CX0 P w K mg base N x (defScope st) f cdv A outer s H E).nox (defBody st) t ∧ t { nx := fun _ H' => Q .non H', rt := Q } (start N vs) H) : ClG P w K mg base (k + 1) x sp := by
  obtain ⟨f, fd, F, m⟩ := D.ex
  exact ⟨f, fd, ps, fnG_of F S len fun cdv A outer s H vs Q E hr hg h => body f cdv A outer s H vs Q E hr hg h, m, F.kp, F.bindsN hb⟩
end
section
variable {X : Cx} {k j : Nat} {x : Str} {sp : Sp} {e : Expr} {es : List Expr} {t : TA} {p pos : Pos}
theorem pe_uG (c : ClG X.prog X.w X.K X.mg X.base k x sp) (hr : Room j X.A) (hgd : X.A.guards = some []) (hk : k ≤ j) (hg : Gl X x) (ha : PA X (e :: es) t) (hdb : (x == ("__debug__" : Str)) = false := by decide)
    (he : starEach (e :: es) X.env = (false, eval e X.env) :: starEach es X.env := by rfl) (hpl : (backTo pos (starEach es X.env)).any (·.1) = false := by rfl) : PE X (.Call (.Name x p) (e :: es) [] pos) (tCall sp [] E0 t) := by
  obtain ⟨f, fd, ps, F, hm, kp, b⟩ := c.ex
  refine ⟨fun pins s σ H Q I h => wpAny_Call_Name_kw (ld_glob I hg hm ?_ hdb)⟩
  refine PySem.W.callWith_K (h₀ := X.base) I.ok.mod.kin kp (thn (ha.run pos pins s σ H _ I h) fun us s1 h1 => ?_) he hpl
  obtain ⟨vs, H1, I1, r, q⟩ := h1
  rw [List.append_nil] at q
  refine ⟨I1.kIn, ?_⟩
  have hl : us.length = ps.length := by rw [← r.length]; exact F.len _ _ _ _ q
  refine wpAny_call (codeAny_mono (F.run X.A X.stack s1 H1 us vs Q E0 (hr.mono hk) hgd I1.env0 (by simpa using b s1 us I1.kIn (by simpa using hl)) r q) fun r s' hq => ?_)
  cases r with
  | error e => exact (show False from hq).elim
  | ok fl =>
    cases fl with
    | ret u => exact I1.after hq
    | next => exact False.elim hq
    | brk => exact False.elim hq
    | cont => exact False.elim hq
end
end Pc
/-! more readings as data: slices, enumerate, zip, all, sorted ints, comprehensions -/
namespace Pc
open PySem PySem.Spec PyProof.Rows L2
open Evl (Ex EvT)

section
variable {K : PySem.W.Frag} {σ : L2.St} {H H' : Hp} {ta tb tc te : TE} {tt tu : TT} {x y v : V} {a b c d : PyData}
/-! ### slices of tuples -/
theorem sIx1 {n j : Nat} : HT.sIx n 0 (some ((j : Nat) : Int)) = min j n := HT.sIx_nat n 0 j
theorem sIx2 {n j : Nat} : HT.sIx n n (some ((j : Nat) : Int)) = min j n := HT.sIx_nat n n j
theorem cut_drop (xs : List V) (j : Nat) : cutV xs (some (j : Int)) none = xs.drop j := by
  unfold cutV
  rw [sIx1, HT.sIx_none]
  by_cases h : j ≤ xs.length
  · rw [Nat.min_eq_left h, List.take_of_length_le (by rw [List.length_drop]; omega)]
  · rw [Nat.min_eq_right (by omega), List.drop_of_length_le (by omega), List.drop_of_length_le (by omega)]
    simp
theorem cut_take (xs : List V) (j : Nat) : cutV xs none (some (j : Int)) = xs.take j := by
  unfold cutV
  rw [sIx2, HT.sIx_none, List.drop_zero, Nat.sub_zero]
  by_cases h : j ≤ xs.length
  · rw [Nat.min_eq_left h]
  · rw [Nat.min_eq_right (by omega), List.take_of_length_le (Nat.le_refl _), List.take_of_length_le (by omega)]
theorem evd_from {ds : List PyData} {j : Nat} (h : EvD te σ H (.tuple ds)) : EvD (tSl (rSlA K) te (tPart (tC (.int (j : Int)))) tNoPart) σ H (.tuple (ds.drop j)) := fun H1 e Q q => h H1 e _ fun x H2 e2 dx => by
  obtain ⟨p, us, rfl, hp, kx⟩ := dt_tup dx
  refine ⟨(j : Int), rfl, p, us, rfl, SqT.of hp, fun z => ?_, fun _ n hn => q _ _ (e2.trans (ex_new hn)) ?_⟩
  · rw [sIx1] at z
    have hj : min j us.length = 0 := z.1
    have hl := kx.length
    have e3 : ds.drop j = ds := by
      by_cases h0 : j = 0
      · rw [h0, List.drop_zero]
      · have : us.length = 0 := by omega
        rw [List.length_eq_zero_iff.mp (hl.symm.trans this)]
        simp
    rw [e3] at q
    exact q _ _ e2 dx
  · rw [cut_drop]
    exact .tup upd_same ((kx.drop j).mono (ex_new hn))
theorem evd_to {ds : List PyData} {j : Nat} (h : EvD te σ H (.tuple ds)) : EvD (tSl (rSlA K) te tNoPart (tPart (tC (.int (j : Int))))) σ H (.tuple (ds.take j)) := fun H1 e Q q => h H1 e _ fun x H2 e2 dx => by
  obtain ⟨p, us, rfl, hp, kx⟩ := dt_tup dx
  refine ⟨(j : Int), rfl, p, us, rfl, SqT.of hp, fun z => ?_, fun _ n hn => q _ _ (e2.trans (ex_new hn)) ?_⟩
  · rw [sIx2] at z
    have hj : min j us.length = us.length := z.2
    have hl := kx.length
    have e3 : ds.take j = ds := List.take_of_length_le (by omega)
    rw [e3] at q
    exact q _ _ e2 dx
  · rw [cut_take]
    exact .tup upd_same ((kx.take j).mono (ex_new hn))
/-! ### enumerate, zip -/
def enumD (ds : List PyData) : List PyData := (List.range ds.length).map fun i => .tuple [.int (i : Nat), ds.getD i .none]
theorem enumD_length (ds : List PyData) : (enumD ds).length = ds.length := by unfold enumD; simp
theorem enumD_get {ds : List PyData} {i : Nat} (h : ds[i]? = some d) : (enumD ds)[i]? = some (.tuple [.int (i : Nat), d]) := by
  have hi := (List.getElem?_eq_some_iff.mp h).1
  unfold enumD
  rw [List.getElem?_map, List.getElem?_range hi]
  show some (PyData.tuple [.int (i : Nat), ds.getD i .none]) = _
  rw [List.getD_eq_getElem?_getD, h]
  rfl
theorem evi_enumT {t : TA} {ds : List PyData} (h : EvAD t σ H [.tuple ds]) : EvI (iEnumT K t) σ H (enumD ds) := fun H1 e R k => h H1 e _ fun vs H2 e2 dv => by
  obtain ⟨x, rfl, dx⟩ := dtAll1 dv
  obtain ⟨p, us, rfl, hp, kx⟩ := dt_tup dx
  refine ⟨p, us, rfl, SqT.of hp, k _ H2 e2 ?_⟩
  rw [enumD_length, ← kx.length]
  refine ⟨fun i H' hi e' => ⟨us, us[i], SqT.of (e' _ _ hp), by simp [hi]⟩, fun H' e' => ⟨us, SqT.of (e' _ _ hp), rfl⟩, fun i H3 x H4 hi e' y => ?_⟩
  obtain ⟨T, z, rfl, hT, rfl, hz⟩ := y
  obtain ⟨d, hd, dd⟩ := kx.get (hz us (SqT.of (e' _ _ hp)))
  exact ⟨ex_new hT, _, enumD_get hd, .tup upd_same (.cons (.int _) (.one (dd.mono (e'.trans (ex_new hT)))))⟩
theorem evi_enumL {t : TA} {ds : List PyData} (h : EvAD t σ H [.list ds]) : EvI (iEnum K t) σ H (enumD ds) := fun H1 e R k => h H1 e _ fun vs H2 e2 dv => by
  obtain ⟨x, rfl, dx⟩ := dtAll1 dv
  obtain ⟨p, us, rfl, hp, kx⟩ := dt_lst dx
  refine ⟨p, us, rfl, SqL.of hp, k _ H2 e2 ?_⟩
  rw [enumD_length, ← kx.length]
  refine ⟨fun i H' hi e' => ⟨us, us[i], SqL.of (e' _ _ hp), by simp [hi]⟩, fun H' e' => ⟨us, SqL.of (e' _ _ hp), Nat.le_refl _⟩, fun i H3 x H4 hi e' y => ?_⟩
  obtain ⟨T, z, rfl, hT, rfl, hz⟩ := y
  obtain ⟨d, hd, dd⟩ := kx.get (hz us (SqL.of (e' _ _ hp)))
  exact ⟨ex_new hT, _, enumD_get hd, .tup upd_same (.cons (.int _) (.one (dd.mono (e'.trans (ex_new hT)))))⟩
/-- pairs of what stands at the same place -/
def zipD (ds es : List PyData) : List PyData := (ds.zip es).map fun z => .tuple [z.1, z.2]
theorem evi_zipT {t : TA} {ds es : List PyData} (h : EvAD t σ H [.tuple ds, .tuple es]) : EvI (RZ.iZipA K t) σ H (zipD ds es) := fun H1 e R k => h H1 e _ fun vs H2 e2 dv => by
  obtain ⟨x, y, rfl, dx, dy⟩ := dtAll2 dv
  obtain ⟨p, us, rfl, hp, kx⟩ := dt_tup dx
  obtain ⟨p', ws, rfl, hp', ky⟩ := dt_tup dy
  have l1 := kx.length
  have l2 := ky.length
  refine ⟨p, p', us, ws, rfl, .inr ⟨SqT.of hp, SqT.of hp', k _ H2 e2 ?_⟩⟩
  have el : (zipD ds es).length = min us.length ws.length := by unfold zipD; rw [List.length_map, List.length_zip, l1, l2]
  rw [el]
  refine ⟨fun i H' hi e' => ⟨us, ws, us[i]'(by omega), ws[i]'(by omega), SqT.of (e' _ _ hp), SqT.of (e' _ _ hp'), List.getElem?_eq_getElem _, List.getElem?_eq_getElem _⟩,
    fun H' e' => ⟨us, ws, SqT.of (e' _ _ hp), SqT.of (e' _ _ hp'), by omega⟩, fun i H3 x H4 hi e' y => ?_⟩
  obtain ⟨T, z, z', rfl, hT, rfl, hz, hz'⟩ := y
  obtain ⟨d, hd, dd⟩ := kx.get (hz us (SqT.of (e' _ _ hp)))
  obtain ⟨d', hd', dd'⟩ := ky.get (hz' ws (SqT.of (e' _ _ hp')))
  have eg : (zipD ds es)[i]? = some (.tuple [d, d']) := by
    unfold zipD
    rw [List.getElem?_map, List.getElem?_zip_eq_some (z := (d, d')).mpr ⟨hd, hd'⟩]
    rfl
  exact ⟨ex_new hT, _, eg, .tup upd_same (.cons (dd.mono (e'.trans (ex_new hT))) (.one (dd'.mono (e'.trans (ex_new hT)))))⟩
/-! ### built-in calls -/
theorem dtAll_bls : ∀ {bs : List Bool} {xs : List V}, DtAll H xs (bs.map PyData.bool) → xs = bs.map V.bl
  | [], _, h => by cases h; rfl
  | b :: bs, _, h => by
    cases h with
    | cons h k => rw [dt_bl h, dtAll_bls k]; rfl
theorem rcd_all {bs : List Bool} : RCD (rAll K) [.list (bs.map PyData.bool)] (.bool (bs.all id)) := fun H vs k Q q => by
  obtain ⟨x, rfl, dx⟩ := dtAll1 k
  obtain ⟨p, us, rfl, hp, kx⟩ := dt_lst dx
  rw [dtAll_bls kx] at hp
  exact ⟨p, bs, rfl, SqL.of hp, q _ H (Ex.refl _) (.bl _)⟩
theorem sorted_uniq : ∀ {ns ms : List Int}, ns.Perm ms → ns.Pairwise (· ≤ ·) → ms.Pairwise (· ≤ ·) → ns = ms := fun p h1 h2 => p.eq_of_pairwise (fun a b _ _ h h' => Int.le_antisymm h h') h1 h2
end
/-- sorted(t), a tuple of ints -/
def rSortT (K : PySem.W.Frag) : List V → Hp → VK → Prop := fun vs H Q => ∃ (a : Addr) (ns : List Int), vs = [V.ref a] ∧ SqT K H a (ns.map V.int) ∧
  ∀ (ns' : List Int) (p : Addr), ns'.Perm ns → ns'.Pairwise (· ≤ ·) → H p = none → Q (.ref p) (upd H p (.lst (ns'.map V.int)))
theorem cr_sortT {X : Cx} : CallR X (.builtin "sorted") (rSortT X.K) := by
  intro pins s σ H vs us Q I r h
  obtain ⟨a, ns, rfl, hs, q⟩ := h
  obtain ⟨its, rv, ⟨o, ho, hcl, n, hd⟩, hz⟩ := I.tuple hs
  obtain rfl := Vals.ref1 r
  have hi := rv.ints
  have lz : its.length ≤ sizeLine := by rw [← rv.length]; exact hz
  refine Calls.call_function_entry kind_sorted plain_sorted entry_sorted (args_sorted1 _) ?_
  unfold Builtin.«sorted»
  refine wpAny_bind (m := checkCount "sorted" 1 1 [Value.ref a].length) (wpAny_pure (wpAny_bind (wpAny_collect_seq a (.inr rfl) ho hcl hd (fun g kp => wpAny_bind (wpAny_newList ?_ lz)) (by rw [List.size_toArray]; exact lz))))
  have ol : (g.push (seqObj "list" its.toArray 0)).get? g.objs.size = some (seqObj "list" its.toArray 0) := Heap.get?_push_size _ rfl
  have I1 : Inv X pins σ H { s with heap := g } := I.kept (t' := s.toks) kp
  have nl : H g.objs.size = none := I1.hok.fresh (Nat.le_refl _)
  have fl : FpOk X pins H g.objs.size := I1.fpOk (Nat.le_refl _) nl
  refine wpAny_bind (wpAny_holding (wpAny_call_entry slot_list_sort ⟨_, ol, rfl⟩ entry_list_sort (SrtO.list_sort_ord SrtO.swo_int ol lz (fun h2 => SrtO.ints_sortable hi h2) fun out h1 h2 => ⟨_, rfl, ?_⟩) (args_list_sort _)))
  obtain ⟨k1, k2, k3⟩ := SrtO.ints_out hi h1 h2
  refine wpAny_pure ⟨_, rfl, ?_⟩
  generalize hg2 : g.push (seqObj "list" its.toArray 0) = g2 at ol
  have I2 : Inv X pins σ H { s with heap := g2 } := by rw [← hg2]; exact I1.kept (t' := s.toks) fun b o e => Heap.get?_push_of_some _ e
  generalize g.objs.size = l at nl fl ol
  obtain ⟨ep, he'⟩ := PyProof.Rows.sortedHeap_at (vs := its) (out := out.toArray) ol
  have hlen : ((out.map SrtO.iv).map V.int).length ≤ sizeLine := by
    rw [List.length_map, k2.length_eq]
    rw [List.length_map] at hz
    exact hz
  exact ⟨.ref l, upd H l (.lst ((out.map SrtO.iv).map V.int)), I2.take (h' := sortedHeap g2 l its out.toArray) (t' := s.toks) (fun b ob hb e => (PyProof.Rows.sortedHeap_old hb (Heap.lt_size e)).trans e) fl ⟨hlen, out, ep, vals_of_ints k1, he'⟩, rfl, q _ l k2 k3 nl⟩
section
variable {K : PySem.W.Frag} {H : Hp}
theorem rcd_sortT {ns ms : List Int} (hp : ms.Perm ns) (hs : ms.Pairwise (· ≤ ·)) : RCD (rSortT K) [.tuple (ns.map PyData.int)] (.list (ms.map PyData.int)) := fun H vs k Q q => by
  obtain ⟨x, rfl, dx⟩ := dtAll1 k
  obtain ⟨p, us, rfl, hp', kx⟩ := dt_tup dx
  rw [dtAll_ints kx] at hp'
  refine ⟨p, ns, rfl, SqT.of hp', fun ns' l h1 h2 hl => q _ _ (ex_new hl) ?_⟩
  rw [sorted_uniq (h1.trans hp.symm) h2 hs]
  exact .lst upd_same dtAll_of_ints
theorem rd_leT {ns ms : List Int} {b : Bool} (hb : Ob.lexAt (fun j => decide (ns.getD j 0 = ms.getD j 0)) (fun j => decide (ns.getD j 0 ≤ ms.getD j 0)) (decide (ns.length ≤ ms.length)) 0 (min ns.length ms.length) = b) :
    RD (rLeT K) (.tuple (ns.map PyData.int)) (.tuple (ms.map PyData.int)) (.bool b) := fun H x y dx dy Q q => by
  obtain ⟨p, us, rfl, hp, kx⟩ := dt_tup dx
  obtain ⟨p', ws, rfl, hp', ky⟩ := dt_tup dy
  rw [dtAll_ints kx] at hp
  rw [dtAll_ints ky] at hp'
  exact ⟨p, p', ns, ms, rfl, rfl, SqT.of hp, SqT.of hp', q _ H (Ex.refl _) (by rw [hb]; exact .bl b)⟩
end
end Pc
/-! operators as data; typed walks -/
namespace Pc
open PySem PySem.Spec PyProof.Rows L2
open Evl (Ex EvT)
section
variable {K : PySem.W.Frag} {σ : L2.St} {H H' : Hp} {ta tb tc te : TE} {tt tu : TT} {x y v : V} {a b c d : PyData} {i j : Int}
theorem evd_lt (ha : EvD ta σ H (.int i)) (hb : EvD tb σ H (.int j)) : EvD (tOp (rI0 fun i j => .bl (decide (i < j))) ta tb) σ H (.bool (decide (i < j))) := evd_op ha hb (rd_I0 fun _ => .bl _)
theorem evd_le (ha : EvD ta σ H (.int i)) (hb : EvD tb σ H (.int j)) : EvD (tOp (rI0 fun i j => .bl (decide (i ≤ j))) ta tb) σ H (.bool (decide (i ≤ j))) := evd_op ha hb (rd_I0 fun _ => .bl _)
theorem evd_gt (ha : EvD ta σ H (.int i)) (hb : EvD tb σ H (.int j)) : EvD (tOp (rI0 fun i j => .bl (decide (j < i))) ta tb) σ H (.bool (decide (j < i))) := evd_op ha hb (rd_I0 fun _ => .bl _)
theorem evd_add (ha : EvD ta σ H (.int i)) (hb : EvD tb σ H (.int j)) : EvD (tOp (rI0 fun i j => .int (i + j)) ta tb) σ H (.int (i + j)) := evd_op ha hb (rd_I0 fun _ => .int _)
theorem evd_sub (ha : EvD ta σ H (.int i)) (hb : EvD tb σ H (.int j)) : EvD (tOp (rI0 fun i j => .int (i - j)) ta tb) σ H (.int (i - j)) := evd_op ha hb (rd_I0 fun _ => .int _)
theorem evd_eq (ha : EvD ta σ H a) (hb : EvD tb σ H b) (sa : SeqAt.shaped a = true := by rfl) (sb : SeqAt.shaped b = true := by rfl) : EvD (tOp (rEqD K) ta tb) σ H (.bool (PyData.eqv a b)) := evd_op ha hb (rd_eqD sa sb)
theorem evd_ne (ha : EvD ta σ H a) (hb : EvD tb σ H b) (sa : SeqAt.shaped a = true := by rfl) (sb : SeqAt.shaped b = true := by rfl) : EvD (tOp (rNeD K) ta tb) σ H (.bool (!PyData.eqv a b)) := evd_op ha hb (rd_neD sa sb)
theorem evd_ixT {ds : List PyData} {j : Nat} (ha : EvD ta σ H (.tuple ds)) (h : ds[j]? = some d) : EvD (tOp (rIx K) ta (tC (.int (j : Int)))) σ H d := evd_op ha (evd_cint (i := (j : Int))) (rd_ixT h)
theorem evd_lenT {ds : List PyData} (ha : EvD ta σ H (.tuple ds)) : EvD (tCB (rLenA K) (tCons ta tNil)) σ H (.int ds.length) := evd_cb (ead_cons ha ead_nil) rcd_lenT
theorem evd_lenL {ds : List PyData} (ha : EvD ta σ H (.list ds)) : EvD (tCB (rLenA K) (tCons ta tNil)) σ H (.int ds.length) := evd_cb (ead_cons ha ead_nil) rcd_lenL
theorem evd_all {bs : List Bool} (ha : EvD ta σ H (.list (bs.map PyData.bool))) : EvD (tCB (rAll K) (tCons ta tNil)) σ H (.bool (bs.all id)) := evd_cb (ead_cons ha ead_nil) rcd_all
theorem evd_listT {ds : List PyData} (ha : EvD ta σ H (.tuple ds)) : EvD (tCB (rListA K) (tCons ta tNil)) σ H (.list ds) := evd_cb (ead_cons ha ead_nil) rcd_listT
theorem evd_tupL {ds : List PyData} (ha : EvD ta σ H (.list ds)) : EvD (tCB (rTupA K) (tCons ta tNil)) σ H (.tuple ds) := evd_cb (ead_cons ha ead_nil) rcd_tupL
theorem evd_cat {xs ys : List PyData} (ha : EvD ta σ H (.list xs)) (hb : EvD tb σ H (.list ys)) (hz : xs.length + ys.length ≤ 100000) : EvD (tOp rCat ta tb) σ H (.list (xs ++ ys)) := evd_op ha hb (rd_cat hz)
theorem evd_catT {xs ys : List PyData} (ha : EvD ta σ H (.tuple xs)) (hb : EvD tb σ H (.tuple ys)) (hz : xs.length + ys.length ≤ 100000) : EvD (tOp (rCatA K) ta tb) σ H (.tuple (xs ++ ys)) := evd_op ha hb (rd_catA hz)
/-- a new list -/
def EvF (te : TE) (σ : L2.St) (H : Hp) (es : List PyData) : Prop := ∀ H1, Ex H H1 → ∀ Q : VK, (∀ a xs H2, Ex H1 H2 → H1 a = none → H2 a = some (.lst xs) → DtAll H2 xs es → Q (.ref a) H2) → te σ H1 Q
theorem EvF.evd {es : List PyData} (h : EvF te σ H es) : EvD te σ H (.list es) := fun H1 e Q q => h H1 e Q fun a xs H2 e2 _ h2 k => q _ H2 e2 (.lst h2 k)
theorem fresh_of {a : Addr} (e : Ex H H') (n : H' a = none) : H a = none := by
  cases h : H a with
  | none => rfl
  | some o => rw [e _ _ h] at n; cases n
/-- a comprehension over typed items -/
theorem evf_lct {α : Type} {wi : TI} {g : TG} {vs : List Nat} (xs : List α) (enc : α → PyData) (c : α → Bool) (f : α → PyData) (hw : EvI wi σ H (xs.map enc))
    (hb : ∀ a ∈ xs, ∀ x H1, Ex H H1 → Dt H1 x (enc a) → ∀ Q : L2.St → Hp → Prop, (∀ σ2, wipe σ2 vs = wipe σ vs → EvT tt σ2 H1 (c a) → (c a = true → EvD te σ2 H1 (f a)) → Q σ2 H1) → g x (wipe σ vs) H1 Q)
    (ht : ∀ a ∈ xs, c a = true → tupOnly (f a) = true) (hz : xs.length ≤ 50000) : EvF (tLc wi g tt te vs) σ H ((xs.filter c).map f) := fun H1 e Q q =>
  hw H1 e _ fun J H2 e2 w Dl hD => by
    rw [List.length_map] at w
    have tp : ∀ i, tupOnlyAll (((xs.take i).filter c).map f) = true := fun i => tupOnlyAll_of fun d hd => by
      obtain ⟨d', h1, rfl⟩ := List.mem_map.mp hd
      obtain ⟨h2, h3⟩ := List.mem_filter.mp h1
      exact ht d' (List.mem_of_mem_take h2) h3
    have len : ∀ i, (((xs.take i).filter c).map f).length ≤ 50000 := fun i => by
      rw [List.length_map]
      refine Nat.le_trans (List.length_filter_le _ _) ?_
      rw [List.length_take]
      omega
    refine lc_it w (fun i H' => Cm H2 Dl (((xs.take i).filter c).map f) H') ⟨hD, ex_new hD, [], upd_same, .nil⟩ (fun i H' _ p => p.2.1) (fun i x H' H3 hi p y => ?_) fun H' p => ?_
    · obtain ⟨p1, p2, acc, p3, p4⟩ := p
      obtain ⟨e3, d0, hd0, dx⟩ := y
      rw [List.getElem?_map] at hd0
      obtain ⟨d, hd, rfl⟩ := Option.map_eq_some_iff.mp hd0
      have hm : d ∈ xs := List.mem_of_getElem? hd
      have eT : xs.take (i + 1) = xs.take i ++ [d] := by rw [List.take_add_one, hd]; rfl
      refine hb d hm x H3 ((e.trans e2).trans (p2.trans e3)) dx _ fun σ2 hσ hT hE => ⟨hσ, ?_⟩
      refine hT H3 (Ex.refl _) _ fun H4 e4 => ?_
      cases hc : c d with
      | true =>
        refine hE hc H4 e4 _ fun y H5 e5 dy => ⟨acc, e5 _ _ (e4 _ _ (e3 _ _ p3)), ?_, p1, ?_, acc ++ [y], upd_same, ?_⟩
        · have := p4.length
          have := len i
          exact Evl.sz_lt (by omega)
        · exact Ex.mut (((p2.trans e3).trans e4).trans e5) p1
        · have eL : ((xs.take (i + 1)).filter c).map f = ((xs.take i).filter c).map f ++ [f d] := by
            rw [eT, List.filter_append, List.map_append, List.filter_cons, if_pos hc]
            rfl
          rw [eL]
          have eD : H5 Dl = some (.lst acc) := e5 _ _ (e4 _ _ (e3 _ _ p3))
          exact ((p4.mono ((e3.trans e4).trans e5)).monoT (ext_lst eD) (tp i)).append (.one (dy.monoT (ext_lst eD) (ht d hm hc)))
      | false =>
        have eL : ((xs.take (i + 1)).filter c).map f = ((xs.take i).filter c).map f := by
          rw [eT, List.filter_append, List.map_append, List.filter_cons, if_neg (by rw [hc]; exact Bool.false_ne_true)]
          simp
        show Cm H2 Dl (((xs.take (i + 1)).filter c).map f) H4
        rw [eL]
        exact ⟨p1, (p2.trans e3).trans e4, acc, e4 _ _ (e3 _ _ p3), p4.mono (e3.trans e4)⟩
    · obtain ⟨p1, p2, acc, p3, p4⟩ := p
      rw [List.take_length] at p4
      exact q _ _ H' (e2.trans p2) (fresh_of e2 p1) p3 p4
theorem evd_lct {α : Type} {wi : TI} {g : TG} {vs : List Nat} (xs : List α) (enc : α → PyData) (c : α → Bool) (f : α → PyData) (hw : EvI wi σ H (xs.map enc))
    (hb : ∀ a ∈ xs, ∀ x H1, Ex H H1 → Dt H1 x (enc a) → ∀ Q : L2.St → Hp → Prop, (∀ σ2, wipe σ2 vs = wipe σ vs → EvT tt σ2 H1 (c a) → (c a = true → EvD te σ2 H1 (f a)) → Q σ2 H1) → g x (wipe σ vs) H1 Q)
    (ht : ∀ a ∈ xs, c a = true → tupOnly (f a) = true) (hz : xs.length ≤ 50000) : EvD (tLc wi g tt te vs) σ H (.list ((xs.filter c).map f)) := EvF.evd (evf_lct xs enc c f hw hb ht hz)
theorem evt_yes : EvT tYes σ H true := fun H1 e Q q => q H1 (Ex.refl _)
/-- without a test -/
theorem evd_lcy {α : Type} {wi : TI} {g : TG} {vs : List Nat} (xs : List α) (enc : α → PyData) (f : α → PyData) (hw : EvI wi σ H (xs.map enc))
    (hb : ∀ a ∈ xs, ∀ x H1, Ex H H1 → Dt H1 x (enc a) → ∀ Q : L2.St → Hp → Prop, (∀ σ2, wipe σ2 vs = wipe σ vs → EvD te σ2 H1 (f a) → Q σ2 H1) → g x (wipe σ vs) H1 Q)
    (ht : ∀ a ∈ xs, tupOnly (f a) = true) (hz : xs.length ≤ 50000) : EvD (tLc wi g tYes te vs) σ H (.list (xs.map f)) := by
  have h := evd_lct (tt := tYes) (te := te) (vs := vs) (g := g) xs enc (fun _ => true) f hw (fun a ha x H1 e dx Q q => hb a ha x H1 e dx Q fun σ2 hσ hE => q σ2 hσ evt_yes fun _ => hE) (fun a ha _ => ht a ha) hz
  have e : xs.filter (fun _ => true) = xs := List.filter_eq_self.mpr fun _ _ => rfl
  rw [e] at h
  exact h
end
end Pc
/-! queries -/
namespace Pc
open PySem PySem.Spec PyProof.Rows L2
open Evl (Ex EvT)
open StX (tStar pa_star)
section
variable {P : Program} {w : World} {K : PySem.W.Frag} {mg : Str → Option Value} {base : Heap}


def R_is_whole : List PyData → PyData → Prop := fun ds r => ∃ (i lo hi : Int), ds = [.int i, .int lo, .int hi] ∧ r = .bool (decide (lo ≤ i) && decide (i ≤ hi))
theorem R_is_whole_len : ∀ ds d, R_is_whole ds d → ds.length = 3 := fun ds d ⟨_, _, _, e, _⟩ => by rw [e]; rfl
def R_are_rising : List PyData → PyData → Prop := fun ds r => ∃ row : List Nat, row.length ≤ 1000 ∧ ds = [eRow row] ∧ r = .bool (rising row)
theorem R_are_rising_len : ∀ ds d, R_are_rising ds d → ds.length = 1 := fun ds d ⟨_, _, e, _⟩ => by rw [e]; rfl
def R_are_values : List PyData → PyData → Prop := fun ds r => ∃ (row : List Nat) (m : Nat), RowOk m row ∧ ds = [eRow row, .int (m : Int)] ∧ r = .bool true
theorem R_are_values_len : ∀ ds d, R_are_values ds d → ds.length = 2 := fun ds d ⟨_, _, _, e, _⟩ => by rw [e]; rfl
def R_is_link : List PyData → PyData → Prop := fun ds r => ∃ (l : Nat × Nat × List Nat) (n : Nat), (l.1 < l.2.1 ∧ l.2.1 < n ∧ RowOk 100 l.2.2) ∧ ds = [eLink l, .int (n : Int)] ∧ r = .bool true
theorem R_is_link_len : ∀ ds d, R_is_link ds d → ds.length = 2 := fun ds d ⟨_, _, _, e, _⟩ => by rw [e]; rfl
/-- the pairs next to each other rise -/
theorem rising_pairs : ∀ row : List Nat, ((row.zip (row.drop 1)).map fun z => decide (z.1 < z.2)).all id = rising row
  | [] => rfl
  | [x] => rfl
  | x :: y :: r => by
    have h := rising_pairs (y :: r)
    show (decide (x < y) && (((y :: r).zip r).map fun z => decide (z.1 < z.2)).all id) = (decide (x < y) && rising (y :: r))
    rw [← h]
    rfl
theorem eNs_zip (as bs : List Nat) : zipD (eNs as) (eNs bs) = (as.zip bs).map fun z => .tuple [.int (z.1 : Int), .int (z.2 : Int)] := by
  unfold zipD eNs
  rw [List.zip_map, List.map_map]
  rfl

theorem cl_is_whole (G : Gs K mg) (D : Df K mg "is_whole" s_is_whole) : Cl P w K mg base 1 "is_whole" (spR R_is_whole) := by
  refine cl_of (k := 0) D sc_is_whole (fun _ _ _ _ _ _ us hl => match us, hl with | [_, _, _], _ => rfl) ?_ fun f cdv A outer s H vs Q E hr hsp => ?_
  · exact spR_len (n := 3) R_is_whole_len
  · obtain ⟨ds, d, hR, hk, q⟩ := hsp
    refine ⟨_, (pss_one (ps_ret (pe_and (pe_isi (by rfl) G.f_isinstance (by rfl) G.f_int bt_int (pv 0)) (pe_and (pe_not (pe_isi (by rfl) G.f_isinstance (by rfl) G.f_bool bt_bool (pv 0))) (pe_one (pe_chain op_le op_le (pv 1) (pv 0) (pv 2))))))), ?_⟩
    obtain ⟨i, lo, hi, rfl, rfl⟩ := hR
    obtain ⟨v1, v2, v3, rfl, h1, h2, h3⟩ := dtAll3 hk
    refine s_ret (d := .bool (decide (lo ≤ i) && decide (i ≤ hi))) ?_ (fun v H1 e dv => q v H1 e dv)
    refine evd_is (evd_and (p := true) (evd_isi (evd_var rfl h1) rfl) fun _ => evd_and (p := true) (evd_is (evd_not (p := false) (evd_isi (evd_var rfl h1) rfl)) rfl) fun _ => evd_chain (f := fun i j => decide (i ≤ j)) (g := fun i j => decide (i ≤ j)) (evd_var rfl h2) (evd_var rfl h1) (evd_var rfl h3)) ?_
    rfl

theorem cl_are_rising (G : Gs K mg) (D : Df K mg "are_rising" s_are_rising) : Cl P w K mg base 1 "are_rising" (spR R_are_rising) := by
  refine cl_of (k := 0) D sc_are_rising (fun _ _ _ _ _ _ us hl => match us, hl with | [_], _ => rfl) ?_ fun f cdv A outer s H vs Q E hr hsp => ?_
  · exact spR_len (n := 1) R_are_rising_len
  · obtain ⟨ds, d, hR, hk, q⟩ := hsp
    refine ⟨_, (pss_one (ps_ret (pe_callB (cr_all rfl) (by rfl) G.f_all bt_all (pa_cons (pe_lc (own := [("one", 1), ("other", 2)]) (g := (gTup K 2 (gCons (gName 1) (gCons (gName 2) gNil)))) (tt := tYes) rfl sc_are_rising.nd (RZ.pi_zipA (by rfl) G.f_zip (pa_cons (pv 0) (pa_cons (pe_slice sl_tupA (pv 0) (po_some pe_int) po_none) pa_nil))) (blkOk_by (own := [("one", 1), ("other", 2)]) (N := N_are_rising) (sc := defScope s_are_rising) (by decide +kernel)) (fun _ _ _ _ _ => (pg_tup rfl (pgs_cons (pg_name (i := 1) sc_are_rising.nd rfl (by first | exact Or.inl rfl | exact Or.inr rfl)) (pgs_cons (pg_name (i := 2) sc_are_rising.nd rfl (by first | exact Or.inl rfl | exact Or.inr rfl)) pgs_nil)))) (fun _ _ _ _ _ => pts_nil) (fun _ _ _ _ _ => (pe_cmpR op_lt (pv 1) (pv 2) (nomark _)))) pa_nil)))), ?_⟩
    obtain ⟨row, hz, rfl, rfl⟩ := hR
    obtain ⟨v1, rfl, h1⟩ := dtAll1 hk
    refine s_ret (d := .bool (rising row)) ?_ (fun v H1 e dv => q v H1 e dv)
    rw [← rising_pairs]
    refine evd_all (bs := (row.zip (row.drop 1)).map fun z => decide (z.1 < z.2)) ?_
    rw [List.map_map]
    have hi : EvI (RZ.iZipA K (tCons (tVar 0) (tCons (tSl (rSlA K) (tVar 0) (tPart (tC (.int 1))) tNoPart) tNil))) (start N_are_rising [v1]) H (zipD (eNs row) ((eNs row).drop 1)) :=
      evi_zipT (ead_cons (evd_var rfl h1) (ead_cons (evd_from (j := 1) (evd_var rfl h1)) ead_nil))
    have ez : zipD (eNs row) ((eNs row).drop 1) = (row.zip (row.drop 1)).map fun z => .tuple [.int (z.1 : Int), .int (z.2 : Int)] := by
      rw [← eNs_zip]
      unfold eNs
      rw [List.map_drop]
    rw [ez] at hi
    refine evd_lcy (row.zip (row.drop 1)) (fun z => .tuple [.int (z.1 : Int), .int (z.2 : Int)]) _ hi (fun z hz x H1 e1 dx Q' q' => ?_) (fun _ _ => rfl) (by rw [List.length_zip]; omega)
    refine g_tup2 dx fun a b da db => q' _ rfl ?_
    refine evd_is (evd_lt (evd_var rfl da) (evd_var rfl db)) ?_
    show PyData.bool _ = PyData.bool _
    congr 1
    exact decide_eq_decide.mpr Int.ofNat_lt

theorem cl_are_values (G : Gs K mg) (D : Df K mg "are_values" s_are_values) (c_is_whole : Cl P w K mg base 1 "is_whole" (spR R_is_whole)) (c_are_rising : Cl P w K mg base 1 "are_rising" (spR R_are_rising)) : Cl P w K mg base 2 "are_values" (spR R_are_values) := by
  refine cl_of (k := 1) D sc_are_values (fun _ _ _ _ _ _ us hl => match us, hl with | [_, _], _ => rfl) ?_ fun f cdv A outer s H vs Q E hr hsp => ?_
  · exact spR_len (n := 2) R_are_values_len
  · obtain ⟨ds, d, hR, hk, q⟩ := hsp
    refine ⟨_, (pss_cons (ps_if (PW.pt (pw_or (pt_not (pt_val (pe_isi (by rfl) G.f_isinstance (by rfl) G.f_tuple bt_tuple (pv 0)))) (pw_or1 (pt_not (pt_chain op_le op_le pe_int (pe_callB call_len_seq (by rfl) G.f_len bt_len (pa_cons (pv 0) pa_nil)) (pe_g (by rfl) G.c_MOST_VALUES)))))) (pss_one (ps_ret pe_bl)) pss_nil)
      (pss_one (ps_ret (pe_and (pe_callB (cr_all rfl) (by rfl) G.f_all bt_all (pa_cons (pe_lc (own := [("one", 2)]) (g := (gName 2)) (tt := tYes) rfl sc_are_values.nd (pi_tup (pv 0)) (blkOk_by (own := [("one", 2)]) (N := N_are_values) (sc := defScope s_are_values) (by decide +kernel)) (fun _ _ _ _ _ => (pg_name (i := 2) sc_are_values.nd rfl (by first | exact Or.inl rfl | exact Or.inr rfl))) (fun _ _ _ _ _ => pts_nil) (fun _ _ _ _ _ => (pe_u c_is_whole hr (by omega) (by rfl) (pa_cons (pv 2) (pa_cons pe_int (pa_cons (pv 1) pa_nil)))))) pa_nil)) (pe_one (pe_u c_are_rising hr (by omega) (by rfl) (pa_cons (pv 0) pa_nil))))))), ?_⟩
    obtain ⟨row, m, ok, rfl, rfl⟩ := hR
    obtain ⟨v1, v2, rfl, h1, h2⟩ := dtAll2 hk
    have l1 : (eNs row).length = row.length := by unfold eNs; rw [List.length_map]
    refine q_no ?_ fun H1 e1 => ?_
    · refine et_is (et_or (et_not (et_test (evd_isi (b := true) (evd_var rfl h1) rfl))) fun _ => et_not (et_B (evd_chain (f := fun i j => decide (i ≤ j)) (g := fun i j => decide (i ≤ j)) evd_cint (evd_lenT (evd_var rfl h1)) evd_cint))) ?_
      have a := ok.len
      have b1 : decide ((1 : Int) ≤ ((eNs row).length : Int)) = true := decide_eq_true (by rw [l1]; omega)
      have b2 : decide (((eNs row).length : Int) ≤ 3) = true := decide_eq_true (by rw [l1]; omega)
      rw [b1, b2]
      rfl
    · refine s_ret (d := .bool true) ?_ (fun v H1 e dv => q v H1 (e1.trans e) dv)
      have h1' := h1.mono e1
      have h2' := h2.mono e1
      refine evd_is (evd_and (p := true) (evd_is (evd_all (bs := row.map fun x : Nat => decide ((1 : Int) ≤ (x : Int)) && decide ((x : Int) ≤ (m : Int))) ?_) ?_) fun _ => evd_is (evd_call (ead_cons (evd_var rfl h1') ead_nil) ⟨row, by have := ok.len; omega, rfl, rfl⟩) ?_) rfl
      · rw [List.map_map]
        refine evd_lcy row (fun x : Nat => .int (x : Int)) _ (evi_tup (evd_var rfl h1')) (fun x hx y H2 e2 dx Q' q' => q' _ rfl ?_) (fun _ _ => rfl) (by have := ok.len; omega)
        exact evd_call (ead_cons (evd_var rfl dx) (ead_cons evd_cint (ead_cons (evd_var rfl (h2'.mono e2)) ead_nil))) ⟨_, _, _, rfl, rfl⟩
      · congr 1
        rw [List.all_map, List.all_eq_true]
        intro x hx
        have := ok.lo x hx
        show (decide ((1 : Int) ≤ (x : Int)) && decide ((x : Int) ≤ (m : Int))) = true
        rw [decide_eq_true (by omega), decide_eq_true (by omega)]
        rfl
      · rw [ok.up]

end
end Pc
/-! queries, more -/
namespace Pc
open PySem PySem.Spec PyProof.Rows L2
open Evl (Ex EvT)
open StX (tStar pa_star)
section
variable {P : Program} {w : World} {K : PySem.W.Frag} {mg : Str → Option Value} {base : Heap}


theorem inV_nat (x : Nat) : ∀ L : List Nat, inV (.int (x : Int)) (L.map fun n : Nat => V.int (n : Int)) = decide (x ∈ L)
  | [] => by rw [decide_eq_false (by simp)]; rfl
  | y :: L => by
    have h := inV_nat x L
    unfold inV at h ⊢
    rw [List.map_cons, List.any_cons, h]
    have e1 : eqV (.int (y : Int)) (.int (x : Int)) = ((y : Int) == (x : Int)) := rfl
    rw [e1]
    by_cases e : x = y
    · subst e
      rw [decide_eq_true (List.mem_cons_self ..), beq_self_eq_true]
      rfl
    · have e2 : ((y : Int) == (x : Int)) = false := beq_eq_false_iff_ne.mpr (by omega)
      rw [e2, Bool.false_or]
      exact decide_eq_decide.mpr ⟨fun h => List.mem_cons_of_mem _ h, fun h => (List.mem_cons.mp h).resolve_left e⟩
theorem flat_nats : ∀ L : List Nat, (eNs L).mapM flatD = some (L.map fun n : Nat => V.int (n : Int))
  | [] => rfl
  | y :: L => by
    have h := flat_nats L
    unfold eNs at h ⊢
    rw [List.map_cons, List.mapM_cons, h]
    rfl
theorem risingL_at : ∀ {ls : List (Nat × Nat × List Nat)} {i : Nat} {x y : Nat × Nat × List Nat}, risingL ls = true → ls[i]? = some x → ls[i + 1]? = some y → x.1 < y.1 ∨ (x.1 = y.1 ∧ x.2.1 < y.2.1)
  | [], _, _, _, _, h, _ => by simp at h
  | [a], 0, _, _, _, _, h => by simp at h
  | [a], i + 1, _, _, _, h, _ => by simp at h
  | a :: b :: r, 0, _, _, hr, h1, h2 => by
    simp at h1 h2
    subst h1 h2
    unfold risingL at hr
    rw [Bool.and_eq_true] at hr
    simpa using hr.1
  | a :: b :: r, i + 1, _, _, hr, h1, h2 => by
    unfold risingL at hr
    rw [Bool.and_eq_true] at hr
    exact risingL_at (ls := b :: r) (i := i) hr.2 (by simpa using h1) (by simpa using h2)


section
variable {σ : L2.St} {H : Hp} {ta tb : TE} {x : Nat} {L : List Nat}
theorem evd_inT (ha : EvD ta σ H (.int (x : Int))) (hb : EvD tb σ H (.tuple (eNs L))) : EvD (tOp (rIn K false) ta tb) σ H (.bool (decide (x ∈ L))) := evd_op ha hb (rd_inT (w := .int (x : Int)) rfl (flat_nats L) (inV_nat x L))
theorem evd_inL (ha : EvD ta σ H (.int (x : Int))) (hb : EvD tb σ H (.list (eNs L))) : EvD (tOp (rIn K false) ta tb) σ H (.bool (decide (x ∈ L))) := evd_op ha hb (rd_inL (w := .int (x : Int)) rfl (flat_nats L) (inV_nat x L))
theorem evd_ninL (ha : EvD ta σ H (.int (x : Int))) (hb : EvD tb σ H (.list (eNs L))) : EvD (tOp (rIn K true) ta tb) σ H (.bool (!decide (x ∈ L))) := evd_op ha hb (rd_inL (w := .int (x : Int)) rfl (flat_nats L) (by rw [if_pos rfl, inV_nat x L]))
end

theorem cl_is_link (G : Gs K mg) (D : Df K mg "is_link" s_is_link) (c_is_whole : Cl P w K mg base 1 "is_whole" (spR R_is_whole)) (c_are_values : Cl P w K mg base 2 "are_values" (spR R_are_values)) : Cl P w K mg base 3 "is_link" (spR R_is_link) := by
  refine cl_of (k := 2) D sc_is_link (fun _ _ _ _ _ _ us hl => match us, hl with | [_, _], _ => rfl) ?_ fun f cdv A outer s H vs Q E hr hsp => ?_
  · exact spR_len (n := 2) R_is_link_len
  · obtain ⟨ds, d, hR, hk, q⟩ := hsp
    refine ⟨_, (pss_cons (ps_if (PW.pt (pw_or (pt_not (pt_val (pe_isi (by rfl) G.f_isinstance (by rfl) G.f_tuple bt_tuple (pv 0)))) (pw_or1 (pt_cmpR (r := rNeD K) (op_neD hr.units) (pe_callB (r := rLenA K) call_len_seq (by rfl) G.f_len bt_len (pa_cons (pv 0) pa_nil)) pe_int (nomark _))))) (pss_one (ps_ret pe_bl)) pss_nil)
      (pss_cons (ps_if (PW.pt (pw_or (pt_not (pt_val (pe_u c_is_whole hr (by omega) (by rfl) (pa_cons (pe_ix (r := rIx K) ix_seq (pv 0) pe_int (fun _ _ => rfl)) (pa_cons pe_int (pa_cons (pe_op op_sub (pv 1) pe_int) pa_nil)))))) (pw_or1 (pt_not (pt_val (pe_u c_is_whole hr (by omega) (by rfl) (pa_cons (pe_ix (r := rIx K) ix_seq (pv 0) pe_int (fun _ _ => rfl)) (pa_cons pe_int (pa_cons (pe_op op_sub (pv 1) pe_int) pa_nil))))))))) (pss_one (ps_ret pe_bl)) pss_nil)
      (pss_one (ps_ret (pe_and (pe_cmpR op_lt (pe_ix (r := rIx K) ix_seq (pv 0) pe_int (fun _ _ => rfl)) (pe_ix (r := rIx K) ix_seq (pv 0) pe_int (fun _ _ => rfl)) (nomark _)) (pe_one (pe_u c_are_values hr (by omega) (by rfl) (pa_cons (pe_ix (r := rIx K) ix_seq (pv 0) pe_int (fun _ _ => rfl)) (pa_cons (pe_g (by rfl) G.c_MOST_FITS) pa_nil))))))))), ?_⟩
    obtain ⟨l, n, ok, rfl, rfl⟩ := hR
    obtain ⟨v1, v2, rfl, h1, h2⟩ := dtAll2 hk
    refine q_no ?_ fun H1 e1 => q_no ?_ fun H2 e2 => ?_
    · exact et_is (et_or (et_not (et_test (evd_isi (b := true) (evd_var rfl h1) rfl))) fun _ => et_B (evd_ne (evd_lenT (evd_var rfl h1)) evd_cint)) rfl
    · have a1 := h1.mono e1
      have a2 := h2.mono e1
      refine et_is (et_or (et_not (et_test (evd_call (ead_cons (evd_ixT (j := 0) (evd_var rfl a1) rfl) (ead_cons evd_cint (ead_cons (evd_sub (evd_var rfl a2) evd_cint) ead_nil))) ⟨_, _, _, rfl, rfl⟩)))
        fun _ => et_not (et_test (evd_call (ead_cons (evd_ixT (j := 1) (evd_var rfl a1) rfl) (ead_cons evd_cint (ead_cons (evd_sub (evd_var rfl a2) evd_cint) ead_nil))) ⟨_, _, _, rfl, rfl⟩))) ?_
      rw [decide_eq_true (by omega : (0 : Int) ≤ (l.1 : Int)), decide_eq_true (by omega : (l.1 : Int) ≤ (n : Int) - 1), decide_eq_true (by omega : (0 : Int) ≤ (l.2.1 : Int)), decide_eq_true (by omega : (l.2.1 : Int) ≤ (n : Int) - 1)]
      rfl
    · have a1 := h1.mono (e1.trans e2)
      refine s_ret (d := .bool true) (evd_is (evd_and (evd_lt (evd_ixT (j := 0) (evd_var rfl a1) rfl) (evd_ixT (j := 1) (evd_var rfl a1) rfl)) fun _ => evd_call (ead_cons (evd_ixT (j := 2) (evd_var rfl a1) rfl) (ead_cons evd_cint ead_nil)) ⟨l.2.2, 100, ok.2.2, rfl, rfl⟩) ?_) (fun v H3 e dv => q v H3 ((e1.trans e2).trans e) dv)
      rw [decide_eq_true (by omega : (l.1 : Int) < (l.2.1 : Int))]
      rfl


def R_need_links : List PyData → PyData → Prop := fun ds r => ∃ (ls : List (Nat × Nat × List Nat)) (n : Nat), ls.length ≤ 6 ∧ (∀ l ∈ ls, l.1 < l.2.1 ∧ l.2.1 < n ∧ RowOk 100 l.2.2) ∧ risingL ls = true ∧ ds = [.tuple (ls.map eLink), .int (n : Int)] ∧ r = .none
theorem R_need_links_len : ∀ ds d, R_need_links ds d → ds.length = 2 := fun ds d ⟨_, _, _, _, _, e, _⟩ => by rw [e]; rfl
theorem le_pairs {a b c d : Nat} (h : c < a ∨ (c = a ∧ d < b)) : Ob.lexAt (fun j => decide (([(a : Int), (b : Int)] : List Int).getD j 0 = ([(c : Int), (d : Int)] : List Int).getD j 0)) (fun j => decide (([(a : Int), (b : Int)] : List Int).getD j 0 ≤ ([(c : Int), (d : Int)] : List Int).getD j 0)) (decide (2 ≤ 2)) 0 2 = false := by
  rw [Ob.lexAt_succ]
  show (if decide ((a : Int) = (c : Int)) = true then _ else decide ((a : Int) ≤ (c : Int))) = false
  rcases h with h | ⟨h1, h2⟩
  · rw [if_neg (by rw [decide_eq_true_eq]; omega)]
    exact decide_eq_false (by omega)
  · rw [if_pos (by rw [decide_eq_true_eq]; omega), Ob.lexAt_succ]
    show (if decide ((b : Int) = (d : Int)) = true then _ else decide ((b : Int) ≤ (d : Int))) = false
    rw [if_neg (by rw [decide_eq_true_eq]; omega)]
    exact decide_eq_false (by omega)
theorem getD_of {xs : List PyData} {i : Nat} {d : PyData} (h : xs[i]? = some d) : xs.getD i .none = d := by rw [List.getD_eq_getElem?_getD, h]; rfl

theorem cl_need_links (G : Gs K mg) (D : Df K mg "need_links" s_need_links) (c_is_link : Cl P w K mg base 3 "is_link" (spR R_is_link)) : Cl P w K mg base 4 "need_links" (spR R_need_links) := by
  refine cl_of (k := 3) D sc_need_links (fun _ _ _ _ _ _ us hl => match us, hl with | [_, _], _ => rfl) ?_ fun f cdv A outer s H vs Q E hr hsp => ?_
  · exact spR_len (n := 2) R_need_links_len
  · obtain ⟨ds, d, hR, hk, q⟩ := hsp
    refine ⟨_, (pss_cons (ps_if (PW.pt (pw_or (pt_not (pt_val (pe_isi (by rfl) G.f_isinstance (by rfl) G.f_tuple bt_tuple (pv 0)))) (pw_or1 (pt_cmpR op_gt (pe_callB (r := rLenA K) call_len_seq (by rfl) G.f_len bt_len (pa_cons (pv 0) pa_nil)) (pe_g (by rfl) G.c_MOST_LINKS) (nomark _))))) (pss_one ps_never) pss_nil)
      (pss_one (ps_for PassesOwn.never rfl (pi_enumT (by rfl) G.f_enumerate (pa_cons (pv 0) pa_nil)) (pg_tup rfl (pgs_cons (pg_name (i := 2) sc_need_links.nd rfl (by first | exact Or.inl rfl | exact Or.inr rfl)) (pgs_cons (pg_name (i := 3) sc_need_links.nd rfl (by first | exact Or.inl rfl | exact Or.inr rfl)) pgs_nil))) (pss_one (ps_if (PW.pt (pw_or (pt_not (pt_val (pe_u c_is_link hr (by omega) (by rfl) (pa_cons (pv 3) (pa_cons (pv 1) pa_nil))))) (pw_or1 (PW.pt (pw_and (pt_cmpR op_gt (pv 2) pe_int (nomark _)) (pw_and1 (pt_cmpR (r := rLeT K) (op_leT hr.units0) (pe_slice (r := rSlA K) sl_tupA (pv 3) po_none (po_some pe_int)) (pe_slice (r := rSlA K) sl_tupA (pe_ix (r := rIx K) ix_seq (pv 0) (pe_op op_sub (pv 2) pe_int) (fun _ _ => rfl)) po_none (po_some pe_int)) (nomark _)))))))) (pss_one ps_never) pss_nil))))), ?_⟩
    obtain ⟨ls, n, few, ok, up, rfl, rfl⟩ := hR
    obtain ⟨v1, v2, rfl, h1, h2⟩ := dtAll2 hk
    refine q_no ?_ fun H1 e1 => ?_
    · refine et_is (et_or (et_not (et_test (evd_isi (b := true) (evd_var rfl h1) rfl))) fun _ => et_B (evd_gt (evd_lenT (evd_var rfl h1)) evd_cint)) ?_
      rw [List.length_map, decide_eq_false (by omega)]
      rfl
    · have a1 := h1.mono e1
      have a2 := h2.mono e1
      refine s_for (evi_enumT (ead_cons (evd_var rfl a1) ead_nil)) (fun i σ' => ∃ o1 o2, σ' = [some v1, some v2, o1, o2]) ⟨_, _, rfl⟩ (fun i d x σ' H2 hd e2 hσ dx N hN => ?_) (fun σ' H2 e2 _ => q .non H2 (e1.trans e2) .non)
      obtain ⟨o1, o2, rfl⟩ := hσ
      have hi : i < ls.length := by
        have := (List.getElem?_eq_some_iff.mp hd).1
        rw [enumD_length, List.length_map] at this
        exact this
      have hl := List.getElem?_eq_getElem hi
      rw [enumD_get (by rw [List.getElem?_map, hl]; rfl)] at hd
      cases hd
      have okl := ok _ (List.mem_of_getElem? hl)
      have b1 := a1.mono e2
      have b2 := a2.mono e2
      refine g_tup2 dx fun y z dy dz => ?_
      refine s_if (p := false) ?_ (fun h => nomatch h) (fun _ H3 e3 => hN _ _ ⟨_, _, rfl⟩ e3)
      refine et_is (p := false) (et_or (p := false) (q := false) (et_is (et_not (et_test (evd_call (ead_cons (evd_var rfl dz) (ead_cons (evd_var rfl b2) ead_nil)) ⟨_, n, okl, rfl, rfl⟩))) rfl) fun _ => ?_) rfl
      cases i with
      | zero => exact et_is (et_and (q := false) (et_B (evd_gt (evd_var rfl dy) evd_cint)) fun h => by simp at h) (by simp)
      | succ i =>
        have hl0 : i < ls.length := by omega
        have hp := List.getElem?_eq_getElem hl0
        refine et_is (et_and (q := false) (et_B (evd_gt (evd_var rfl dy) evd_cint)) fun _ => ?_) (by simp)
        refine et_B (evd_op (evd_to (j := 2) (evd_var rfl dz)) (evd_to (j := 2) (evd_op (evd_var rfl b1) (evd_is (evd_sub (evd_var rfl dy) evd_cint) (b := .int (i : Int)) ?_) (rd_ixT (d := eLink ls[i]) (by rw [List.getElem?_map, hp]; rfl)))) ?_)
        · congr 1
          omega
        · exact rd_leT (ns := [(ls[i+1].1 : Int), (ls[i+1].2.1 : Int)]) (ms := [(ls[i].1 : Int), (ls[i].2.1 : Int)]) (le_pairs (risingL_at up hp hl))

end
end Pc
/-! queries, the rest -/
namespace Pc
open PySem PySem.Spec PyProof.Rows L2
open Evl (Ex EvT)
open StX (tStar pa_star)
section
variable {P : Program} {w : World} {K : PySem.W.Frag} {mg : Str → Option Value} {base : Heap}


def prD (p : Nat × Nat × Nat) : PyData := .tuple [.int (p.1 : Int), .int (p.2.1 : Int), .int (p.2.2 : Int)]
def R_need_prices : List PyData → PyData → Prop := fun ds r => ∃ p : Nat × Nat × Nat, ((1 ≤ p.1 ∧ p.1 ≤ 100) ∧ (1 ≤ p.2.1 ∧ p.2.1 ≤ 100) ∧ p.2.2 ≤ 100) ∧ ds = [prD p] ∧ r = .none
theorem R_need_prices_len : ∀ ds d, R_need_prices ds d → ds.length = 1 := fun ds d ⟨_, _, e, _⟩ => by rw [e]; rfl
/-- all rows of a query -/
def Qy.rows (q : Qy) : List (List Nat) := q.sizes ++ q.links.map (·.2.2)
def R_values_of : List PyData → PyData → Prop := fun ds r => ∃ q : Qy, Qok q ∧ ds = [eQ q] ∧ r = .list (q.rows.map eRow)
theorem R_values_of_len : ∀ ds d, R_values_of ds d → ds.length = 1 := fun ds d ⟨_, _, e, _⟩ => by rw [e]; rfl
def R_unknown_in : List PyData → PyData → Prop := fun ds r => ∃ q : Qy, Qok q ∧ ds = [eQ q] ∧ r = .list (((List.range q.rows.length).filter fun i => decide (1 < (q.rows.getD i []).length)).map fun i : Nat => .int (i : Int))
theorem R_unknown_in_len : ∀ ds d, R_unknown_in ds d → ds.length = 1 := fun ds d ⟨_, _, e, _⟩ => by rw [e]; rfl
def R_need_query : List PyData → PyData → Prop := fun ds r => ∃ q : Qy, Qok q ∧ ds = [eQ q] ∧ r = eQ q
theorem R_need_query_len : ∀ ds d, R_need_query ds d → ds.length = 1 := fun ds d ⟨_, _, e, _⟩ => by rw [e]; rfl
def R_need_kind : List PyData → PyData → Prop := fun ds r => ∃ k : Kd, ds = [.str k.str] ∧ r = .str k.str
theorem R_need_kind_len : ∀ ds d, R_need_kind ds d → ds.length = 1 := fun ds d ⟨_, e, _⟩ => by rw [e]; rfl
def R_are_joined : List PyData → PyData → Prop := fun ds r => ∃ (q : Qy) (L M : List Nat), ds = [eQ q, .tuple (eNs L), .tuple (eNs M)] ∧ r = .bool (joined q L M)
theorem R_are_joined_len : ∀ ds d, R_are_joined ds d → ds.length = 3 := fun ds d ⟨_, _, _, e, _⟩ => by rw [e]; rfl
theorem rows_filter (rows : List (List Nat)) (p : List Nat → Bool) : ((List.range rows.length).filter fun i => p (rows.getD i [])).length = (rows.filter p).length := by
  have e : (List.range rows.length).map (fun i => rows.getD i []) = rows := by
    apply List.ext_getElem?
    intro i
    rw [List.getElem?_map]
    by_cases h : i < rows.length
    · rw [List.getElem?_range h, List.getElem?_eq_getElem h]
      show some (rows.getD i []) = _
      rw [List.getD_eq_getElem?_getD, List.getElem?_eq_getElem h]
      rfl
    · rw [List.getElem?_eq_none (by rw [List.length_range]; omega), List.getElem?_eq_none (by omega)]
      rfl
  conv => rhs; rw [← e]
  rw [List.filter_map, List.length_map]
  rfl
theorem eQ_tup (q : Qy) : ∃ a b c, eQ q = .tuple [a, b, c] := ⟨_, _, _, rfl⟩
theorem rowTupAll : ∀ r : List Nat, tupOnlyAll (eNs r) = true
  | [] => rfl
  | x :: r => by
    show (true && tupOnlyAll (eNs r)) = true
    rw [rowTupAll r]
    rfl
theorem rowTup (r : List Nat) : tupOnly (eRow r) = true := rowTupAll r

theorem cl_need_prices (G : Gs K mg) (D : Df K mg "need_prices" s_need_prices) (c_is_whole : Cl P w K mg base 1 "is_whole" (spR R_is_whole)) : Cl P w K mg base 2 "need_prices" (spR R_need_prices) := by
  refine cl_of (k := 1) D sc_need_prices (fun _ _ _ _ _ _ us hl => match us, hl with | [_], _ => rfl) ?_ fun f cdv A outer s H vs Q E hr hsp => ?_
  · exact spR_len (n := 1) R_need_prices_len
  · obtain ⟨ds, d, hR, hk, q⟩ := hsp
    refine ⟨_, (pss_cons (ps_if (PW.pt (pw_or (pt_not (pt_val (pe_isi (by rfl) G.f_isinstance (by rfl) G.f_tuple bt_tuple (pv 0)))) (pw_or1 (pt_cmpR (r := rNeD K) (op_neD hr.units) (pe_callB (r := rLenA K) call_len_seq (by rfl) G.f_len bt_len (pa_cons (pv 0) pa_nil)) pe_int (nomark _))))) (pss_one ps_never) pss_nil)
      (pss_cons (ps_if (PW.pt (pw_or (pt_not (pt_val (pe_u c_is_whole hr (by omega) (by rfl) (pa_cons (pe_ix (r := rIx K) ix_seq (pv 0) pe_int (fun _ _ => rfl)) (pa_cons pe_int (pa_cons (pe_g (by rfl) G.c_MOST_PRICE) pa_nil)))))) (pw_or1 (pt_not (pt_val (pe_u c_is_whole hr (by omega) (by rfl) (pa_cons (pe_ix (r := rIx K) ix_seq (pv 0) pe_int (fun _ _ => rfl)) (pa_cons pe_int (pa_cons (pe_g (by rfl) G.c_MOST_PRICE) pa_nil))))))))) (pss_one ps_never) pss_nil)
      (pss_one (ps_if (pt_not (pt_val (pe_u c_is_whole hr (by omega) (by rfl) (pa_cons (pe_ix (r := rIx K) ix_seq (pv 0) pe_int (fun _ _ => rfl)) (pa_cons pe_int (pa_cons (pe_g (by rfl) G.c_MOST_PRICE) pa_nil)))))) (pss_one ps_never) pss_nil)))), ?_⟩
    obtain ⟨p, ok, rfl, rfl⟩ := hR
    obtain ⟨v1, rfl, h1⟩ := dtAll1 hk
    refine q_no ?_ fun H1 e1 => q_no ?_ fun H2 e2 => s_if (p := false) ?_ (fun h => nomatch h) (fun _ H3 e3 => q .non H3 ((e1.trans e2).trans e3) .non)
    · exact et_is (et_or (et_not (et_test (evd_isi (b := true) (evd_var rfl h1) rfl))) fun _ => et_B (evd_ne (evd_lenT (evd_var rfl h1)) evd_cint)) rfl
    · have a1 := h1.mono e1
      refine et_is (et_or (et_not (et_test (evd_call (ead_cons (evd_ixT (j := 0) (evd_var rfl a1) rfl) (ead_cons evd_cint (ead_cons evd_cint ead_nil))) ⟨_, _, _, rfl, rfl⟩)))
        fun _ => et_not (et_test (evd_call (ead_cons (evd_ixT (j := 1) (evd_var rfl a1) rfl) (ead_cons evd_cint (ead_cons evd_cint ead_nil))) ⟨_, _, _, rfl, rfl⟩))) ?_
      rw [decide_eq_true (by omega : (1 : Int) ≤ (p.1 : Int)), decide_eq_true (by omega : (p.1 : Int) ≤ 100), decide_eq_true (by omega : (1 : Int) ≤ (p.2.1 : Int)), decide_eq_true (by omega : (p.2.1 : Int) ≤ 100)]
      rfl
    · have a1 := h1.mono (e1.trans e2)
      refine et_is (et_not (et_test (evd_call (ead_cons (evd_ixT (j := 2) (evd_var rfl a1) rfl) (ead_cons evd_cint (ead_cons evd_cint ead_nil))) ⟨_, _, _, rfl, rfl⟩))) ?_
      rw [decide_eq_true (by omega : (0 : Int) ≤ (p.2.2 : Int)), decide_eq_true (by omega : (p.2.2 : Int) ≤ 100)]
      rfl

theorem cl_values_of (G : Gs K mg) (D : Df K mg "values_of" s_values_of) : Cl P w K mg base 1 "values_of" (spR R_values_of) := by
  refine cl_of (k := 0) D sc_values_of (fun _ _ _ _ _ _ us hl => match us, hl with | [_], _ => rfl) ?_ fun f cdv A outer s H vs Q E hr hsp => ?_
  · exact spR_len (n := 1) R_values_of_len
  · obtain ⟨ds, d, hR, hk, q⟩ := hsp
    refine ⟨_, (pss_one (ps_ret (pe_op op_cat (pe_callTy (r := rListA K) call_list_of (by rfl) G.f_list bt_list (pa_cons (pe_ix (r := rIx K) ix_seq (pv 0) pe_int (fun _ _ => rfl)) pa_nil)) (pe_lc (own := [("link", 1)]) (g := (gName 1)) (tt := tYes) rfl sc_values_of.nd (pi_tup (pe_ix (r := rIx K) ix_seq (pv 0) pe_int (fun _ _ => rfl))) (blkOk_by (own := [("link", 1)]) (N := N_values_of) (sc := defScope s_values_of) (by decide +kernel)) (fun _ _ _ _ _ => (pg_name (i := 1) sc_values_of.nd rfl (by first | exact Or.inl rfl | exact Or.inr rfl))) (fun _ _ _ _ _ => pts_nil) (fun _ _ _ _ _ => (pe_ix (r := rIx K) ix_seq (pv 1) pe_int (fun _ _ => rfl))))))), ?_⟩
    obtain ⟨y, ok, rfl, rfl⟩ := hR
    obtain ⟨v1, rfl, h1⟩ := dtAll1 hk
    refine s_ret (d := .list (y.rows.map eRow)) ?_ (fun v H1 e dv => q v H1 e dv)
    unfold Qy.rows
    rw [List.map_append]
    refine evd_cat (evd_listT (evd_ixT (j := 0) (evd_var rfl h1) rfl)) ?_ (by have := ok.many; have := ok.few; simp only [List.length_map]; omega)
    rw [List.map_map]
    refine evd_lcy y.links eLink _ (evi_tup (evd_ixT (j := 1) (evd_var rfl h1) rfl)) (fun l hl x H2 e2 dx Q' q' => q' _ rfl ?_) (fun l _ => rowTup _) (by have := ok.few; omega)
    exact evd_ixT (j := 2) (evd_var rfl dx) rfl

theorem cl_unknown_in (G : Gs K mg) (D : Df K mg "unknown_in" s_unknown_in) (c_values_of : Cl P w K mg base 1 "values_of" (spR R_values_of)) : Cl P w K mg base 2 "unknown_in" (spR R_unknown_in) := by
  refine cl_of (k := 1) D sc_unknown_in (fun _ _ _ _ _ _ us hl => match us, hl with | [_], _ => rfl) ?_ fun f cdv A outer s H vs Q E hr hsp => ?_
  · exact spR_len (n := 1) R_unknown_in_len
  · obtain ⟨ds, d, hR, hk, q⟩ := hsp
    refine ⟨_, (pss_one (ps_ret (pe_lc (own := [("place", 1), ("values", 2)]) (g := (gTup K 2 (gCons (gName 1) (gCons (gName 2) gNil)))) rfl sc_unknown_in.nd (pi_enum (by rfl) G.f_enumerate (pa_cons (pe_u c_values_of hr (by omega) (by rfl) (pa_cons (pv 0) pa_nil)) pa_nil)) (blkOk_by (own := [("place", 1), ("values", 2)]) (N := N_unknown_in) (sc := defScope s_unknown_in) (by decide +kernel)) (fun _ _ _ _ _ => (pg_tup rfl (pgs_cons (pg_name (i := 1) sc_unknown_in.nd rfl (by first | exact Or.inl rfl | exact Or.inr rfl)) (pgs_cons (pg_name (i := 2) sc_unknown_in.nd rfl (by first | exact Or.inl rfl | exact Or.inr rfl)) pgs_nil)))) (fun _ _ _ _ _ => (pts_one (pt_cmpR op_gt (pe_callB (r := rLenA K) call_len_seq (by rfl) G.f_len bt_len (pa_cons (pv 2) pa_nil)) pe_int (nomark _)))) (fun _ _ _ _ _ => (pv 1))))), ?_⟩
    obtain ⟨y, ok, rfl, rfl⟩ := hR
    obtain ⟨v1, rfl, h1⟩ := dtAll1 hk
    refine s_ret (d := .list (((List.range y.rows.length).filter fun i => decide (1 < (y.rows.getD i []).length)).map fun i : Nat => .int (i : Int))) ?_ (fun v H1 e dv => q v H1 e dv)
    · have hi : EvI (iEnum K (tCons (tCall (spR R_values_of) [] E0 (tCons (tVar 0) tNil)) tNil)) (start N_unknown_in [v1]) H (enumD (y.rows.map eRow)) := evi_enumL (ead_cons (evd_call (ead_cons (evd_var rfl h1) ead_nil) ⟨y, ok, rfl, rfl⟩) ead_nil)
      unfold enumD at hi
      rw [List.length_map] at hi
      refine evd_lct (List.range y.rows.length) _ _ _ hi (fun i hi x H1 e1 dx Q' q' => ?_) (fun _ _ _ => rfl) (by rw [List.length_range]; unfold Qy.rows; rw [List.length_append, List.length_map]; have := ok.many; have := ok.few; omega)
      have il : i < y.rows.length := List.mem_range.mp hi
      have eg : (y.rows.map eRow).getD i .none = eRow (y.rows.getD i []) := by
        rw [List.getD_eq_getElem?_getD, List.getD_eq_getElem?_getD, List.getElem?_map, List.getElem?_eq_getElem il]
        rfl
      rw [eg] at dx
      refine g_tup2 dx fun a b da db => q' _ rfl (et_is (et_B (evd_gt (evd_lenT (evd_var rfl db)) evd_cint)) ?_) fun _ => evd_var rfl da
      unfold eNs
      rw [List.length_map]
      exact decide_eq_decide.mpr (by omega)

theorem cl_need_query (G : Gs K mg) (D : Df K mg "need_query" s_need_query) (c_are_values : Cl P w K mg base 2 "are_values" (spR R_are_values)) (c_need_links : Cl P w K mg base 4 "need_links" (spR R_need_links)) (c_need_prices : Cl P w K mg base 2 "need_prices" (spR R_need_prices)) (c_unknown_in : Cl P w K mg base 2 "unknown_in" (spR R_unknown_in)) : Cl P w K mg base 5 "need_query" (spR R_need_query) := by
  refine cl_of (k := 4) D sc_need_query (fun _ _ _ _ _ _ us hl => match us, hl with | [_], _ => rfl) ?_ fun f cdv A outer s H vs Q E hr hsp => ?_
  · exact spR_len (n := 1) R_need_query_len
  · obtain ⟨ds, d, hR, hk, q⟩ := hsp
    refine ⟨_, (pss_cons (ps_if (PW.pt (pw_or (pt_not (pt_val (pe_isi (by rfl) G.f_isinstance (by rfl) G.f_tuple bt_tuple (pv 0)))) (pw_or1 (pt_cmpR (r := rNeD K) (op_neD hr.units) (pe_callB (r := rLenA K) call_len_seq (by rfl) G.f_len bt_len (pa_cons (pv 0) pa_nil)) pe_int (nomark _))))) (pss_one ps_never) pss_nil)
      (pss_cons (ps_if (PW.pt (pw_or (pt_not (pt_val (pe_isi (by rfl) G.f_isinstance (by rfl) G.f_tuple bt_tuple (pe_ix (r := rIx K) ix_seq (pv 0) pe_int (fun _ _ => rfl))))) (pw_or1 (pt_not (pt_chain op_le op_le pe_int (pe_callB (r := rLenA K) call_len_seq (by rfl) G.f_len bt_len (pa_cons (pe_ix (r := rIx K) ix_seq (pv 0) pe_int (fun _ _ => rfl)) pa_nil)) (pe_g (by rfl) G.c_MOST_TABLES)))))) (pss_one ps_never) pss_nil)
      (pss_cons (ps_for PassesOwn.never rfl (pi_enumT (by rfl) G.f_enumerate (pa_cons (pe_ix (r := rIx K) ix_seq (pv 0) pe_int (fun _ _ => rfl)) pa_nil)) (pg_tup rfl (pgs_cons (pg_name (i := 1) sc_need_query.nd rfl (by first | exact Or.inl rfl | exact Or.inr rfl)) (pgs_cons (pg_name (i := 2) sc_need_query.nd rfl (by first | exact Or.inl rfl | exact Or.inr rfl)) pgs_nil))) (pss_one (ps_if (pt_not (pt_val (pe_u c_are_values hr (by omega) (by rfl) (pa_cons (pv 2) (pa_cons (pe_g (by rfl) G.c_MOST_ROWS) pa_nil))))) (pss_one ps_never) pss_nil)))
      (pss_cons (ps_expr (pe_u c_need_links hr (by omega) (by rfl) (pa_cons (pe_ix (r := rIx K) ix_seq (pv 0) pe_int (fun _ _ => rfl)) (pa_cons (pe_callB (r := rLenA K) call_len_seq (by rfl) G.f_len bt_len (pa_cons (pe_ix (r := rIx K) ix_seq (pv 0) pe_int (fun _ _ => rfl)) pa_nil)) pa_nil))))
      (pss_cons (ps_expr (pe_u c_need_prices hr (by omega) (by rfl) (pa_cons (pe_ix (r := rIx K) ix_seq (pv 0) pe_int (fun _ _ => rfl)) pa_nil)))
      (pss_cons (ps_if (pt_cmpR op_gt (pe_callB (r := rLenA K) call_len_seq (by rfl) G.f_len bt_len (pa_cons (pe_u c_unknown_in hr (by omega) (by rfl) (pa_cons (pv 0) pa_nil)) pa_nil)) (pe_g (by rfl) G.c_MOST_UNKNOWN) (nomark _)) (pss_one ps_never) pss_nil)
      (pss_one (ps_ret (pv 0))))))))), ?_⟩
    obtain ⟨y, ok, rfl, rfl⟩ := hR
    obtain ⟨v1, rfl, h1⟩ := dtAll1 hk
    have nl : (y.sizes.map eRow).length = y.sizes.length := List.length_map _
    refine q_no ?_ fun H1 e1 => q_no ?_ fun H2 e2 => ?_
    · exact et_is (et_or (et_not (et_test (evd_isi (b := true) (evd_var rfl h1) rfl))) fun _ => et_B (evd_ne (evd_lenT (evd_var rfl h1)) evd_cint)) rfl
    · have a1 := h1.mono e1
      refine et_is (et_or (et_not (et_test (evd_isi (b := true) (evd_ixT (j := 0) (evd_var rfl a1) rfl) rfl))) fun _ => et_not (et_B (evd_chain (f := fun i j => decide (i ≤ j)) (g := fun i j => decide (i ≤ j)) evd_cint (evd_lenT (evd_ixT (j := 0) (evd_var rfl a1) rfl)) evd_cint))) ?_
      rw [nl, decide_eq_true (by have := ok.many; omega : (1 : Int) ≤ (y.sizes.length : Int)), decide_eq_true (by have := ok.many; omega : (y.sizes.length : Int) ≤ 5)]
      rfl
    · have a1 := h1.mono (e1.trans e2)
      refine q_for (evi_enumT (ead_cons (evd_ixT (j := 0) (evd_var rfl a1) rfl) ead_nil)) (fun i σ' => ∃ o1 o2, σ' = [some v1, o1, o2]) ⟨_, _, rfl⟩ (fun i d x σ' H3 hd e3 hσ dx N hN => ?_) (fun σ' H3 e3 hσ => ?_)
      · obtain ⟨o1, o2, rfl⟩ := hσ
        have hi : i < y.sizes.length := by
          have := (List.getElem?_eq_some_iff.mp hd).1
          rw [enumD_length, nl] at this
          exact this
        have hl := List.getElem?_eq_getElem hi
        rw [enumD_get (by rw [List.getElem?_map, hl]; rfl)] at hd
        cases hd
        refine g_tup2 dx fun a b da db => ?_
        refine s_if (p := false) (et_is (et_not (et_test (evd_call (ead_cons (evd_var rfl db) (ead_cons (evd_cint (i := ((1000000000 : Nat) : Int))) ead_nil)) ⟨_, 1000000000, ok.rows _ (List.mem_of_getElem? hl), rfl, rfl⟩))) rfl) (fun h => nomatch h) (fun _ H4 e4 => hN _ _ ⟨_, _, rfl⟩ e4)
      · obtain ⟨o1, o2, rfl⟩ := hσ
        have a2 := a1.mono e3
        refine q_drop (evd_call (ead_cons (evd_ixT (j := 1) (evd_var rfl a2) rfl) (ead_cons (evd_lenT (evd_ixT (j := 0) (evd_var rfl a2) rfl)) ead_nil)) ⟨y.links, y.sizes.length, ok.few, ok.link, ok.up, by rw [nl], rfl⟩) fun H4 e4 => ?_
        refine q_drop (evd_call (ead_cons (evd_ixT (j := 2) (evd_var rfl (a2.mono e4)) rfl) ead_nil) ⟨y.prices, ok.pr, rfl, rfl⟩) fun H5 e5 => ?_
        have a5 := a2.mono (e4.trans e5)
        refine q_no ?_ fun H6 e6 => s_ret (evd_var rfl (a5.mono e6)) (fun v H7 e7 dv => q v H7 ((((((e1.trans e2).trans e3).trans e4).trans e5).trans e6).trans e7) dv)
        refine et_is (et_B (evd_gt (evd_lenL (evd_call (ead_cons (evd_var rfl a5) ead_nil) ⟨y, ok, rfl, rfl⟩)) evd_cint)) (decide_eq_false ?_)
        have h6 := ok.un
        rw [List.length_map, rows_filter y.rows fun r => decide (1 < r.length)]
        show ¬ (6 : Int) < _
        unfold Qy.rows
        omega

theorem cl_need_kind (G : Gs K mg) (D : Df K mg "need_kind" s_need_kind) : Cl P w K mg base 1 "need_kind" (spR R_need_kind) := by
  refine cl_of (k := 0) D sc_need_kind (fun _ _ _ _ _ _ us hl => match us, hl with | [_], _ => rfl) ?_ fun f cdv A outer s H vs Q E hr hsp => ?_
  · exact spR_len (n := 1) R_need_kind_len
  · obtain ⟨ds, d, hR, hk, q⟩ := hsp
    refine ⟨_, (pss_cons (ps_if (PW.pt (pw_or (pt_not (pt_val (pe_isi (by rfl) G.f_isinstance (by rfl) G.f_str bt_str (pv 0)))) (pw_or1 (pt_cmpR (r := rIn K true) op_notIn_seq (pv 0) (pe_tup (pa_cons (pe_g (by rfl) G.c_KIND_ANY) (pa_cons (pe_g (by rfl) G.c_KIND_LINKED) pa_nil))) (by rfl))))) (pss_one ps_never) pss_nil)
      (pss_one (ps_ret (pv 0)))), ?_⟩
    obtain ⟨k, rfl, rfl⟩ := hR
    obtain ⟨v1, rfl, h1⟩ := dtAll1 hk
    refine q_no ?_ fun H1 e1 => s_ret (evd_var rfl (h1.mono e1)) (fun v H7 e7 dv => q v H7 (e1.trans e7) dv)
    refine et_is (et_or (et_not (et_test (evd_isi (b := true) (evd_var rfl h1) rfl))) fun _ => et_B (evd_op (evd_var rfl h1) (evd_tup (ead_cons evd_cstr (ead_cons evd_cstr ead_nil)) (by decide)) (rd_inT (cb := false) (w := .str k.str) (ws := [.str "any", .str "linked"]) rfl rfl (by cases k <;> decide +kernel)))) rfl

theorem cl_are_joined (G : Gs K mg) (D : Df K mg "are_joined" s_are_joined) : Cl P w K mg base 1 "are_joined" (spR R_are_joined) := by
  refine cl_of (k := 0) D sc_are_joined (fun _ _ _ _ _ _ us hl => match us, hl with | [_, _, _], _ => rfl) ?_ fun f cdv A outer s H vs Q E hr hsp => ?_
  · exact spR_len (n := 3) R_are_joined_len
  · obtain ⟨ds, d, hR, hk, q⟩ := hsp
    refine ⟨_, (pss_cons (ps_for PassesOwn.never rfl (pi_tup (pe_ix (r := rIx K) ix_seq (pv 0) pe_int (fun _ _ => rfl))) (pg_tup rfl (pgs_cons (pg_name (i := 3) sc_are_joined.nd rfl (by first | exact Or.inl rfl | exact Or.inr rfl)) (pgs_cons (pg_name (i := 4) sc_are_joined.nd rfl (by first | exact Or.inl rfl | exact Or.inr rfl)) (pgs_cons (pg_name (i := 5) sc_are_joined.nd rfl (by first | exact Or.inl rfl | exact Or.inr rfl)) pgs_nil)))) (pss_one (ps_if (PW.pt (pw_or (PW.pt (pw_and (pt_cmpR (r := rIn K false) op_in_seq (pv 3) (pv 1) (by rfl)) (pw_and1 (pt_cmpR (r := rIn K false) op_in_seq (pv 4) (pv 2) (by rfl))))) (pw_or1 (PW.pt (pw_and (pt_cmpR (r := rIn K false) op_in_seq (pv 3) (pv 2) (by rfl)) (pw_and1 (pt_cmpR (r := rIn K false) op_in_seq (pv 4) (pv 1) (by rfl)))))))) (pss_one (ps_ret pe_bl)) pss_nil)))
      (pss_one (ps_ret pe_bl))), ?_⟩
    obtain ⟨y, L, M, rfl, rfl⟩ := hR
    obtain ⟨v1, v2, v3, rfl, h1, h2, h3⟩ := dtAll3 hk
    have ji : joined y L M = y.links.any fun l => (decide (l.1 ∈ L) && decide (l.2.1 ∈ M)) || (decide (l.1 ∈ M) && decide (l.2.1 ∈ L)) := rfl
    refine q_for (evi_tup (evd_ixT (j := 1) (evd_var rfl h1) rfl)) (fun i σ' => (∃ o1 o2 o3, σ' = [some v1, some v2, some v3, o1, o2, o3]) ∧ ∀ j l, j < i → y.links[j]? = some l → ((decide (l.1 ∈ L) && decide (l.2.1 ∈ M)) || (decide (l.1 ∈ M) && decide (l.2.1 ∈ L))) = false)
      ⟨⟨_, _, _, rfl⟩, fun j l hj => absurd hj (Nat.not_lt_zero _)⟩ (fun i d x σ' H3 hd e3 hσ dx N hN => ?_) (fun σ' H3 e3 hσ => ?_)
    · obtain ⟨⟨o1, o2, o3, rfl⟩, hj⟩ := hσ
      rw [List.getElem?_map] at hd
      obtain ⟨l, hl, rfl⟩ := Option.map_eq_some_iff.mp hd
      refine g_tup3 dx fun a b c da db dc => ?_
      have b2 := h2.mono e3
      have b3 := h3.mono e3
      refine s_if (et_or (et_and (et_B (evd_inT (evd_var rfl da) (evd_var rfl b2))) fun _ => et_B (evd_inT (evd_var rfl db) (evd_var rfl b3))) fun _ => et_and (et_B (evd_inT (evd_var rfl da) (evd_var rfl b3))) fun _ => et_B (evd_inT (evd_var rfl db) (evd_var rfl b2))) (fun hp H4 e4 => ?_) (fun hp H4 e4 => ?_)
      · refine s_ret (d := .bool true) evd_cbl fun v H5 e5 dv => q v H5 ((e3.trans e4).trans e5) ?_
        rw [ji, List.any_eq_true.mpr ⟨l, List.mem_of_getElem? hl, hp⟩]
        exact dv
      · refine hN _ _ ⟨⟨_, _, _, rfl⟩, fun j l' hji hl' => ?_⟩ e4
        rcases Nat.lt_succ_iff_lt_or_eq.mp hji with z | z
        · exact hj j l' z hl'
        · subst z
          rw [hl] at hl'
          cases hl'
          exact hp
    · obtain ⟨⟨o1, o2, o3, rfl⟩, hj⟩ := hσ
      refine s_ret (d := .bool false) evd_cbl fun v H5 e5 dv => q v H5 (e3.trans e5) ?_
      have e0 : joined y L M = false := by
        rw [ji, Bool.eq_false_iff]
        intro h
        obtain ⟨l, hm, hp⟩ := List.any_eq_true.mp h
        obtain ⟨j, hj'⟩ := List.mem_iff_getElem?.mp hm
        have := hj j l (by rw [List.length_map]; exact (List.getElem?_eq_some_iff.mp hj').1) hj'
        rw [this] at hp
        cases hp
      rw [e0]
      exact dv

end
end Pc
/-! local lists that change; recursion; shapes -/
namespace Pc
open PySem PySem.Spec PyProof.Rows L2
open Evl (Ex EvT)

/-- a def of which nothing is promised -/
theorem cl_false {P : Program} {w : World} {K : PySem.W.Frag} {mg : Str → Option Value} {base : Heap} {x : Str} {st : Stmt} {ps : List Str} (D : Df K mg x st)
    (hb : ∀ (kV doc pm : Value) (an : Option Addr) (cdv ct : Value) (us : List Value), us.length = ps.length → bindArgs (PySem.W.fnOf x x (defArgs st) (defBody st) (defScope st) .none kV doc pm an cdv ct) ⟨us, []⟩ = pure (ps.zip us))
    {R : List PyData → PyData → Prop} (hR : ∀ ds d, ¬ R ds d) (k : Nat) : Cl P w K mg base k x (spR R) := by
  obtain ⟨f, fd, F, m⟩ := D.ex
  exact ⟨f, fd, ps, ⟨fun vs H Q E ⟨ds, d, h, _⟩ => (hR ds d h).elim, fun A outer s H args us vs Q E _ _ _ _ ⟨ds, d, h, _⟩ => (hR ds d h).elim⟩, m, F.kp, F.bindsN hb⟩
/-! ### shapes -/
structure Sh (n : Nat) (d : PyData) : Prop where
  lay : d.canLay0 = true
  dep : d.depth ≤ n
theorem Sh.shaped {n : Nat} {d : PyData} (h : Sh n d) (hn : n ≤ 64) : SeqAt.shaped d = true := by
  unfold SeqAt.shaped
  rw [h.lay, Bool.true_and]
  exact decide_eq_true (Nat.le_trans h.dep hn)
theorem sh_all {n : Nat} : ∀ {ds : List PyData}, (∀ d ∈ ds, Sh n d) → PyData.canLayAll0 ds = true ∧ PyData.depthAll ds ≤ n
  | [], _ => ⟨rfl, Nat.zero_le _⟩
  | d :: ds, h => by
    obtain ⟨a, b⟩ := sh_all fun x hx => h x (List.mem_cons_of_mem _ hx)
    have c := h d (List.mem_cons_self ..)
    refine ⟨by rw [PyData.canLayAll0, c.lay, a]; rfl, ?_⟩
    rw [PyData.depthAll]
    have := c.dep
    omega
theorem Sh.list {n : Nat} {ds : List PyData} (h : ∀ d ∈ ds, Sh n d) : Sh (n + 1) (.list ds) := ⟨(sh_all h).1, Nat.succ_le_succ (sh_all h).2⟩
theorem Sh.tup {n : Nat} {ds : List PyData} (h : ∀ d ∈ ds, Sh n d) : Sh (n + 1) (.tuple ds) := ⟨(sh_all h).1, Nat.succ_le_succ (sh_all h).2⟩
theorem Sh.mono {m n : Nat} {d : PyData} (h : Sh m d) (e : m ≤ n) : Sh n d := ⟨h.lay, Nat.le_trans h.dep e⟩
theorem sh_int {n : Nat} (i : Int) : Sh n (.int i) := ⟨rfl, Nat.zero_le _⟩
theorem sh_eP {n : Nat} {p : Pl} (h : p.nn ≤ n) : Sh n (eP p) := ⟨eP_lay p, Nat.le_trans (eP_depth p) h⟩
theorem sh_eNs {n : Nat} (L : List Nat) : Sh (n + 1) (.tuple (eNs L)) := .tup fun d hd => by
  obtain ⟨x, _, rfl⟩ := List.mem_map.mp hd
  exact sh_int _
theorem eqv_nil (ds : List PyData) : PyData.eqv (.list ds) (.list []) = ds.isEmpty := by cases ds <;> rfl
/-! ### lists that change -/
section
variable {K : PySem.W.Frag} {σ : L2.St} {H H' : Hp} {te : TE} {t : TA} {tz : TS} {D : Ends} {d : PyData} {i : Nat} {l : Addr} {xs : List V}
theorem ty_lst (h : H l = some (.lst xs)) : tyV K "list" (.ref l) H := .inl ⟨rfl, xs, SqL.of h⟩
theorem q_app (hσ : σ[i]? = some (some (.ref l))) (hl : H l = some (.lst xs)) (he : EvD te σ H d) (hz : xs.length < 100000) (k : ∀ v H1, Ex H H1 → Dt H1 v d → tz D σ (upd H1 l (.lst (xs ++ [v])))) :
    tSeq (tDrop (tBM K "list" rAppend (tVar i) (tCons te tNil))) tz D σ H :=
  ⟨_, hσ, ty_lst hl, he H (Ex.refl _) _ fun v H1 e dv => ⟨l, xs, v, rfl, rfl, e _ _ hl, Evl.sz_lt hz, k v H1 e dv⟩⟩
theorem s_app (hσ : σ[i]? = some (some (.ref l))) (hl : H l = some (.lst xs)) (he : EvD te σ H d) (hz : xs.length < 100000) (k : ∀ v H1, Ex H H1 → Dt H1 v d → D.nx σ (upd H1 l (.lst (xs ++ [v])))) :
    tDrop (tBM K "list" rAppend (tVar i) (tCons te tNil)) D σ H :=
  ⟨_, hσ, ty_lst hl, he H (Ex.refl _) _ fun v H1 e dv => ⟨l, xs, v, rfl, rfl, e _ _ hl, Evl.sz_lt hz, k v H1 e dv⟩⟩
theorem s_ext {ds : List PyData} (hσ : σ[i]? = some (some (.ref l))) (hl : H l = some (.lst xs)) (he : EvD te σ H (.list ds)) (hz : xs.length + ds.length ≤ 100000) (k : ∀ vs H1, Ex H H1 → DtAll H1 vs ds → D.nx σ (upd H1 l (.lst (xs ++ vs)))) :
    tDrop (tBM K "list" rExtend (tVar i) (tCons te tNil)) D σ H :=
  ⟨_, hσ, ty_lst hl, he H (Ex.refl _) _ fun v H1 e dv => by
    obtain ⟨b, vs, rfl, hb, kv⟩ := dt_lst dv
    exact ⟨l, b, xs, vs, rfl, rfl, e _ _ hl, hb, sz5 (by rw [kv.length]; exact hz), k vs H1 e kv⟩⟩
/-- x = xs.pop(), by a target -/
theorem q_pop {g : TG} {y : V} {ys : List V} (hσ : σ[i]? = some (some (.ref l))) (hl : H l = some (.lst (ys ++ [y]))) (k : g y σ (upd H l (.lst ys)) fun σ' H' => tz D σ' H') :
    tSeq (tAsg (tBM0 K "list" rPop (tVar i)) g) tz D σ H :=
  ⟨_, hσ, ty_lst hl, l, ys ++ [y], y, rfl, rfl, hl, by simp, by rw [List.dropLast_concat]; exact k⟩
theorem tup_upd {p a : Addr} {ys zs : List V} {o : HO} (h : H a = some (.tup ys)) (hp : H p = some (.lst zs)) : upd H p o a = some (.tup ys) := by
  rw [upd_ne]
  · exact h
  · rintro rfl
    rw [h] at hp
    cases hp
theorem ext_upd {p : Addr} {zs : List V} {o : HO} (hp : H p = some (.lst zs)) : ExT H (upd H p o) := fun a ys h => tup_upd h hp
/-- xs, ys = [..], [..] -/
theorem q_par2L {j : Nat} {ta tb : TA} {ds es : List PyData} (ha : EvAD ta σ H ds) (hb : EvAD tb σ H es) (hz : ds.length ≤ 100000) (hy : es.length ≤ 100000)
    (k : ∀ p q xs ys H2, Ex H H2 → H p = none → H q = none → p ≠ q → H2 p = some (.lst xs) → H2 q = some (.lst ys) → DtAll H2 xs ds → DtAll H2 ys es → tz D ((σ.set i (some (.ref p))).set j (some (.ref q))) H2) :
    tSeq (tPar i j (tCons (tLst ta) (tCons (tLst tb) tNil))) tz D σ H :=
  ha H (Ex.refl _) _ fun xs H1 e1 dx => ⟨sz5 (by rw [dx.length]; exact hz), fun p hp => by
    have np : H p = none := by
      cases h : H p with
      | none => rfl
      | some o => rw [e1 _ _ h] at hp; cases hp
    refine hb _ (e1.trans (ex_new hp)) _ fun ys H2 e2 dy => ⟨sz5 (by rw [dy.length]; exact hy), fun r hr => ?_⟩
    have ep : H2 p = some (.lst xs) := e2 _ _ upd_same
    have e3 : Ex H H2 := (e1.trans (ex_new hp)).trans e2
    have nr : H r = none := by
      cases h : H r with
      | none => rfl
      | some o => rw [e3 _ _ h] at hr; cases hr
    refine ⟨.ref p, .ref r, rfl, k p r xs ys _ (e3.trans (ex_new hr)) np nr (ne_of_none ep hr) ?_ upd_same ((dx.mono (ex_new hp)).mono (e2.trans (ex_new hr))) (dy.mono (ex_new hr))⟩
    rw [upd_ne (ne_of_none ep hr)]
    exact ep⟩
/-- xs = [..] -/
theorem q_asgL {ta : TA} {ds : List PyData} (ha : EvAD ta σ H ds) (hz : ds.length ≤ 100000) (k : ∀ p xs H2, Ex H H2 → H p = none → H2 p = some (.lst xs) → DtAll H2 xs ds → tz D (σ.set i (some (.ref p))) H2) :
    tSeq (tAsg (tLst ta) (gName i)) tz D σ H :=
  ha H (Ex.refl _) _ fun xs H1 e1 dx => ⟨sz5 (by rw [dx.length]; exact hz), fun p hp => by
    have np : H p = none := by
      cases h : H p with
      | none => rfl
      | some o => rw [e1 _ _ h] at hp; cases hp
    exact k p xs _ (e1.trans (ex_new hp)) np upd_same (dx.mono (ex_new hp))⟩
end
end Pc
/-! plans -/
namespace Pc
open PySem PySem.Spec PyProof.Rows L2
open Evl (Ex EvT)
open StX (tStar pa_star)
section
variable {P : Program} {w : World} {K : PySem.W.Frag} {mg : Str → Option Value} {base : Heap}


def R_is_table : List PyData → PyData → Prop := fun ds r => ∃ p : Pl, ds = [eP p] ∧ r = .bool p.isT
theorem R_is_table_len : ∀ ds d, R_is_table ds d → ds.length = 1 := fun ds d ⟨_, e, _⟩ => by rw [e]; rfl
theorem evd_isiP {σ : L2.St} {H : Hp} {te : TE} {p : Pl} (h : EvD te σ H (eP p)) : EvD (tCB (rIsi K) (tCons te (tCons (tC (.ty "tuple")) tNil))) σ H (.bool (!p.isT)) := by
  cases p with
  | tab t => exact evd_isi h rfl
  | node hw l r => exact evd_isi h rfl
/-- tables in order -/
def sortN (L : List Nat) : List Nat := L.mergeSort fun a b => decide (a ≤ b)
theorem sortN_perm (L : List Nat) : (sortN L).Perm L := List.mergeSort_perm _ _
theorem sortN_up (L : List Nat) : (sortN L).Pairwise (· ≤ ·) := by
  have h := List.pairwise_mergeSort (le := fun a b : Nat => decide (a ≤ b)) (fun a b c h1 h2 => by simp only [decide_eq_true_eq] at *; omega) (fun a b => by simp only [Bool.or_eq_true, decide_eq_true_eq]; omega) L
  exact h.imp fun {a b} h => of_decide_eq_true h
theorem sortN_mem {L : List Nat} {x : Nat} : x ∈ sortN L ↔ x ∈ L := (sortN_perm L).mem_iff
theorem eNs_int (L : List Nat) : eNs L = (L.map fun n : Nat => (n : Int)).map PyData.int := by
  unfold eNs
  rw [List.map_map]
  rfl
theorem eNs_append (L M : List Nat) : eNs (L ++ M) = eNs L ++ eNs M := List.map_append
theorem eNs_length (L : List Nat) : (eNs L).length = L.length := List.length_map _
def R_tables_of (n : Nat) : List PyData → PyData → Prop := fun ds r => ∃ p : Pl, p.nn < n ∧ ds = [eP p] ∧ r = .tuple (eNs (sortN p.leaves))
theorem R_tables_of_len (n : Nat) : ∀ ds d, R_tables_of n ds d → ds.length = 1 := fun ds d ⟨_, _, e, _⟩ => by rw [e]; rfl
def R_nodes_of (n : Nat) : List PyData → PyData → Prop := fun ds r => ∃ p : Pl, p.nn < n ∧ ds = [eP p] ∧ r = eL p.nodes
theorem R_nodes_of_len (n : Nat) : ∀ ds d, R_nodes_of n ds d → ds.length = 1 := fun ds d ⟨_, _, e, _⟩ => by rw [e]; rfl
theorem joined_congr {q : Qy} {L L' M M' : List Nat} (h : ∀ x, x ∈ L ↔ x ∈ L') (k : ∀ x, x ∈ M ↔ x ∈ M') : joined q L M = joined q L' M' := by
  unfold joined
  congr 1
  funext l
  rw [decide_eq_decide.mpr (h l.1), decide_eq_decide.mpr (k l.2.1), decide_eq_decide.mpr (k l.1), decide_eq_decide.mpr (h l.2.1)]
/-- whether a node is crossed -/
def crossedN (q : Qy) : Pl → Bool
  | .tab _ => false
  | .node _ l r => !joined q l.leaves r.leaves
def crossed (q : Qy) (p : Pl) : List Pl := p.nodes.filter (crossedN q)
theorem crossed_nil (q : Qy) : ∀ p : Pl, (crossed q p = []) = (linked q p = true)
  | .tab _ => by simp [crossed, Pl.nodes, linked]
  | .node h l r => by
    have a := crossed_nil q l
    have b := crossed_nil q r
    unfold crossed at a b ⊢
    rw [Pl.nodes, List.filter_cons, linked, Bool.and_eq_true, Bool.and_eq_true, ← a, ← b, List.filter_append]
    cases hj : joined q l.leaves r.leaves with
    | true => simp [crossedN, hj]
    | false => simp [crossedN, hj]
def R_crossed_nodes : List PyData → PyData → Prop := fun ds r => ∃ (q : Qy) (p : Pl), p.nn < 9 ∧ ds = [eQ q, eP p] ∧ r = eL (crossed q p)
theorem R_crossed_nodes_len : ∀ ds d, R_crossed_nodes ds d → ds.length = 2 := fun ds d ⟨_, _, _, e, _⟩ => by rw [e]; rfl
theorem nodes_nn : ∀ {p x : Pl}, x ∈ p.nodes → x.nn ≤ p.nn ∧ x.isT = false
  | .tab _, _, h => by simp [Pl.nodes] at h
  | .node h l r, x, hx => by
    rw [Pl.nodes] at hx
    rcases List.mem_cons.mp hx with rfl | hx
    · exact ⟨Nat.le_refl _, rfl⟩
    · rcases List.mem_append.mp hx with hx | hx
      · have := nodes_nn hx
        exact ⟨by rw [Pl.nn]; omega, this.2⟩
      · have := nodes_nn hx
        exact ⟨by rw [Pl.nn]; omega, this.2⟩
theorem crossed_nn {q : Qy} {p x : Pl} (h : x ∈ crossed q p) : x.nn ≤ p.nn := (nodes_nn (List.mem_filter.mp h).1).1
theorem eL_tup {ps : List Pl} : ∀ d ∈ ps.map eP, tupOnly d = true := fun d hd => by
  obtain ⟨p, _, rfl⟩ := List.mem_map.mp hd
  exact eP_tup p

theorem cl_is_table (G : Gs K mg) (D : Df K mg "is_table" s_is_table) : Cl P w K mg base 1 "is_table" (spR R_is_table) := by
  refine cl_of (k := 0) D sc_is_table (fun _ _ _ _ _ _ us hl => match us, hl with | [_], _ => rfl) ?_ fun f cdv A outer s H vs Q E hr hsp => ?_
  · exact spR_len (n := 1) R_is_table_len
  · obtain ⟨ds, d, hR, hk, q⟩ := hsp
    refine ⟨_, (pss_one (ps_ret (pe_not (pe_isi (by rfl) G.f_isinstance (by rfl) G.f_tuple bt_tuple (pv 0))))), ?_⟩
    obtain ⟨p, rfl, rfl⟩ := hR
    obtain ⟨v1, rfl, h1⟩ := dtAll1 hk
    refine s_ret (evd_is (evd_not (evd_isiP (evd_var rfl h1))) ?_) (fun v H1 e dv => q v H1 e dv)
    rw [Bool.not_not]



theorem cl_tables_of (G : Gs K mg) (D : Df K mg "tables_of" s_tables_of) (c_is_table : Cl P w K mg base 1 "is_table" (spR R_is_table)) : ∀ n, n ≤ 9 → Cl P w K mg base (n + 1) "tables_of" (spR (R_tables_of n))
  | 0, _ => cl_false (ps := P_tables_of) D (fun _ _ _ _ _ _ us hl => match us, hl with | [_], _ => rfl) (fun ds d ⟨p, h, _⟩ => absurd h (Nat.not_lt_zero _)) _
  | n + 1, hn => by
    have c_tables_of := cl_tables_of G D c_is_table n (by omega)
    refine cl_of (k := n + 1) D sc_tables_of (fun _ _ _ _ _ _ us hl => match us, hl with | [_], _ => rfl) (spR_len (R_tables_of_len _)) fun f cdv A outer s H vs Q E hr hsp => ?_
    obtain ⟨ds, d, hR, hk, q⟩ := hsp
    refine ⟨_, (pss_cons (ps_if (pt_val (pe_u c_is_table hr (by omega) (by rfl) (pa_cons (pv 0) pa_nil))) (pss_one (ps_ret (pe_tup (pa_cons (pv 0) pa_nil)))) pss_nil)
      (pss_one (ps_ret (pe_callTy (r := rTupA K) call_tuple_of (by rfl) G.f_tuple bt_tuple (pa_cons (pe_callB (r := rSortT K) cr_sortT (by rfl) G.f_sorted bt_sorted (pa_cons (pe_op (r := rCatA K) op_catA (pe_u c_tables_of hr (by omega) (by rfl) (pa_cons (pe_ix (r := rIx K) ix_seq (pv 0) pe_int (fun _ _ => rfl)) pa_nil)) (pe_u c_tables_of hr (by omega) (by rfl) (pa_cons (pe_ix (r := rIx K) ix_seq (pv 0) pe_int (fun _ _ => rfl)) pa_nil))) pa_nil)) pa_nil))))), ?_⟩
    obtain ⟨p, hp, rfl, rfl⟩ := hR
    obtain ⟨v1, rfl, h1⟩ := dtAll1 hk
    refine q_when (et_test (evd_call (ead_cons (evd_var rfl h1) ead_nil) ⟨p, rfl, rfl⟩)) (fun ht H1 e1 => ?_) fun ht H1 e1 => ?_
    · cases p with
      | node hw l r => cases ht
      | tab t =>
        refine s_ret (d := .tuple [.int (t : Int)]) (evd_tup (ead_cons (evd_var rfl (h1.mono e1)) ead_nil) (by simp)) fun v H2 e2 dv => q v H2 (e1.trans e2) ?_
        have e : sortN [t] = [t] := List.perm_singleton.mp (sortN_perm [t])
        show Dt H2 v (.tuple (eNs (sortN [t])))
        rw [e]
        exact dv
    · cases p with
      | tab t => cases ht
      | node hw l r =>
        have a1 := h1.mono e1
        have ll := l.leaves_len
        have lr := r.leaves_len
        rw [Pl.nn] at hp
        have sl := (sortN_perm l.leaves).length_eq
        have sr := (sortN_perm r.leaves).length_eq
        refine s_ret (d := .tuple (eNs (sortN (l.leaves ++ r.leaves)))) ?_ fun v H2 e2 dv => q v H2 (e1.trans e2) dv
        refine evd_tupL (evd_cb (ead_cons (evd_catT (evd_call (ead_cons (evd_ixT (j := 1) (evd_var rfl a1) rfl) ead_nil) ⟨l, by omega, rfl, rfl⟩) (evd_call (ead_cons (evd_ixT (j := 2) (evd_var rfl a1) rfl) ead_nil) ⟨r, by omega, rfl, rfl⟩) (by rw [eNs_length, eNs_length]; omega)) ead_nil) ?_)
        rw [← eNs_append, eNs_int, eNs_int]
        exact rcd_sortT (((sortN_perm _).trans ((sortN_perm _).append (sortN_perm _)).symm).map _) (List.pairwise_map.mpr ((sortN_up _).imp fun {a b} h => Int.ofNat_le.mpr h))

theorem cl_nodes_of (G : Gs K mg) (D : Df K mg "nodes_of" s_nodes_of) (c_is_table : Cl P w K mg base 1 "is_table" (spR R_is_table)) : ∀ n, n ≤ 9 → Cl P w K mg base (n + 1) "nodes_of" (spR (R_nodes_of n))
  | 0, _ => cl_false (ps := P_nodes_of) D (fun _ _ _ _ _ _ us hl => match us, hl with | [_], _ => rfl) (fun ds d ⟨p, h, _⟩ => absurd h (Nat.not_lt_zero _)) _
  | n + 1, hn => by
    have c_nodes_of := cl_nodes_of G D c_is_table n (by omega)
    refine cl_of (k := n + 1) D sc_nodes_of (fun _ _ _ _ _ _ us hl => match us, hl with | [_], _ => rfl) (spR_len (R_nodes_of_len _)) fun f cdv A outer s H vs Q E hr hsp => ?_
    obtain ⟨ds, d, hR, hk, q⟩ := hsp
    refine ⟨_, (pss_cons (ps_if (pt_val (pe_u c_is_table hr (by omega) (by rfl) (pa_cons (pv 0) pa_nil))) (pss_one (ps_ret (pe_lst pa_nil))) pss_nil)
      (pss_one (ps_ret (pe_op op_cat (pe_op op_cat (pe_lst (pa_cons (pv 0) pa_nil)) (pe_u c_nodes_of hr (by omega) (by rfl) (pa_cons (pe_ix (r := rIx K) ix_seq (pv 0) pe_int (fun _ _ => rfl)) pa_nil))) (pe_u c_nodes_of hr (by omega) (by rfl) (pa_cons (pe_ix (r := rIx K) ix_seq (pv 0) pe_int (fun _ _ => rfl)) pa_nil)))))), ?_⟩
    obtain ⟨p, hp, rfl, rfl⟩ := hR
    obtain ⟨v1, rfl, h1⟩ := dtAll1 hk
    refine q_when (et_test (evd_call (ead_cons (evd_var rfl h1) ead_nil) ⟨p, rfl, rfl⟩)) (fun ht H1 e1 => ?_) fun ht H1 e1 => ?_
    · cases p with
      | node hw l r => cases ht
      | tab t => exact s_ret (d := .list []) (evd_lst ead_nil (by decide)) fun v H2 e2 dv => q v H2 (e1.trans e2) dv
    · cases p with
      | tab t => cases ht
      | node hw l r =>
        have a1 := h1.mono e1
        rw [Pl.nn] at hp
        have ll := l.nodes_len
        have lr := r.nodes_len
        refine s_ret (d := .list (([eP (.node hw l r)] ++ l.nodes.map eP) ++ r.nodes.map eP)) ?_ fun v H2 e2 dv => q v H2 (e1.trans e2) ?_
        · exact evd_cat (evd_cat (evd_lst (ead_cons (evd_var rfl a1) ead_nil) (by simp)) (evd_call (ead_cons (evd_ixT (j := 1) (evd_var rfl a1) rfl) ead_nil) ⟨l, by omega, rfl, rfl⟩) (by simp only [List.length_map, List.length_cons, List.length_nil]; omega))
            (evd_call (ead_cons (evd_ixT (j := 2) (evd_var rfl a1) rfl) ead_nil) ⟨r, by omega, rfl, rfl⟩) (by simp only [List.length_append, List.length_map, List.length_cons, List.length_nil]; omega)
        · show Dt H2 v (.list ((Pl.node hw l r).nodes.map eP))
          rw [Pl.nodes, List.map_cons, List.map_append]
          simpa using dv

theorem cl_crossed_nodes (G : Gs K mg) (D : Df K mg "crossed_nodes" s_crossed_nodes) (c_nodes_of : Cl P w K mg base 10 "nodes_of" (spR (R_nodes_of 9))) (c_tables_of : Cl P w K mg base 10 "tables_of" (spR (R_tables_of 9))) (c_are_joined : Cl P w K mg base 1 "are_joined" (spR R_are_joined)) : Cl P w K mg base 11 "crossed_nodes" (spR R_crossed_nodes) := by
  refine cl_of (k := 10) D sc_crossed_nodes (fun _ _ _ _ _ _ us hl => match us, hl with | [_, _], _ => rfl) ?_ fun f cdv A outer s H vs Q E hr hsp => ?_
  · exact spR_len (n := 2) R_crossed_nodes_len
  · obtain ⟨ds, d, hR, hk, q⟩ := hsp
    refine ⟨_, (pss_one (ps_ret (pe_lc (own := [("node", 2)]) (g := (gName 2)) rfl sc_crossed_nodes.nd (pi_list (pe_u c_nodes_of hr (by omega) (by rfl) (pa_cons (pv 1) pa_nil))) (blkOk_by (own := [("node", 2)]) (N := N_crossed_nodes) (sc := defScope s_crossed_nodes) (by decide +kernel)) (fun _ _ _ _ _ => (pg_name (i := 2) sc_crossed_nodes.nd rfl (by first | exact Or.inl rfl | exact Or.inr rfl))) (fun _ _ _ _ _ => (pts_one (pt_not (pt_val (pe_u c_are_joined hr (by omega) (by rfl) (pa_cons (pv 0) (pa_cons (pe_u c_tables_of hr (by omega) (by rfl) (pa_cons (pe_ix (r := rIx K) ix_seq (pv 2) pe_int (fun _ _ => rfl)) pa_nil)) (pa_cons (pe_u c_tables_of hr (by omega) (by rfl) (pa_cons (pe_ix (r := rIx K) ix_seq (pv 2) pe_int (fun _ _ => rfl)) pa_nil)) pa_nil)))))))) (fun _ _ _ _ _ => (pv 2))))), ?_⟩
    obtain ⟨y, p, hp, rfl, rfl⟩ := hR
    obtain ⟨v1, v2, rfl, h1, h2⟩ := dtAll2 hk
    refine s_ret (d := eL (crossed y p)) ?_ (fun v H1 e dv => q v H1 e dv)
    unfold crossed eL
    refine evd_lct p.nodes eP _ _ (evi_list (evd_call (ead_cons (evd_var rfl h2) ead_nil) ⟨p, by omega, rfl, rfl⟩)) (fun x hx vx H1 e1 dx Q' q' => q' _ rfl ?_ fun _ => evd_var rfl dx) (fun x _ _ => eP_tup x) (by have := p.nodes_len; omega)
    have hn := nodes_nn hx
    cases x with
    | tab t => exact absurd hn.2 (by simp [Pl.isT])
    | node hw l r =>
      have hz := hn.1
      rw [Pl.nn] at hz
      refine et_is (et_not (et_test (evd_call (ead_cons (evd_var rfl (h1.mono e1)) (ead_cons (evd_call (ead_cons (evd_ixT (j := 1) (evd_var rfl dx) rfl) ead_nil) ⟨l, by omega, rfl, rfl⟩) (ead_cons (evd_call (ead_cons (evd_ixT (j := 2) (evd_var rfl dx) rfl) ead_nil) ⟨r, by omega, rfl, rfl⟩) ead_nil))) ⟨y, _, _, rfl, rfl⟩))) ?_
      show (!joined y (sortN l.leaves) (sortN r.leaves)) = !joined y l.leaves r.leaves
      rw [joined_congr (fun x => sortN_mem) (fun x => sortN_mem)]

end
end Pc
/-! plans: is_part, need_plan -/
namespace Pc
open PySem PySem.Spec PyProof.Rows L2
open Evl (Ex EvT)
open StX (tStar pa_star)
section
variable {P : Program} {w : World} {K : PySem.W.Frag} {mg : Str → Option Value} {base : Heap}


structure PartOk (n : Nat) (p : Pl) (used : List Nat) (deep : Nat) : Prop where
  tab : ∀ t, p = .tab t → t < n ∧ t ∉ used
  node : ∀ h l r, p = .node h l r → deep + 2 ≤ n ∧ (h = .probed → r.isT = true)
def R_is_part : List PyData → PyData → Prop := fun ds r => ∃ (q : Qy) (p : Pl) (used : List Nat) (deep : Nat), PartOk q.sizes.length p used deep ∧ ds = [eQ q, eP p, .list (eNs used), .int (deep : Int)] ∧ r = .bool true
theorem R_is_part_len : ∀ ds d, R_is_part ds d → ds.length = 4 := fun ds d ⟨_, _, _, _, _, e, _⟩ => by rw [e]; rfl
def R_need_plan : List PyData → PyData → Prop := fun ds r => ∃ (q : Qy) (p : Pl), Qok q ∧ Pok q.sizes.length p ∧ ds = [eQ q, eP p] ∧ r = eP p
theorem R_need_plan_len : ∀ ds d, R_need_plan ds d → ds.length = 2 := fun ds d ⟨_, _, _, _, e, _⟩ => by rw [e]; rfl
theorem eqv_how (a b : How) : PyData.eqv (.str a.str) (.str b.str) = decide (a = b) := by
  cases a <;> cases b <;> decide +kernel

theorem cl_is_part (G : Gs K mg) (D : Df K mg "is_part" s_is_part) (c_is_whole : Cl P w K mg base 1 "is_whole" (spR R_is_whole)) : Cl P w K mg base 2 "is_part" (spR R_is_part) := by
  refine cl_of (k := 1) D sc_is_part (fun _ _ _ _ _ _ us hl => match us, hl with | [_, _, _, _], _ => rfl) ?_ fun f cdv A outer s H vs Q E hr hsp => ?_
  · exact spR_len (n := 4) R_is_part_len
  · obtain ⟨ds, d, hR, hk, q⟩ := hsp
    obtain ⟨wa, hwa, hwa'⟩ := G.ways
    refine ⟨_, (pss_cons (ps_if (pt_val (pe_isi (by rfl) G.f_isinstance (by rfl) G.f_tuple bt_tuple (pv 1))) (pss_cons (ps_if (PW.pt (pw_or (pt_cmpR (r := rNeD K) (op_neD hr.units) (pe_callB (r := rLenA K) call_len_seq (by rfl) G.f_len bt_len (pa_cons (pv 1) pa_nil)) pe_int (nomark _)) (pw_or (pt_cmpR op_gt (pe_op op_add (pv 3) pe_int) (pe_callB (r := rLenA K) call_len_seq (by rfl) G.f_len bt_len (pa_cons (pe_ix (r := rIx K) ix_seq (pv 0) pe_int (fun _ _ => rfl)) pa_nil)) (nomark _)) (pw_or (pt_not (pt_val (pe_isi (by rfl) G.f_isinstance (by rfl) G.f_str bt_str (pe_ix (r := rIx K) ix_seq (pv 1) pe_int (fun _ _ => rfl))))) (pw_or1 (pt_cmpR (r := rIn K true) op_notIn_seq (pe_ix (r := rIx K) ix_seq (pv 1) pe_int (fun _ _ => rfl)) (pe_glob (v := .ref wa) (by rfl) hwa rfl) (by rfl))))))) (pss_one (ps_ret pe_bl)) pss_nil)
      (pss_one (ps_ret (pe_or (pe_cmpR (r := rNeD K) (op_neD hr.units) (pe_ix (r := rIx K) ix_seq (pv 1) pe_int (fun _ _ => rfl)) (pe_g (by rfl) G.c_PROBED) (nomark _)) (pe_one (pe_not (pe_isi (by rfl) G.f_isinstance (by rfl) G.f_tuple bt_tuple (pe_ix (r := rIx K) ix_seq (pv 1) pe_int (fun _ _ => rfl))))))))) pss_nil)
      (pss_one (ps_ret (pe_and (pe_u c_is_whole hr (by omega) (by rfl) (pa_cons (pv 1) (pa_cons pe_int (pa_cons (pe_op op_sub (pe_callB (r := rLenA K) call_len_seq (by rfl) G.f_len bt_len (pa_cons (pe_ix (r := rIx K) ix_seq (pv 0) pe_int (fun _ _ => rfl)) pa_nil)) pe_int) pa_nil)))) (pe_one (pe_cmpR (r := rIn K true) op_notIn_seq (pv 1) (pv 2) (by rfl))))))), ?_⟩
    obtain ⟨y, p, used, deep, ok, rfl, rfl⟩ := hR
    obtain ⟨v1, v2, v3, v4, rfl, h1, h2, h3, h4⟩ := dtAll4 hk
    have nl : (y.sizes.map eRow).length = y.sizes.length := List.length_map _
    cases p with
    | tab t =>
      obtain ⟨t1, t2⟩ := ok.tab t rfl
      refine q_no (et_is (et_test (evd_isiP (evd_var rfl h2))) rfl) (fun H1 e1 => ?_)
      refine s_ret (d := .bool true) ?_ (fun v H2 e2 dv => q v H2 (e1.trans e2) dv)
      have a1 := h1.mono e1
      have a2 := h2.mono e1
      have a3 := h3.mono e1
      refine evd_is (evd_and (p := true) (evd_is (evd_call (ead_cons (evd_var rfl a2) (ead_cons evd_cint (ead_cons (evd_sub (evd_lenT (evd_ixT (j := 0) (evd_var rfl a1) rfl)) evd_cint) ead_nil))) ⟨(t : Int), _, _, rfl, rfl⟩) ?_) fun _ => evd_ninL (evd_var rfl a2) (evd_var rfl a3)) ?_
      · rw [nl, decide_eq_true (by omega : (0 : Int) ≤ (t : Int)), decide_eq_true (by omega : (t : Int) ≤ (y.sizes.length : Int) - 1)]
        rfl
      · rw [decide_eq_false t2]
        rfl
    | node hw l r =>
      obtain ⟨n1, n2⟩ := ok.node hw l r rfl
      refine q_when (p := true) (et_is (et_test (evd_isiP (evd_var rfl h2))) rfl) (fun _ H1 e1 => ?_) (fun h => nomatch h)
      have a1 := h1.mono e1
      have a2 := h2.mono e1
      have a4 := h4.mono e1
      refine q_no ?_ fun H2 e2 => ?_
      · refine et_is (et_or (p := false) (et_is (et_B (evd_ne (evd_lenT (evd_var rfl a2)) evd_cint)) rfl) fun _ => et_or (p := false) (et_is (et_B (evd_gt (evd_add (evd_var rfl a4) evd_cint) (evd_lenT (evd_ixT (j := 0) (evd_var rfl a1) rfl)))) ?_) fun _ =>
          et_or (p := false) (et_is (et_not (et_test (evd_isi (b := true) (evd_ixT (j := 0) (evd_var rfl a2) rfl) rfl))) rfl) fun _ => et_B (evd_inK (t := tVar 0) (neg := true) (cb := false) (w := .str hw.str) (ws := [.str "hashed", .str "nested", .str "probed"]) (evd_ixT (j := 0) (evd_var rfl a2) rfl) hwa' rfl rfl (by cases hw <;> decide +kernel))) rfl
        rw [nl]
        exact decide_eq_false (by omega)
      · have b2 := a2.mono e2
        refine s_ret (d := .bool true) (evd_is (evd_or (evd_ne (evd_ixT (j := 0) (evd_var rfl b2) rfl) (evd_cstr (x := How.probed.str)) (by rw [show SeqAt.shaped (.str hw.str) = true by cases hw <;> decide +kernel]) (by decide +kernel)) fun _ => evd_not (evd_isiP (evd_ixT (j := 2) (evd_var rfl b2) rfl))) ?_) (fun v H3 e3 dv => q v H3 ((e1.trans e2).trans e3) dv)
        rw [eqv_how, Bool.not_not]
        by_cases hp : hw = .probed
        · rw [n2 hp, Bool.or_true]
        · rw [decide_eq_false hp]
          rfl


abbrev Stk := List (Pl × List Nat)
def eStk (z : Pl × List Nat) : PyData := .tuple [eP z.1, .tuple (eNs z.2)]
theorem eStk_tup (z : Pl × List Nat) : tupOnly (eStk z) = true := by
  show tupOnlyAll [eP z.1, .tuple (eNs z.2)] = true
  rw [tupOnlyAll, tupOnlyAll, eP_tup, show tupOnly (.tuple (eNs z.2)) = true from rowTup z.2]
  rfl
theorem eStks_tup (W : Stk) : tupOnlyAll (W.map eStk) = true := tupOnlyAll_of fun d hd => by
  obtain ⟨z, _, rfl⟩ := List.mem_map.mp hd
  exact eStk_tup z
def stkLeaves (W : Stk) : List Nat := W.flatMap fun z => z.1.leaves
def stkSize (W : Stk) : Nat := (W.map fun z => 2 * z.1.nn + 1).sum
structure StkOk (n : Nat) (W : Stk) (U : List Nat) : Prop where
  perm : (U ++ stkLeaves W).Perm (List.range n)
  deep : ∀ z ∈ W, z.2.length + z.1.nn + 1 ≤ n ∧ z.1.good = true
theorem StkOk.part {n : Nat} {W : Stk} {U : List Nat} {z : Pl × List Nat} (h : StkOk n (W ++ [z]) U) : PartOk n z.1 U z.2.length := by
  have hd := h.deep z (List.mem_append_right _ (List.mem_singleton.mpr rfl))
  refine ⟨fun t e => ?_, fun hw l r e => ?_⟩
  · have hm : t ∈ stkLeaves (W ++ [z]) := by
      unfold stkLeaves
      rw [List.flatMap_append]
      refine List.mem_append_right _ ?_
      simp [e, Pl.leaves]
    refine ⟨List.mem_range.mp (h.perm.mem_iff.mp (List.mem_append_right _ hm)), fun hu => ?_⟩
    have nd := h.perm.nodup_iff.mpr List.nodup_range
    exact (List.nodup_append.mp nd).2.2 t hu t hm rfl
  · have g := hd.2
    rw [e] at g
    rw [e, Pl.nn] at hd
    refine ⟨by omega, fun hp => ?_⟩
    rw [Pl.good, hp] at g
    cases hr : r.isT with
    | true => rfl
    | false => rw [hr] at g; simp at g
theorem StkOk.push {n : Nat} {W : Stk} {U : List Nat} {h : How} {l r : Pl} {path : List Nat} (k : StkOk n (W ++ [(.node h l r, path)]) U) : StkOk n (W ++ [(r, path ++ [2]), (l, path ++ [1])]) U := by
  have hd := k.deep _ (List.mem_append_right _ (List.mem_singleton.mpr rfl))
  obtain ⟨hd, g⟩ := hd
  have hd : path.length + (l.nn + r.nn + 1) + 1 ≤ n := hd
  rw [show (Pl.node h l r, path).1 = .node h l r from rfl, Pl.good, Bool.and_eq_true, Bool.and_eq_true] at g
  refine ⟨?_, fun z hz => ?_⟩
  · refine List.Perm.trans ?_ k.perm
    refine List.Perm.append_left _ ?_
    unfold stkLeaves
    rw [List.flatMap_append, List.flatMap_append]
    refine List.Perm.append_left _ ?_
    simp only [List.flatMap_cons, List.flatMap_nil, List.append_nil, Pl.leaves]
    exact List.perm_append_comm
  · rcases List.mem_append.mp hz with hz | hz
    · exact k.deep z (List.mem_append_left _ hz)
    · rcases List.mem_cons.mp hz with rfl | hz
      · refine ⟨?_, g.2.2⟩
        show (path ++ [2]).length + r.nn + 1 ≤ n
        rw [List.length_append]
        simp only [List.length_singleton]
        omega
      · rw [List.mem_singleton.mp hz]
        refine ⟨?_, g.2.1⟩
        show (path ++ [1]).length + l.nn + 1 ≤ n
        rw [List.length_append]
        simp only [List.length_singleton]
        omega
theorem StkOk.use {n : Nat} {W : Stk} {U : List Nat} {t : Nat} {path : List Nat} (k : StkOk n (W ++ [(.tab t, path)]) U) : StkOk n W (U ++ [t]) := by
  refine ⟨?_, fun z hz => k.deep z (List.mem_append_left _ hz)⟩
  refine List.Perm.trans ?_ k.perm
  unfold stkLeaves
  rw [List.flatMap_append, List.append_assoc]
  refine List.Perm.append_left _ ?_
  simp only [List.flatMap_cons, List.flatMap_nil, List.append_nil, Pl.leaves]
  exact List.perm_append_comm
theorem stkSize_push (W : Stk) (h : How) (l r : Pl) (path a b : List Nat) : stkSize (W ++ [(r, a), (l, b)]) < stkSize (W ++ [(.node h l r, path)]) := by
  unfold stkSize
  simp only [List.map_append, List.map_cons, List.map_nil, List.sum_append, List.sum_cons, List.sum_nil, Pl.nn]
  omega
theorem stkSize_pop (W : Stk) (z : Pl × List Nat) : stkSize W < stkSize (W ++ [z]) := by
  unfold stkSize
  simp only [List.map_append, List.map_cons, List.map_nil, List.sum_append, List.sum_cons, List.sum_nil]
  omega
theorem stk_len {n : Nat} {W : Stk} {U : List Nat} (k : StkOk n W U) : W.length ≤ n := by
  have e := k.perm.length_eq
  rw [List.length_append, List.length_range] at e
  have h : ∀ W : Stk, W.length ≤ (stkLeaves W).length := by
    intro W
    induction W with
    | nil => exact Nat.zero_le _
    | cons z W ih =>
      unfold stkLeaves at ih ⊢
      rw [List.flatMap_cons, List.length_append, List.length_cons, z.1.leaves_len]
      omega
  have := h W
  omega
theorem stk_used {n : Nat} {W : Stk} {U : List Nat} (k : StkOk n W U) : U.length ≤ n := by
  have e := k.perm.length_eq
  rw [List.length_append, List.length_range] at e
  omega


theorem dtAll_nats {H : Hp} : ∀ {U : List Nat}, DtAll H (U.map fun n : Nat => V.int (n : Int)) (eNs U)
  | [] => .nil
  | n :: U => .cons (.int (n : Int)) dtAll_nats
theorem dtAll_snoc {H : Hp} : ∀ {ds : List PyData} {vs : List V} {d : PyData}, DtAll H vs (ds ++ [d]) → ∃ vs' v, vs = vs' ++ [v] ∧ DtAll H vs' ds ∧ Dt H v d
  | [], _, _, h => by
    obtain ⟨x, rfl, hx⟩ := dtAll1 h
    exact ⟨[], x, rfl, .nil, hx⟩
  | e :: ds, _, _, h => by
    cases h with
    | cons h1 h2 =>
      obtain ⟨vs', v, rfl, a, b⟩ := dtAll_snoc h2
      exact ⟨_ :: vs', v, rfl, .cons h1 a, b⟩

theorem cl_need_plan (G : Gs K mg) (D : Df K mg "need_plan" s_need_plan) (c_need_query : Cl P w K mg base 5 "need_query" (spR R_need_query)) (c_is_part : Cl P w K mg base 2 "is_part" (spR R_is_part)) : Cl P w K mg base 6 "need_plan" (spR R_need_plan) := by
  refine cl_of (k := 5) D sc_need_plan (fun _ _ _ _ _ _ us hl => match us, hl with | [_, _], _ => rfl) ?_ fun f cdv A outer s H vs Q E hr hsp => ?_
  · exact spR_len (n := 2) R_need_plan_len
  · obtain ⟨ds, d, hR, hk, q⟩ := hsp
    refine ⟨_, (pss_cons (ps_expr (pe_u c_need_query hr (by omega) (by rfl) (pa_cons (pv 0) pa_nil)))
      (pss_cons (ps_par (i := 2) (j := 3) rfl sc_need_plan.nd rfl rfl (by decide) rfl rfl (pa_cons (pe_lst (pa_cons (pe_tup (pa_cons (pv 1) (pa_cons (pe_tup pa_nil) pa_nil))) pa_nil)) (pa_cons (pe_lst pa_nil) pa_nil)) (by rfl))
      (pss_cons (ps_while PassesOwn.never (pt_cmpR (r := rNeD K) (op_neD hr.units) (pv 2) (pe_lst pa_nil) (nomark _)) (pss_cons (ps_asg (pe_bm0 PySem.F.plainAttrs_list PySem.F.slot_list_pop PySem.F.type_list_pop mt_pop (pv 2)) (pg_tup rfl (pgs_cons (pg_name (i := 4) sc_need_plan.nd rfl (by first | exact Or.inl rfl | exact Or.inr rfl)) (pgs_cons (pg_name (i := 5) sc_need_plan.nd rfl (by first | exact Or.inl rfl | exact Or.inr rfl)) pgs_nil))))
      (pss_cons (ps_if (pt_not (pt_val (pe_u c_is_part hr (by omega) (by rfl) (pa_cons (pv 0) (pa_cons (pv 4) (pa_cons (pv 3) (pa_cons (pe_callB (r := rLenA K) call_len_seq (by rfl) G.f_len bt_len (pa_cons (pv 5) pa_nil)) pa_nil))))))) (pss_one ps_never) pss_nil)
      (pss_one (ps_if (pt_val (pe_isi (by rfl) G.f_isinstance (by rfl) G.f_tuple bt_tuple (pv 4))) (pss_one (ps_expr (pe_bm PySem.F.plainAttrs_list PySem.F.slot_list_extend PySem.F.type_list_extend mt_extend (pv 2) (pa_cons (pe_lst (pa_cons (pe_tup (pa_cons (pe_ix (r := rIx K) ix_seq (pv 4) pe_int (fun _ _ => rfl)) (pa_cons (pe_tup (pa_star (pv 5) (pa_cons pe_int pa_nil))) pa_nil))) (pa_cons (pe_tup (pa_cons (pe_ix (r := rIx K) ix_seq (pv 4) pe_int (fun _ _ => rfl)) (pa_cons (pe_tup (pa_star (pv 5) (pa_cons pe_int pa_nil))) pa_nil))) pa_nil))) pa_nil)))) (pss_one (ps_expr (pe_bm PySem.F.plainAttrs_list PySem.F.slot_list_append PySem.F.type_list_append mt_append (pv 3) (pa_cons (pv 4) pa_nil)))))))))
      (pss_cons (ps_if (pt_cmpR op_lt (pe_callB (r := rLenA K) call_len_seq (by rfl) G.f_len bt_len (pa_cons (pv 3) pa_nil)) (pe_callB (r := rLenA K) call_len_seq (by rfl) G.f_len bt_len (pa_cons (pe_ix (r := rIx K) ix_seq (pv 0) pe_int (fun _ _ => rfl)) pa_nil)) (nomark _)) (pss_one ps_never) pss_nil)
      (pss_one (ps_ret (pv 1))))))), ?_⟩
    obtain ⟨y, p, okq, okp, rfl, rfl⟩ := hR
    obtain ⟨v1, v2, rfl, h1, h2⟩ := dtAll2 hk
    have many := okq.many
    refine q_drop (evd_call (ead_cons (evd_var rfl h1) ead_nil) ⟨y, okq, rfl, rfl⟩) fun H1 e1 => ?_
    have a1 := h1.mono e1
    have a2 := h2.mono e1
    refine q_par2L (ead_cons (evd_tup (ead_cons (evd_var rfl a2) (ead_cons (evd_tup ead_nil (by simp)) ead_nil)) (by simp)) ead_nil) ead_nil (by simp) (by simp) fun a b xs ys H2 e2 na nb hab ha hb dx dy => ?_
    have hy0 : ys = [] := by cases dy; rfl
    subst hy0
    refine ⟨fun m σ' H' => ∃ W U o1 o2 ws, σ' = [some v1, some v2, some (.ref a), some (.ref b), o1, o2] ∧ m = stkSize W ∧ StkOk y.sizes.length W U ∧ Ex H1 H' ∧ H' a = some (.lst ws) ∧ DtAll H' ws (W.map eStk) ∧ H' b = some (.lst (U.map fun n : Nat => V.int (n : Int))),
      ⟨_, [(p, [])], [], _, _, xs, rfl, rfl, ⟨?_, ?_⟩, e2, ha, dx, hb⟩, ?_⟩
    · simpa [stkLeaves] using okp.perm
    · intro z hz
      rw [List.mem_singleton.mp hz]
      exact ⟨by have := okp.len; simp; omega, okp.good⟩
    · rintro m σ' H' ⟨W, U, o1, o2, ws, rfl, rfl, ok, eH, ha', dw, hb'⟩
      have wl := stk_len ok
      have ul := stk_used ok
      have sh : SeqAt.shaped (.list (W.map eStk)) = true := (Sh.list (n := 40) fun d hd => by
        obtain ⟨z, hz, rfl⟩ := List.mem_map.mp hd
        refine Sh.tup (n := 39) fun d hd => ?_
        rcases List.mem_cons.mp hd with rfl | hd
        · exact sh_eP (by have := (ok.deep z hz).1; omega)
        · rw [List.mem_singleton.mp hd]
          exact (sh_eNs z.2).mono (by omega : 0 + 1 ≤ 39)).shaped (by omega)
      refine et_test (evd_ne (evd_var rfl (.lst ha' dw)) (evd_lst ead_nil (by simp)) sh rfl) H' (Ex.refl _) _ fun H3 e3 => ?_
      rw [eqv_nil]
      have a3 : H3 a = some (.lst ws) := e3 _ _ ha'
      have b3 := e3 _ _ hb'
      have dw3 := dw.mono e3
      have e13 := eH.trans e3
      cases hW : (W.map eStk).isEmpty with
      | true =>
        have W0 : W = [] := by
          cases W with
          | nil => rfl
          | cons z W => simp at hW
        subst W0
        simp only [Bool.not_true, Bool.false_eq_true, if_false]
        refine q_no ?_ fun H4 e4 => s_ret (evd_var rfl (a2.mono (e13.trans e4))) fun v H5 e5 dv => q v H5 (((e1.trans e13).trans e4).trans e5) dv
        refine et_is (et_B (evd_lt (evd_lenL (evd_var rfl (.lst b3 dtAll_nats))) (evd_lenT (evd_ixT (j := 0) (evd_var rfl (a1.mono e13)) rfl)))) (decide_eq_false ?_)
        have e := ok.perm.length_eq
        have e0 : (stkLeaves []).length = 0 := rfl
        rw [List.length_append, List.length_range, e0] at e
        rw [eNs_length, List.length_map]
        omega
      | false =>
        obtain ⟨W', z, rfl⟩ : ∃ W' z, W = W' ++ [z] := by
          rcases List.eq_nil_or_concat W with h | ⟨W', z, h⟩
          · subst h
            simp at hW
          · exact ⟨W', z, by rw [h, List.concat_eq_append]⟩
        rw [List.map_append] at dw3
        obtain ⟨ws', vz, rfl, dw', dz'⟩ := dtAll_snoc dw3
        simp only [Bool.not_false, if_true]
        refine ⟨fun σ' H' => ∃ W U o1 o2 ws, σ' = [some v1, some v2, some (.ref a), some (.ref b), o1, o2] ∧ stkSize W < stkSize (W' ++ [z]) ∧ StkOk y.sizes.length W U ∧ Ex H1 H' ∧ H' a = some (.lst ws) ∧ DtAll H' ws (W.map eStk) ∧ H' b = some (.lst (U.map fun n : Nat => V.int (n : Int))),
          fun σ' H' ⟨W, U, o1, o2, ws, h1, h2, h3⟩ => ⟨_, h2, W, U, o1, o2, ws, h1, rfl, h3⟩, ?_⟩
        have part := ok.part
        have lp := (ok.deep z (List.mem_append_right _ (List.mem_singleton.mpr rfl))).1
        refine q_pop rfl a3 ?_
        have dz4 := dz'.monoT (ext_upd (o := .lst ws') a3) (eStk_tup z)
        have dw4 := dw'.monoT (ext_upd (o := .lst ws') a3) (eStks_tup W')
        have b4 : upd H3 a (.lst ws') b = some (.lst (U.map fun n : Nat => V.int (n : Int))) := by rw [upd_ne (Ne.symm hab)]; exact b3
        have e14 : Ex H1 (upd H3 a (.lst ws')) := Ex.mut e13 na
        have a4 : upd H3 a (.lst ws') a = some (.lst ws') := upd_same
        generalize upd H3 a (.lst ws') = H4 at dz4 dw4 b4 e14 a4 ⊢
        refine g_tup2 dz4 fun x1 x2 d1 d2 => ?_
        refine q_no (et_is (et_not (et_test (evd_call (ead_cons (evd_var rfl (a1.mono e14)) (ead_cons (evd_var rfl d1) (ead_cons (evd_var rfl (.lst b4 dtAll_nats)) (ead_cons (evd_lenT (evd_var rfl d2)) ead_nil)))) ⟨y, z.1, U, z.2.length, part, by rw [eNs_length], rfl⟩))) rfl) fun H5 e5 => ?_
        have a5 := e5 _ _ a4
        have b5 := e5 _ _ b4
        have dw5 := dw4.mono e5
        have d15 := d1.mono e5
        have d25 := d2.mono e5
        have e15 := e14.trans e5
        have lws := dw5.length
        rw [List.length_map] at lws
        rw [List.length_append, List.length_singleton] at wl
        obtain ⟨pz, path⟩ := z
        cases pz with
        | tab t =>
          refine s_if (p := false) (et_is (et_test (evd_isiP (p := .tab t) (evd_var rfl d15))) rfl) (fun h => nomatch h) (fun _ H6 e6 => ?_)
          refine s_app rfl (e6 _ _ b5) (evd_var rfl (d15.mono e6)) (by rw [List.length_map]; omega) fun v H7 e7 dv => ?_
          have a7 := e7 _ _ (e6 _ _ a5)
          have b7 := e7 _ _ (e6 _ _ b5)
          have dw7 := (dw5.mono (e6.trans e7)).monoT (ext_upd (o := .lst (U.map (fun n : Nat => V.int (n : Int)) ++ [v])) b7) (eStks_tup W')
          have hv : v = .int (t : Int) := dt_int dv
          subst hv
          refine ⟨W', U ++ [t], _, _, ws', rfl, stkSize_pop W' _, ok.use, Ex.mut (e15.trans (e6.trans e7)) nb, by rw [upd_ne hab]; exact a7, dw7, ?_⟩
          rw [upd_same, List.map_append]
          rfl
        | node hw l r =>
          refine s_if (p := true) (et_is (et_test (evd_isiP (p := .node hw l r) (evd_var rfl d15))) rfl) (fun _ H6 e6 => ?_) (fun h => nomatch h)
          have d16 := d15.mono e6
          have d26 := d25.mono e6
          refine s_ext (ds := [eStk (r, path ++ [2]), eStk (l, path ++ [1])]) rfl (e6 _ _ a5) ?_ (by simp only [List.length_cons, List.length_nil]; omega) fun vs H7 e7 dvs => ?_
          · refine evd_lst (ead_cons (evd_tup (ead_cons (evd_ixT (j := 2) (evd_var rfl d16) rfl) (ead_cons (evd_is (evd_tup (ead_starT (evd_var rfl d26) (ead_cons (evd_cint (i := ((2 : Nat) : Int))) ead_nil)) ?_) ?_) ead_nil)) (by simp)) (ead_cons (evd_tup (ead_cons (evd_ixT (j := 1) (evd_var rfl d16) rfl) (ead_cons (evd_is (evd_tup (ead_starT (evd_var rfl d26) (ead_cons (evd_cint (i := ((1 : Nat) : Int))) ead_nil)) ?_) ?_) ead_nil)) (by simp)) ead_nil)) (by simp)
            · rw [List.length_append, eNs_length, List.length_singleton]
              have lp' : path.length + (Pl.node hw l r).nn + 1 ≤ y.sizes.length := lp
              omega
            · rw [eNs_append]; rfl
            · rw [List.length_append, eNs_length, List.length_singleton]
              have lp' : path.length + (Pl.node hw l r).nn + 1 ≤ y.sizes.length := lp
              omega
            · rw [eNs_append]; rfl
          · have a7 := e7 _ _ (e6 _ _ a5)
            have b7 := e7 _ _ (e6 _ _ b5)
            have dws := ((dw5.mono (e6.trans e7)).append dvs).monoT (ext_upd (o := .lst (ws' ++ vs)) a7) (tupOnlyAll_append (eStks_tup W') (eStks_tup [(r, path ++ [2]), (l, path ++ [1])]))
            refine ⟨W' ++ [(r, path ++ [2]), (l, path ++ [1])], U, _, _, ws' ++ vs, rfl, stkSize_push W' hw l r path _ _, ok.push, Ex.mut (e15.trans (e6.trans e7)) na, upd_same, ?_, by rw [upd_ne (Ne.symm hab)]; exact b7⟩
            rw [List.map_append]
            exact dws

end
end Pc
/-! steps: the changes -/
namespace Pc
open PySem PySem.Spec PyProof.Rows L2
open Evl (Ex EvT)
open StX (tStar pa_star)
section
variable {P : Program} {w : World} {K : PySem.W.Frag} {mg : Str → Option Value} {base : Heap}


theorem evi_tupK {σ : L2.St} {H : Hp} {wa : Addr} {ws : List V} {ds : List PyData} (hK : ∀ H, SqT K H wa ws) (hd : ∀ H, DtAll H ws ds) : EvI (iTup K (tC (.ref wa))) σ H ds := fun H1 e R k => by
  refine ⟨wa, rfl, ⟨ws, hK H1⟩, k _ H1 (Ex.refl _) ?_⟩
  rw [← (hd H1).length]
  refine walk_tup.mono (fun H' e' => hK H') fun i H3 x H4 hi e' y => ?_
  obtain ⟨d, hd', dd⟩ := (hd H3).get y.2
  rw [y.1]
  exact ⟨Ex.refl _, d, hd', dd⟩
def hows : List How := [.hashed, .nested, .probed]
theorem dt_hows (H : Hp) : DtAll H [.str "hashed", .str "nested", .str "probed"] (hows.map fun h => PyData.str h.str) := .cons (.str _) (.cons (.str _) (.one (.str _)))
theorem sh_how (h : How) : SeqAt.shaped (.str h.str) = true := by cases h <;> decide +kernel
def nodeOf (f : How → Pl → Pl → PyData) : List PyData → PyData → Prop := fun ds d => ∃ h l r, ds = [eP (.node h l r)] ∧ d = f h l r
theorem nodeOf_len {f : How → Pl → Pl → PyData} : ∀ ds d, nodeOf f ds d → ds.length = 1 := fun ds d ⟨_, _, _, e, _⟩ => by rw [e]; rfl
abbrev R_ways_at := nodeOf fun h l r => eL (Pl.ways (.node h l r))
theorem R_ways_at_len : ∀ ds d, R_ways_at ds d → ds.length = 1 := nodeOf_len (f := fun h l r => eL (Pl.ways (.node h l r)))
abbrev R_turned_at := nodeOf fun h l r => eL (Pl.turned (.node h l r))
theorem R_turned_at_len : ∀ ds d, R_turned_at ds d → ds.length = 1 := nodeOf_len (f := fun h l r => eL (Pl.turned (.node h l r)))
def R_leaned_at : List PyData → PyData → Prop := fun ds d => ∃ h l r, (Pl.node h l r).nn < 9 ∧ ds = [eP (.node h l r)] ∧ d = eL (Pl.leaned (.node h l r))
theorem R_leaned_at_len : ∀ ds d, R_leaned_at ds d → ds.length = 1 := fun ds d ⟨_, _, _, _, e, _⟩ => by rw [e]; rfl
def R_changed_at : List PyData → PyData → Prop := fun ds d => ∃ h l r, (Pl.node h l r).nn < 9 ∧ ds = [eP (.node h l r)] ∧ d = eL (Pl.changedAt (.node h l r))
theorem R_changed_at_len : ∀ ds d, R_changed_at ds d → ds.length = 1 := fun ds d ⟨_, _, _, _, e, _⟩ => by rw [e]; rfl
def recOf (n : Nat) (f : Pl → PyData) : List PyData → PyData → Prop := fun ds d => ∃ p : Pl, p.nn < n ∧ ds = [eP p] ∧ d = f p
theorem recOf_len {n : Nat} {f : Pl → PyData} : ∀ ds d, recOf n f ds d → ds.length = 1 := fun ds d ⟨_, _, e, _⟩ => by rw [e]; rfl
abbrev R_is_good (n : Nat) := recOf n fun p => .bool p.good
abbrev R_changed_in (n : Nat) := recOf n fun p => eL p.changed
abbrev R_order_of (n : Nat) := recOf n eSpell
theorem ways_len (p : Pl) : p.ways.length ≤ 3 := by
  cases p with
  | tab t => exact Nat.zero_le _
  | node h l r =>
    rw [Pl.ways, List.length_map]
    exact List.length_filter_le _ _
theorem turned_len (p : Pl) : p.turned.length ≤ 1 := by
  cases p with
  | tab t => exact Nat.zero_le _
  | node h l r =>
    rw [Pl.turned]
    split
    · exact Nat.le_refl _
    · exact Nat.zero_le _
theorem leanL_len (p : Pl) : p.leanL.length ≤ 1 := by
  cases p with
  | tab t => exact Nat.zero_le _
  | node h l r => cases l <;> first | exact Nat.zero_le _ | exact Nat.le_refl _
theorem leanR_len (p : Pl) : p.leanR.length ≤ 1 := by
  cases p with
  | tab t => exact Nat.zero_le _
  | node h l r => cases r <;> first | exact Nat.zero_le _ | exact Nat.le_refl _
theorem leaned_len (p : Pl) : p.leaned.length ≤ 2 := by
  have a := leanL_len p
  have b := leanR_len p
  have c := List.length_filter_le Pl.good (p.leanL ++ p.leanR)
  rw [List.length_append] at c
  unfold Pl.leaned
  omega
theorem changedAt_len (p : Pl) : p.changedAt.length ≤ 6 := by
  have a := ways_len p
  have b := turned_len p
  have c := leaned_len p
  unfold Pl.changedAt
  rw [List.length_append, List.length_append]
  omega
theorem changed_len : ∀ p : Pl, p.changed.length ≤ 6 * p.nn
  | .tab _ => Nat.zero_le _
  | .node h l r => by
    have a := changed_len l
    have b := changed_len r
    have c := changedAt_len (.node h l r)
    rw [Pl.changed, Pl.nn, List.length_append, List.length_append, List.length_map, List.length_map]
    omega

theorem cl_ways_at (G : Gs K mg) (D : Df K mg "ways_at" s_ways_at) (c_is_table : Cl P w K mg base 1 "is_table" (spR R_is_table)) : Cl P w K mg base 2 "ways_at" (spR R_ways_at) := by
  refine cl_of (k := 1) D sc_ways_at (fun _ _ _ _ _ _ us hl => match us, hl with | [_], _ => rfl) ?_ fun f cdv A outer s H vs Q E hr hsp => ?_
  · exact spR_len (n := 1) R_ways_at_len
  · obtain ⟨ds, d, hR, hk, q⟩ := hsp
    obtain ⟨wa, hwa, hwa'⟩ := G.ways
    refine ⟨_, (pss_cons (ps_setLc (i := 1) (own := [("how", 2)]) (g := (gName 2)) rfl sc_ways_at.nd rfl rfl (sw_true rfl rfl rfl (by decide +kernel)) (pi_tup (pe_glob (v := .ref wa) (by rfl) hwa rfl)) (blkOk_by (own := [("how", 2)]) (N := N_ways_at) (sc := defScope s_ways_at) (by decide +kernel)) (fun _ _ _ _ _ => (pg_name (i := 2) sc_ways_at.nd rfl (by first | exact Or.inl rfl | exact Or.inr rfl))) (fun _ _ _ _ _ => (pts_one (PW.pt (pw_and (pt_cmpR (r := rNeD K) (op_neD hr.units) (pv 2) (pe_ix (r := rIx K) ix_seq (pv 0) pe_int (fun _ _ => rfl)) (nomark _)) (pw_and1 (PW.pt (pw_or (pt_cmpR (r := rNeD K) (op_neD hr.units) (pv 2) (pe_g (by rfl) G.c_PROBED) (nomark _)) (pw_or1 (pt_val (pe_u c_is_table hr (by omega) (by rfl) (pa_cons (pe_ix (r := rIx K) ix_seq (pv 0) pe_int (fun _ _ => rfl)) pa_nil))))))))))) (fun _ _ _ _ _ => (pv 2)))
      (pss_one (ps_ret (pe_lc (own := [("how", 2)]) (g := (gName 2)) (tt := tYes) rfl sc_ways_at.nd (pi_list (pv 1)) (blkOk_by (own := [("how", 2)]) (N := N_ways_at) (sc := defScope s_ways_at) (by decide +kernel)) (fun _ _ _ _ _ => (pg_name (i := 2) sc_ways_at.nd rfl (by first | exact Or.inl rfl | exact Or.inr rfl))) (fun _ _ _ _ _ => pts_nil) (fun _ _ _ _ _ => (pe_tup (pa_cons (pv 2) (pa_cons (pe_ix (r := rIx K) ix_seq (pv 0) pe_int (fun _ _ => rfl)) (pa_cons (pe_ix (r := rIx K) ix_seq (pv 0) pe_int (fun _ _ => rfl)) pa_nil))))))))), ?_⟩
    obtain ⟨hw, l, r, rfl, rfl⟩ := hR
    obtain ⟨v1, rfl, h1⟩ := dtAll1 hk
    refine q_asg (d := .list ((hows.filter fun x => decide (x ≠ hw) && (decide (x ≠ .probed) || r.isT)).map fun h => .str h.str)) ?_ fun x H1 e1 dx => ?_
    · refine evd_lct hows (fun h => .str h.str) _ _ (evi_tupK hwa' dt_hows) (fun h hh y H2 e2 dy Q' q' => q' _ rfl (et_is (et_and (et_B (evd_ne (evd_var rfl dy) (evd_ixT (j := 0) (evd_var rfl (h1.mono e2)) rfl) (sh_how h) (sh_how hw))) fun _ => et_or (et_B (evd_ne (evd_var rfl dy) (evd_cstr (x := How.probed.str)) (sh_how h) (sh_how .probed))) fun _ => et_test (evd_call (ead_cons (evd_ixT (j := 2) (evd_var rfl (h1.mono e2)) rfl) ead_nil) ⟨r, rfl, rfl⟩)) ?_) fun _ => evd_var rfl dy) (fun _ _ _ => rfl) (by decide)
      rw [eqv_how, eqv_how, decide_not, decide_not]
    · refine s_ret (d := eL (Pl.ways (.node hw l r))) ?_ (fun v H2 e2 dv => q v H2 (e1.trans e2) dv)
      unfold eL
      rw [Pl.ways, List.map_map]
      have hw0 : (hows.filter fun x => decide (x ≠ hw) && (decide (x ≠ .probed) || r.isT)).length ≤ 3 := List.length_filter_le _ _
      refine evd_lcy (hows.filter fun x => decide (x ≠ hw) && (decide (x ≠ .probed) || r.isT)) (fun h => .str h.str) _ (evi_list (evd_var rfl dx)) (fun h hh y H2 e2 dy Q' q' => q' _ rfl ?_) (fun h _ => eP_tup (.node h l r)) (by omega)
      exact evd_tup (ead_cons (evd_var rfl dy) (ead_cons (evd_ixT (j := 1) (evd_var rfl (h1.mono (e1.trans e2))) rfl) (ead_cons (evd_ixT (j := 2) (evd_var rfl (h1.mono (e1.trans e2))) rfl) ead_nil))) (by simp)

theorem cl_turned_at (G : Gs K mg) (D : Df K mg "turned_at" s_turned_at) (c_is_table : Cl P w K mg base 1 "is_table" (spR R_is_table)) : Cl P w K mg base 2 "turned_at" (spR R_turned_at) := by
  refine cl_of (k := 1) D sc_turned_at (fun _ _ _ _ _ _ us hl => match us, hl with | [_], _ => rfl) ?_ fun f cdv A outer s H vs Q E hr hsp => ?_
  · exact spR_len (n := 1) R_turned_at_len
  · obtain ⟨ds, d, hR, hk, q⟩ := hsp
    refine ⟨_, (pss_cons (ps_asg (pv 0) (pg_tup rfl (pgs_cons (pg_name (i := 1) sc_turned_at.nd rfl (by first | exact Or.inl rfl | exact Or.inr rfl)) (pgs_cons (pg_name (i := 2) sc_turned_at.nd rfl (by first | exact Or.inl rfl | exact Or.inr rfl)) (pgs_cons (pg_name (i := 3) sc_turned_at.nd rfl (by first | exact Or.inl rfl | exact Or.inr rfl)) pgs_nil)))))
      (pss_one (ps_ret (pe_ifExp (PW.pt (pw_or (pt_cmpR (r := rNeD K) (op_neD hr.units) (pv 1) (pe_g (by rfl) G.c_PROBED) (nomark _)) (pw_or1 (pt_val (pe_u c_is_table hr (by omega) (by rfl) (pa_cons (pv 2) pa_nil)))))) (pe_lst (pa_cons (pe_tup (pa_cons (pv 1) (pa_cons (pv 3) (pa_cons (pv 2) pa_nil)))) pa_nil)) (pe_lst pa_nil))))), ?_⟩
    obtain ⟨hw, l, r, rfl, rfl⟩ := hR
    obtain ⟨v1, rfl, h1⟩ := dtAll1 hk
    refine q_unp3 (evd_var rfl h1) fun x y z H1 e1 d1 d2 d3 => ?_
    refine s_ret (d := eL (Pl.turned (.node hw l r))) ?_ (fun v H2 e2 dv => q v H2 (e1.trans e2) dv)
    refine evd_if (et_or (et_B (evd_ne (evd_var rfl d1) (evd_cstr (x := How.probed.str)) (sh_how hw) (sh_how .probed))) fun _ => et_test (evd_call (ead_cons (evd_var rfl d2) ead_nil) ⟨l, rfl, rfl⟩)) (fun hp => ?_) (fun hp => ?_)
    · rw [eqv_how] at hp
      rw [Pl.turned, if_pos (by rw [decide_not]; exact hp)]
      exact evd_lst (ead_cons (evd_tup (ead_cons (evd_var rfl d1) (ead_cons (evd_var rfl d3) (ead_cons (evd_var rfl d2) ead_nil))) (by simp)) ead_nil) (by simp)
    · rw [eqv_how] at hp
      rw [Pl.turned, if_neg (by rw [decide_not]; rw [hp]; exact Bool.false_ne_true)]
      exact evd_lst ead_nil (by simp)


theorem cl_is_good (G : Gs K mg) (D : Df K mg "is_good" s_is_good) (c_is_table : Cl P w K mg base 1 "is_table" (spR R_is_table)) : ∀ n, n ≤ 9 → Cl P w K mg base (n + 1) "is_good" (spR (R_is_good n))
  | 0, _ => cl_false (ps := P_is_good) D (fun _ _ _ _ _ _ us hl => match us, hl with | [_], _ => rfl) (fun ds d ⟨p, h, _⟩ => absurd h (Nat.not_lt_zero _)) _
  | n + 1, hn => by
    have c_is_good := cl_is_good G D c_is_table n (by omega)
    refine cl_of (k := n + 1) D sc_is_good (fun _ _ _ _ _ _ us hl => match us, hl with | [_], _ => rfl) (spR_len recOf_len) fun f cdv A outer s H vs Q E hr hsp => ?_
    obtain ⟨ds, d, hR, hk, q⟩ := hsp
    refine ⟨_, (pss_cons (ps_if (pt_val (pe_u c_is_table hr (by omega) (by rfl) (pa_cons (pv 0) pa_nil))) (pss_one (ps_ret pe_bl)) pss_nil)
      (pss_cons (ps_if (PW.pt (pw_and (pt_cmpR (r := rEqD K) (op_eqD hr.units) (pe_ix (r := rIx K) ix_seq (pv 0) pe_int (fun _ _ => rfl)) (pe_g (by rfl) G.c_PROBED) (nomark _)) (pw_and1 (pt_not (pt_val (pe_u c_is_table hr (by omega) (by rfl) (pa_cons (pe_ix (r := rIx K) ix_seq (pv 0) pe_int (fun _ _ => rfl)) pa_nil))))))) (pss_one (ps_ret pe_bl)) pss_nil)
      (pss_one (ps_ret (pe_and (pe_u c_is_good hr (by omega) (by rfl) (pa_cons (pe_ix (r := rIx K) ix_seq (pv 0) pe_int (fun _ _ => rfl)) pa_nil)) (pe_one (pe_u c_is_good hr (by omega) (by rfl) (pa_cons (pe_ix (r := rIx K) ix_seq (pv 0) pe_int (fun _ _ => rfl)) pa_nil)))))))), ?_⟩
    obtain ⟨p, hp, rfl, rfl⟩ := hR
    obtain ⟨v1, rfl, h1⟩ := dtAll1 hk
    refine q_when (et_test (evd_call (ead_cons (evd_var rfl h1) ead_nil) ⟨p, rfl, rfl⟩)) (fun ht H1 e1 => ?_) fun ht H1 e1 => ?_
    · cases p with
      | node hw l r => cases ht
      | tab t => exact s_ret (d := .bool true) evd_cbl fun v H2 e2 dv => q v H2 (e1.trans e2) dv
    · cases p with
      | tab t => cases ht
      | node hw l r =>
        have a1 := h1.mono e1
        rw [Pl.nn] at hp
        refine q_when (et_and (et_B (evd_eq (evd_ixT (j := 0) (evd_var rfl a1) rfl) (evd_cstr (x := How.probed.str)) (sh_how hw) (sh_how .probed))) fun _ => et_not (et_test (evd_call (ead_cons (evd_ixT (j := 2) (evd_var rfl a1) rfl) ead_nil) ⟨r, rfl, rfl⟩))) (fun hc H2 e2 => ?_) fun hc H2 e2 => ?_
        · rw [eqv_how] at hc
          refine s_ret (d := .bool false) evd_cbl fun v H3 e3 dv => q v H3 ((e1.trans e2).trans e3) ?_
          show Dt H3 v (.bool (!(decide (hw = .probed) && !r.isT) && (l.good && r.good)))
          rw [hc]
          exact dv
        · rw [eqv_how] at hc
          have b1 := a1.mono e2
          refine s_ret (d := .bool (l.good && r.good)) (evd_and (evd_call (ead_cons (evd_ixT (j := 1) (evd_var rfl b1) rfl) ead_nil) ⟨l, by omega, rfl, rfl⟩) fun _ => evd_call (ead_cons (evd_ixT (j := 2) (evd_var rfl b1) rfl) ead_nil) ⟨r, by omega, rfl, rfl⟩) fun v H3 e3 dv => q v H3 ((e1.trans e2).trans e3) ?_
          show Dt H3 v (.bool (!(decide (hw = .probed) && !r.isT) && (l.good && r.good)))
          rw [hc]
          exact dv
theorem spell_len : ∀ p : Pl, p.spell.length = 2 * p.nn + 1
  | .tab _ => rfl
  | .node h l r => by
    rw [Pl.spell, Pl.nn, List.length_cons, List.length_append, spell_len l, spell_len r]
    omega
theorem cl_order_of (G : Gs K mg) (D : Df K mg "order_of" s_order_of) (c_is_table : Cl P w K mg base 1 "is_table" (spR R_is_table)) : ∀ n, n ≤ 9 → Cl P w K mg base (n + 1) "order_of" (spR (R_order_of n))
  | 0, _ => cl_false (ps := P_order_of) D (fun _ _ _ _ _ _ us hl => match us, hl with | [_], _ => rfl) (fun ds d ⟨p, h, _⟩ => absurd h (Nat.not_lt_zero _)) _
  | n + 1, hn => by
    have c_order_of := cl_order_of G D c_is_table n (by omega)
    refine cl_of (k := n + 1) D sc_order_of (fun _ _ _ _ _ _ us hl => match us, hl with | [_], _ => rfl) (spR_len recOf_len) fun f cdv A outer s H vs Q E hr hsp => ?_
    obtain ⟨ds, d, hR, hk, q⟩ := hsp
    refine ⟨_, (pss_cons (ps_if (pt_val (pe_u c_is_table hr (by omega) (by rfl) (pa_cons (pv 0) pa_nil))) (pss_one (ps_ret (pe_tup (pa_cons (pe_tup (pa_cons pe_str (pa_cons (pv 0) pa_nil))) pa_nil)))) pss_nil)
      (pss_one (ps_ret (pe_tup (pa_cons (pe_tup (pa_cons (pe_ix (r := rIx K) ix_seq (pv 0) pe_int (fun _ _ => rfl)) (pa_cons pe_int pa_nil))) (pa_star (pe_u c_order_of hr (by omega) (by rfl) (pa_cons (pe_ix (r := rIx K) ix_seq (pv 0) pe_int (fun _ _ => rfl)) pa_nil)) (pa_star (pe_u c_order_of hr (by omega) (by rfl) (pa_cons (pe_ix (r := rIx K) ix_seq (pv 0) pe_int (fun _ _ => rfl)) pa_nil)) pa_nil))))))), ?_⟩
    obtain ⟨p, hp, rfl, rfl⟩ := hR
    obtain ⟨v1, rfl, h1⟩ := dtAll1 hk
    refine q_when (et_test (evd_call (ead_cons (evd_var rfl h1) ead_nil) ⟨p, rfl, rfl⟩)) (fun ht H1 e1 => ?_) fun ht H1 e1 => ?_
    · cases p with
      | node hw l r => cases ht
      | tab t => exact s_ret (d := eSpell (.tab t)) (evd_tup (ead_cons (evd_tup (ead_cons evd_cstr (ead_cons (evd_var rfl (h1.mono e1)) ead_nil)) (by simp)) ead_nil) (show 1 ≤ 100000 by omega)) fun v H2 e2 dv => q v H2 (e1.trans e2) dv
    · cases p with
      | tab t => cases ht
      | node hw l r =>
        have a1 := h1.mono e1
        rw [Pl.nn] at hp
        refine s_ret (d := eSpell (.node hw l r)) ?_ fun v H3 e3 dv => q v H3 (e1.trans e3) dv
        refine evd_is (evd_tup (ead_cons (evd_tup (ead_cons (evd_ixT (j := 0) (evd_var rfl a1) rfl) (ead_cons (evd_cint (i := ((0 : Nat) : Int))) ead_nil)) (by simp)) (ead_starT (evd_call (ead_cons (evd_ixT (j := 1) (evd_var rfl a1) rfl) ead_nil) ⟨l, by omega, rfl, rfl⟩) (ead_starT (evd_call (ead_cons (evd_ixT (j := 2) (evd_var rfl a1) rfl) ead_nil) ⟨r, by omega, rfl, rfl⟩) ead_nil))) ?_) ?_
        · simp only [List.length_cons, List.length_append, List.length_map, List.length_nil, spell_len]
          omega
        · unfold eSpell
          rw [Pl.spell, List.map_cons, List.map_append, List.append_nil]

theorem cl_leaned_at (G : Gs K mg) (D : Df K mg "leaned_at" s_leaned_at) (c_is_table : Cl P w K mg base 1 "is_table" (spR R_is_table)) (c_is_good : Cl P w K mg base 10 "is_good" (spR (R_is_good 9))) : Cl P w K mg base 11 "leaned_at" (spR R_leaned_at) := by
  refine cl_of (k := 10) D sc_leaned_at (fun _ _ _ _ _ _ us hl => match us, hl with | [_], _ => rfl) ?_ fun f cdv A outer s H vs Q E hr hsp => ?_
  · exact spR_len (n := 1) R_leaned_at_len
  · obtain ⟨ds, d, hR, hk, q⟩ := hsp
    refine ⟨_, (pss_cons (ps_asg (pv 0) (pg_tup rfl (pgs_cons (pg_name (i := 1) sc_leaned_at.nd rfl (by first | exact Or.inl rfl | exact Or.inr rfl)) (pgs_cons (pg_name (i := 2) sc_leaned_at.nd rfl (by first | exact Or.inl rfl | exact Or.inr rfl)) (pgs_cons (pg_name (i := 3) sc_leaned_at.nd rfl (by first | exact Or.inl rfl | exact Or.inr rfl)) pgs_nil)))))
      (pss_cons (ps_set (i := 4) sc_leaned_at.nd rfl (by first | exact Or.inl rfl | exact Or.inr rfl) (pe_lst pa_nil))
      (pss_cons (ps_if (pt_not (pt_val (pe_u c_is_table hr (by omega) (by rfl) (pa_cons (pv 2) pa_nil)))) (pss_one (ps_expr (pe_bm PySem.F.plainAttrs_list PySem.F.slot_list_append PySem.F.type_list_append mt_append (pv 4) (pa_cons (pe_tup (pa_cons (pe_ix (r := rIx K) ix_seq (pv 2) pe_int (fun _ _ => rfl)) (pa_cons (pe_ix (r := rIx K) ix_seq (pv 2) pe_int (fun _ _ => rfl)) (pa_cons (pe_tup (pa_cons (pv 1) (pa_cons (pe_ix (r := rIx K) ix_seq (pv 2) pe_int (fun _ _ => rfl)) (pa_cons (pv 3) pa_nil)))) pa_nil)))) pa_nil)))) pss_nil)
      (pss_cons (ps_if (pt_not (pt_val (pe_u c_is_table hr (by omega) (by rfl) (pa_cons (pv 3) pa_nil)))) (pss_one (ps_expr (pe_bm PySem.F.plainAttrs_list PySem.F.slot_list_append PySem.F.type_list_append mt_append (pv 4) (pa_cons (pe_tup (pa_cons (pe_ix (r := rIx K) ix_seq (pv 3) pe_int (fun _ _ => rfl)) (pa_cons (pe_tup (pa_cons (pv 1) (pa_cons (pv 2) (pa_cons (pe_ix (r := rIx K) ix_seq (pv 3) pe_int (fun _ _ => rfl)) pa_nil)))) (pa_cons (pe_ix (r := rIx K) ix_seq (pv 3) pe_int (fun _ _ => rfl)) pa_nil)))) pa_nil)))) pss_nil)
      (pss_one (ps_ret (pe_lc (own := [("one", 5)]) (g := (gName 5)) rfl sc_leaned_at.nd (pi_list (pv 4)) (blkOk_by (own := [("one", 5)]) (N := N_leaned_at) (sc := defScope s_leaned_at) (by decide +kernel)) (fun _ _ _ _ _ => (pg_name (i := 5) sc_leaned_at.nd rfl (by first | exact Or.inl rfl | exact Or.inr rfl))) (fun _ _ _ _ _ => (pts_one (pt_val (pe_u c_is_good hr (by omega) (by rfl) (pa_cons (pv 5) pa_nil))))) (fun _ _ _ _ _ => (pv 5))))))))), ?_⟩
    obtain ⟨hw, l, r, hn, rfl, rfl⟩ := hR
    obtain ⟨v1, rfl, h1⟩ := dtAll1 hk
    rw [Pl.nn] at hn
    refine q_unp3 (evd_var rfl h1) fun x y z H1 e1 d1 d2 d3 => ?_
    refine q_asgL (ds := []) ead_nil (by simp) fun a xs H2 e2 na ha dx => ?_
    have hx0 : xs = [] := by cases dx; rfl
    subst hx0
    have fin : ∀ (H' : Hp) (xs : List V) (ps : List Pl), Ex H1 H' → H' a = some (.lst xs) → DtAll H' xs (ps.map eP) → ps = Pl.leanL (.node hw l r) ++ Pl.leanR (.node hw l r) → (tRet (tLc (iList K (tVar 4)) (gName 5) (tTest (tCall (spR (R_is_good 9)) [] E0 (tCons (tVar 5) tNil))) (tVar 5) [5])) { nx := fun _ H' => Q .non H', rt := Q } [some v1, some x, some y, some z, some (.ref a), none] H' := by
      intro H' xs ps e' ha' dxs hps
      subst hps
      have bd := leanL_len (.node hw l r)
      have bd2 := leanR_len (.node hw l r)
      refine s_ret (d := .list (((Pl.leanL (.node hw l r) ++ Pl.leanR (.node hw l r)).filter Pl.good).map eP)) (evd_lct _ eP Pl.good eP (evi_list (evd_var rfl (.lst ha' dxs))) (fun p hp vx H3 e3 dx Q' q' => q' _ rfl (et_test (evd_call (ead_cons (evd_var rfl dx) ead_nil) ⟨p, ?_, rfl, rfl⟩)) fun _ => evd_var rfl dx) (fun p _ _ => eP_tup p) (by rw [List.length_append]; omega)) fun v H3 e3 dv => q v H3 ((e1.trans e').trans e3) dv
      have key : ∀ p ∈ Pl.leanL (.node hw l r) ++ Pl.leanR (.node hw l r), p.nn < 9 := by
        intro p hp
        rcases List.mem_append.mp hp with hp | hp
        · cases l with
          | tab t => simp [Pl.leanL] at hp
          | node h' x y =>
            simp only [Pl.leanL, List.mem_singleton] at hp
            rw [hp]
            simp only [Pl.nn] at hn ⊢
            omega
        · cases r with
          | tab t => simp [Pl.leanR] at hp
          | node h' x y =>
            simp only [Pl.leanR, List.mem_singleton] at hp
            rw [hp]
            simp only [Pl.nn] at hn ⊢
            omega
      exact key p hp
    have d12 := d1.mono e2
    have d22 := d2.mono e2
    have d32 := d3.mono e2
    have second : ∀ (H' : Hp) (xs : List V) (ps : List Pl), Ex H1 H' → H' a = some (.lst xs) → DtAll H' xs (ps.map eP) → xs.length ≤ 10 → ps = Pl.leanL (.node hw l r) → (tSeq (tIfS (tNot (tTest (tCall (spR R_is_table) [] E0 (tCons (tVar 3) tNil)))) (tDrop (tBM K "list" rAppend (tVar 4) (tCons (tTup (tCons (tOp (rIx K) (tVar 3) (tC (.int 0))) (tCons (tTup (tCons (tVar 1) (tCons (tVar 2) (tCons (tOp (rIx K) (tVar 3) (tC (.int 1))) tNil)))) (tCons (tOp (rIx K) (tVar 3) (tC (.int 2))) tNil)))) tNil))) tNext)
        (tRet (tLc (iList K (tVar 4)) (gName 5) (tTest (tCall (spR (R_is_good 9)) [] E0 (tCons (tVar 5) tNil))) (tVar 5) [5]))) { nx := fun _ H' => Q .non H', rt := Q } [some v1, some x, some y, some z, some (.ref a), none] H' := by
      intro H' xs ps e' ha' dxs hz hps
      have z3 := d3.mono e'
      have z2 := d2.mono e'
      have z1 := d1.mono e'
      refine q_when (et_not (et_test (evd_call (ead_cons (evd_var rfl z3) ead_nil) ⟨r, rfl, rfl⟩))) (fun hc H3 e3 => ?_) fun hc H3 e3 => ?_
      · cases r with
        | tab t => cases hc
        | node h' x' y' =>
          refine s_app (d := eP (.node h' (.node hw l x') y')) rfl (e3 _ _ ha') (evd_tup (ead_cons (evd_ixT (j := 0) (evd_var rfl (z3.mono e3)) rfl) (ead_cons (evd_tup (ead_cons (evd_var rfl (z1.mono e3)) (ead_cons (evd_var rfl (z2.mono e3)) (ead_cons (evd_ixT (j := 1) (evd_var rfl (z3.mono e3)) rfl) ead_nil))) (by simp)) (ead_cons (evd_ixT (j := 2) (evd_var rfl (z3.mono e3)) rfl) ead_nil))) (by simp)) (by omega) fun v H4 e4 dv => ?_
          have a4 := e4 _ _ (e3 _ _ ha')
          refine fin _ (xs ++ [v]) (ps ++ [.node h' (.node hw l x') y']) (Ex.mut ((e'.trans e3).trans e4) na) upd_same ?_ (by rw [hps]; rfl)
          rw [List.map_append]
          exact ((dxs.mono (e3.trans e4)).append (.one dv)).monoT (ext_upd a4) (tupOnlyAll_of fun d hd => by
            rcases List.mem_append.mp hd with hd | hd
            · exact eL_tup d hd
            · rw [List.mem_singleton.mp hd]; exact eP_tup _)
      · cases r with
        | node h' x' y' => cases hc
        | tab t => exact fin _ xs ps (e'.trans e3) (e3 _ _ ha') (dxs.mono e3) (by rw [hps]; simp [Pl.leanR])
    refine q_when (et_not (et_test (evd_call (ead_cons (evd_var rfl d22) ead_nil) ⟨l, rfl, rfl⟩))) (fun hc H3 e3 => ?_) fun hc H3 e3 => ?_
    · cases l with
      | tab t => cases hc
      | node h' x' y' =>
        refine s_app (d := eP (.node h' x' (.node hw y' r))) rfl (e3 _ _ ha) (evd_tup (ead_cons (evd_ixT (j := 0) (evd_var rfl (d22.mono e3)) rfl) (ead_cons (evd_ixT (j := 1) (evd_var rfl (d22.mono e3)) rfl) (ead_cons (evd_tup (ead_cons (evd_var rfl (d12.mono e3)) (ead_cons (evd_ixT (j := 2) (evd_var rfl (d22.mono e3)) rfl) (ead_cons (evd_var rfl (d32.mono e3)) ead_nil))) (by simp)) ead_nil))) (by simp)) (by simp) fun v H4 e4 dv => ?_
        have a4 := e4 _ _ (e3 _ _ ha)
        refine second _ [v] [.node h' x' (.node hw y' r)] (Ex.mut ((e2.trans e3).trans e4) na) upd_same ?_ (by simp) rfl
        exact (DtAll.one dv).monoT (ext_upd a4) (tupOnlyAll_of fun d hd => by rw [List.mem_singleton.mp hd]; exact eP_tup _)
    · cases l with
      | node h' x' y' => cases hc
      | tab t => exact second _ [] [] (e2.trans e3) (e3 _ _ ha) .nil (by simp) rfl

theorem cl_changed_at (G : Gs K mg) (D : Df K mg "changed_at" s_changed_at) (c_ways_at : Cl P w K mg base 2 "ways_at" (spR R_ways_at)) (c_turned_at : Cl P w K mg base 2 "turned_at" (spR R_turned_at)) (c_leaned_at : Cl P w K mg base 11 "leaned_at" (spR R_leaned_at)) : Cl P w K mg base 12 "changed_at" (spR R_changed_at) := by
  refine cl_of (k := 11) D sc_changed_at (fun _ _ _ _ _ _ us hl => match us, hl with | [_], _ => rfl) ?_ fun f cdv A outer s H vs Q E hr hsp => ?_
  · exact spR_len (n := 1) R_changed_at_len
  · obtain ⟨ds, d, hR, hk, q⟩ := hsp
    refine ⟨_, (pss_one (ps_ret (pe_op op_cat (pe_op op_cat (pe_u c_ways_at hr (by omega) (by rfl) (pa_cons (pv 0) pa_nil)) (pe_u c_turned_at hr (by omega) (by rfl) (pa_cons (pv 0) pa_nil))) (pe_u c_leaned_at hr (by omega) (by rfl) (pa_cons (pv 0) pa_nil))))), ?_⟩
    obtain ⟨hw, l, r, hn, rfl, rfl⟩ := hR
    obtain ⟨v1, rfl, h1⟩ := dtAll1 hk
    have a := ways_len (.node hw l r)
    have b := turned_len (.node hw l r)
    have c := leaned_len (.node hw l r)
    refine s_ret (d := eL (Pl.changedAt (.node hw l r))) ?_ (fun v H2 e2 dv => q v H2 e2 dv)
    unfold eL
    rw [Pl.changedAt, List.map_append, List.map_append]
    exact evd_cat (evd_cat (evd_call (ead_cons (evd_var rfl h1) ead_nil) ⟨hw, l, r, rfl, rfl⟩) (evd_call (ead_cons (evd_var rfl h1) ead_nil) ⟨hw, l, r, rfl, rfl⟩) (by rw [List.length_map, List.length_map]; omega)) (evd_call (ead_cons (evd_var rfl h1) ead_nil) ⟨hw, l, r, hn, rfl, rfl⟩)
      (by rw [List.length_append, List.length_map, List.length_map, List.length_map]; omega)


theorem cl_changed_in (G : Gs K mg) (D : Df K mg "changed_in" s_changed_in) (c_is_table : Cl P w K mg base 1 "is_table" (spR R_is_table)) (c_changed_at : Cl P w K mg base 12 "changed_at" (spR R_changed_at)) : ∀ n, n ≤ 9 → Cl P w K mg base (n + 13) "changed_in" (spR (R_changed_in n))
  | 0, _ => cl_false (ps := P_changed_in) D (fun _ _ _ _ _ _ us hl => match us, hl with | [_], _ => rfl) (fun ds d ⟨p, h, _⟩ => absurd h (Nat.not_lt_zero _)) _
  | n + 1, hn => by
    have c_changed_in := cl_changed_in G D c_is_table c_changed_at n (by omega)
    refine cl_of (k := n + 13) D sc_changed_in (fun _ _ _ _ _ _ us hl => match us, hl with | [_], _ => rfl) (spR_len recOf_len) fun f cdv A outer s H vs Q E hr hsp => ?_
    obtain ⟨ds, d, hR, hk, q⟩ := hsp
    refine ⟨_, (pss_cons (ps_if (pt_val (pe_u c_is_table hr (by omega) (by rfl) (pa_cons (pv 0) pa_nil))) (pss_one (ps_ret (pe_lst pa_nil))) pss_nil)
      (pss_cons (ps_asg (pv 0) (pg_tup rfl (pgs_cons (pg_name (i := 1) sc_changed_in.nd rfl (by first | exact Or.inl rfl | exact Or.inr rfl)) (pgs_cons (pg_name (i := 2) sc_changed_in.nd rfl (by first | exact Or.inl rfl | exact Or.inr rfl)) (pgs_cons (pg_name (i := 3) sc_changed_in.nd rfl (by first | exact Or.inl rfl | exact Or.inr rfl)) pgs_nil)))))
      (pss_cons (ps_set (i := 4) sc_changed_in.nd rfl (by first | exact Or.inl rfl | exact Or.inr rfl) (pe_u c_changed_at hr (by omega) (by rfl) (pa_cons (pv 0) pa_nil)))
      (pss_cons (ps_set (i := 4) sc_changed_in.nd rfl (by first | exact Or.inl rfl | exact Or.inr rfl) (pe_op op_cat (pv 4) (pe_lc (own := [("one", 5)]) (g := (gName 5)) (tt := tYes) rfl sc_changed_in.nd (pi_list (pe_u c_changed_in hr (by omega) (by rfl) (pa_cons (pv 2) pa_nil))) (blkOk_by (own := [("one", 5)]) (N := N_changed_in) (sc := defScope s_changed_in) (by decide +kernel)) (fun _ _ _ _ _ => (pg_name (i := 5) sc_changed_in.nd rfl (by first | exact Or.inl rfl | exact Or.inr rfl))) (fun _ _ _ _ _ => pts_nil) (fun _ _ _ _ _ => (pe_tup (pa_cons (pv 1) (pa_cons (pv 5) (pa_cons (pv 3) pa_nil))))))))
      (pss_one (ps_ret (pe_op op_cat (pv 4) (pe_lc (own := [("one", 5)]) (g := (gName 5)) (tt := tYes) rfl sc_changed_in.nd (pi_list (pe_u c_changed_in hr (by omega) (by rfl) (pa_cons (pv 3) pa_nil))) (blkOk_by (own := [("one", 5)]) (N := N_changed_in) (sc := defScope s_changed_in) (by decide +kernel)) (fun _ _ _ _ _ => (pg_name (i := 5) sc_changed_in.nd rfl (by first | exact Or.inl rfl | exact Or.inr rfl))) (fun _ _ _ _ _ => pts_nil) (fun _ _ _ _ _ => (pe_tup (pa_cons (pv 1) (pa_cons (pv 2) (pa_cons (pv 5) pa_nil))))))))))))), ?_⟩
    obtain ⟨p, hp, rfl, rfl⟩ := hR
    obtain ⟨v1, rfl, h1⟩ := dtAll1 hk
    refine q_when (et_test (evd_call (ead_cons (evd_var rfl h1) ead_nil) ⟨p, rfl, rfl⟩)) (fun ht H1 e1 => ?_) fun ht H1 e1 => ?_
    · cases p with
      | node hw l r => cases ht
      | tab t => exact s_ret (d := .list []) (evd_lst ead_nil (by simp)) fun v H2 e2 dv => q v H2 (e1.trans e2) dv
    · cases p with
      | tab t => cases ht
      | node hw l r =>
        have a1 := h1.mono e1
        have hp' := hp
        rw [Pl.nn] at hp
        have bl := changed_len l
        have br := changed_len r
        have ba := changedAt_len (.node hw l r)
        refine q_unp3 (evd_var rfl a1) fun x y z H2 e2 d1 d2 d3 => ?_
        refine q_asg (evd_call (ead_cons (evd_var rfl (a1.mono e2)) ead_nil) ⟨hw, l, r, by omega, rfl, rfl⟩) fun v H3 e3 dv => ?_
        refine q_asg (d := .list ((Pl.changedAt (.node hw l r)).map eP ++ l.changed.map fun q => eP (.node hw q r))) (evd_cat (evd_var rfl dv) ?_ (by rw [List.length_map, List.length_map]; omega)) fun v2 H4 e4 dv2 => ?_
        · refine evd_lcy l.changed eP _ (evi_list (evd_call (ead_cons (evd_var rfl (d2.mono e3)) ead_nil) ⟨l, by omega, rfl, rfl⟩)) (fun p hp vx H5 e5 dx Q' q' => q' _ rfl ?_) (fun p _ => eP_tup (.node hw p r)) (by omega)
          exact evd_tup (ead_cons (evd_var rfl (d1.mono (e3.trans e5))) (ead_cons (evd_var rfl dx) (ead_cons (evd_var rfl (d3.mono (e3.trans e5))) ead_nil))) (by simp)
        · refine s_ret (d := .list (((Pl.changedAt (.node hw l r)).map eP ++ l.changed.map fun q => eP (.node hw q r)) ++ r.changed.map fun q => eP (.node hw l q))) (evd_cat (evd_var rfl dv2) ?_ (by rw [List.length_append, List.length_map, List.length_map, List.length_map]; omega)) fun v3 H5 e5 dv3 => q v3 H5 ((((e1.trans e2).trans e3).trans e4).trans e5) ?_
          · have e34 := e3.trans e4
            refine evd_lcy r.changed eP _ (evi_list (evd_call (ead_cons (evd_var rfl (d3.mono e34)) ead_nil) ⟨r, by omega, rfl, rfl⟩)) (fun p hp vx H5 e5 dx Q' q' => q' _ rfl ?_) (fun p _ => eP_tup (.node hw l p)) (by omega)
            exact evd_tup (ead_cons (evd_var rfl (d1.mono (e34.trans e5))) (ead_cons (evd_var rfl (d2.mono (e34.trans e5))) (ead_cons (evd_var rfl dx) ead_nil))) (by simp)
          · show Dt H5 v3 (.list ((Pl.changed (.node hw l r)).map eP))
            rw [Pl.changed, List.map_append, List.map_append, List.map_map, List.map_map]
            exact dv3

end
end Pc
/-! dicts of plans and sorting, as data -/
namespace Pc
open PySem PySem.Spec PyProof.Rows L2
open Evl (Ex EvT)

/-- each once, where it comes first -/
def add1 (acc : List Pl) (p : Pl) : List Pl := if p ∈ acc then acc else acc ++ [p]
def ddup (ps : List Pl) : List Pl := ps.foldl add1 []
theorem ddup_snoc (ps : List Pl) (p : Pl) : ddup (ps ++ [p]) = add1 (ddup ps) p := by
  unfold ddup
  rw [List.foldl_append]
  rfl
theorem mem_add1 {acc : List Pl} {p x : Pl} : x ∈ add1 acc p ↔ x ∈ acc ∨ x = p := by
  unfold add1
  split
  · rename_i h
    exact ⟨.inl, fun q => q.elim id fun e => e ▸ h⟩
  · rw [List.mem_append, List.mem_singleton]
theorem foldl_add1 {x : Pl} : ∀ (ps acc : List Pl), x ∈ ps.foldl add1 acc ↔ x ∈ acc ∨ x ∈ ps
  | [], acc => by simp
  | p :: ps, acc => by
    rw [List.foldl_cons, foldl_add1 ps, mem_add1, List.mem_cons, or_assoc]
theorem mem_ddup {ps : List Pl} {x : Pl} : x ∈ ddup ps ↔ x ∈ ps := by
  unfold ddup
  rw [foldl_add1]
  simp
theorem nodup_add1 {acc : List Pl} {p : Pl} (h : acc.Nodup) : (add1 acc p).Nodup := by
  unfold add1
  split
  · exact h
  · rename_i hp
    refine List.nodup_append.mpr ⟨h, List.pairwise_singleton _ _, fun a ha b hb e => ?_⟩
    rw [List.mem_singleton.mp hb] at e
    exact hp (e ▸ ha)
theorem nodup_foldl : ∀ (ps acc : List Pl), acc.Nodup → (ps.foldl add1 acc).Nodup
  | [], _, h => h
  | p :: ps, acc, h => nodup_foldl ps _ (nodup_add1 h)
theorem ddup_nodup (ps : List Pl) : (ddup ps).Nodup := nodup_foldl ps [] List.nodup_nil
theorem foldl_len : ∀ (ps acc : List Pl), (ps.foldl add1 acc).length ≤ acc.length + ps.length
  | [], _ => Nat.le_refl _
  | p :: ps, acc => by
    have h := foldl_len ps (add1 acc p)
    have e : (add1 acc p).length ≤ acc.length + 1 := by
      unfold add1
      split
      · omega
      · rw [List.length_append, List.length_singleton]; omega
    rw [List.foldl_cons, List.length_cons]
    omega
theorem ddup_len (ps : List Pl) : (ddup ps).length ≤ ps.length := by
  have h := foldl_len ps []
  unfold ddup
  simpa using h
theorem putP_add1 (es : List Ent) (p : Pl) (kv v : V) : (putP es p kv v).map (·.1) = add1 (es.map (·.1)) p := by
  rw [putP_keys, valP_isSome]
  unfold add1
  by_cases h : p ∈ es.map (·.1)
  · rw [decide_eq_true h, if_pos rfl, if_pos h]
  · rw [decide_eq_false h, if_neg Bool.false_ne_true, if_neg h]
section
variable {w : World} {H H' : Hp} {a : Addr} {es : List Ent} {p : Pl} {x v : V}
/-- what stands after a put -/
theorem PD.put (A : At w H a es x p) : PD w (upd H a (dpO w a (putP es p x v))) a (putP es p x v) := by
  have et : ExT H (upd H a (dpO w a (putP es p x v))) := fun b ys hb => by
    rw [upd_ne]
    · exact hb
    · rintro rfl
      rw [A.pd.own] at hb
      cases hb
  refine ⟨upd_same, fun e he => ?_, ?_⟩
  · rcases putP_mem he with ⟨f, hf, h1, h2⟩ | rfl
    · have k := A.pd.key f hf
      rw [h1, h2] at k
      exact ⟨k.1.monoT et (eP_tup _), k.2⟩
    · exact ⟨A.dt.monoT et (eP_tup _), A.nn⟩
  · refine ⟨p.isT, fun e he => ?_⟩
    rcases putP_mem he with ⟨f, hf, h1, _⟩ | rfl
    · rw [← h1]; exact A.kd f hf
    · rfl
theorem pd_nil : PD w (upd H a (dpO w a [])) a [] := ⟨upd_same, (fun e he => nomatch he), ⟨true, (fun e he => nomatch he)⟩⟩
end
section
variable {K : PySem.W.Frag} {w : World} {σ : L2.St} {H H' : Hp} {te td : TE}
/-- {x: True for x in ..} -/
theorem evp_dcP {wi : TI} {i : Nat} {xs : List Pl} (hw : EvI wi σ H (xs.map eP)) (hn : ∀ p ∈ xs, p.nn ≤ 8) {b : Bool} (hb : ∀ p ∈ xs, p.isT = b) (hz : xs.length ≤ 50000)
    (hwp : ∀ x, wipe ((wipe σ [i]).set i (some x)) [i] = wipe σ [i]) (hix : ∀ x, ((wipe σ [i]).set i (some x))[i]? = some (some x)) :
    EvP (tDcP w wi (gName i) (tVar i) (tC (.bl true)) [i]) σ H (fun v H2 => ∃ a es, v = .ref a ∧ PD w H2 a es ∧ es.map (·.1) = ddup xs) := fun H1 e Q q =>
  hw H1 e _ fun J H2 e2 wk D hD => by
    rw [List.length_map] at wk
    refine ⟨fun j m H' => m = xs.length - j ∧ j ≤ xs.length ∧ Ex H2 H' ∧ ∃ es, PD w H' D es ∧ es.map (·.1) = ddup (xs.take j), ⟨xs.length, by simp, Nat.zero_le _, ex_new hD, [], pd_nil, rfl⟩, ?_⟩
    rintro j m H' ⟨rfl, hj, e', es, pd, ek⟩
    by_cases hlt : j < xs.length
    · refine .inr ⟨wk.goes j H' hlt e', fun H'' => j + 1 ≤ xs.length ∧ Ex H2 H'' ∧ ∃ es, PD w H'' D es ∧ es.map (·.1) = ddup (xs.take (j + 1)), fun H'' h => ⟨xs.length - (j + 1), by omega, rfl, h⟩, fun x H3 y => ?_⟩
      obtain ⟨e3, d0, hd0, dx⟩ := wk.yields j H' x H3 hlt e' y
      rw [List.getElem?_map] at hd0
      obtain ⟨p, hp, rfl⟩ := Option.map_eq_some_iff.mp hd0
      have hm := List.mem_of_getElem? hp
      have pd3 := pd.mono e3
      have kd : ∀ e ∈ es, e.1.isT = p.isT := fun e he => by
        have h1 : e.1 ∈ ddup (xs.take j) := by rw [← ek]; exact List.mem_map.mpr ⟨e, he, rfl⟩
        rw [hb _ (List.mem_of_mem_take (mem_ddup.mp h1)), hb p hm]
      have lz : es.length < 100000 := by
        have h1 := congrArg List.length ek
        rw [List.length_map] at h1
        have h2 := ddup_len (xs.take j)
        rw [List.length_take] at h2
        omega
      have at3 : At w H3 D es x p := ⟨pd3, dx, hn p hm, kd⟩
      refine ⟨hwp x, x, hix x, es, p, at3, lz, hlt, Ex.mut (e'.trans e3) hD, _, PD.put at3, ?_⟩
      rw [putP_add1, ek, List.take_add_one, hp]
      exact (ddup_snoc _ _).symm
    · have ej : j = xs.length := by omega
      subst ej
      rw [List.take_length] at ek
      exact .inl ⟨wk.stops H' e', q _ H' (e2.trans (fun b o hb => e' b o hb)) ⟨D, es, rfl, pd, ek⟩⟩
/-- sorted(.., key=f) of plans -/
theorem evf_sortP {f : Addr} {spk : V → Hp → VK → Prop} {xs : List Pl} {P : V → Hp → Prop} (hd : EvP td σ H P)
    (hP : ∀ v H2, Ex H H2 → P v H2 → ∃ a ws, v = .ref a ∧ (H2 a = some (.lst ws) ∨ ∃ es, PD w H2 a es ∧ ws = es.map (·.2.1) ∧ xs = es.map (·.1)) ∧ DtAll H2 ws (xs.map eP)) (hz : xs.length ≤ 50000)
    (hk : ∀ p ∈ xs, ∀ x H1, Ex H H1 → Dt H1 x (eP p) → ∀ Q : VK, (∀ v H2, Ex H1 H2 → Dt H2 v (eSpell p) → Q v H2) → spk x H1 Q) :
    EvF (tCKw (rSortP w f spk) (tCons td tNil) (tCons (tC (.ref f)) tNil)) σ H ((xs.mergeSort leP).map eP) := fun H1 e Q q =>
  hd H1 e _ fun v H2 e2 p2 => by
    obtain ⟨a, ws, rfl, src, dk⟩ := hP v H2 (e.trans e2) p2
    refine ⟨a, ws, xs, rfl, rfl, src, dk, fun i x d hx hd H3 e3 Q' q' => ?_, hz, fun l H3 ys nl nl3 e3 dy => q l ys _ (e2.trans (fun b o hb => by rw [upd_ne (ne_of_none hb nl)]; exact e3 _ _ hb)) (fresh_of e2 nl) upd_same (dy.mono (ex_new nl3))⟩
    rw [List.getElem?_map] at hd
    obtain ⟨p, hp, rfl⟩ := Option.map_eq_some_iff.mp hd
    obtain ⟨d', hd', dd⟩ := dk.get hx
    rw [List.getElem?_map, hp] at hd'
    cases hd'
    exact hk p (List.mem_of_getElem? hp) x H3 ((e.trans e2).trans e3) (dd.mono e3) Q' q'
theorem dtAll_keys {es : List Ent} {a : Addr} (pd : PD w H a es) : DtAll H (es.map (·.2.1)) ((es.map (·.1)).map eP) := by
  have key : ∀ es : List Ent, (∀ e ∈ es, Dt H e.2.1 (eP e.1) ∧ e.1.nn ≤ 8) → DtAll H (es.map (·.2.1)) ((es.map (·.1)).map eP) := by
    intro es
    induction es with
    | nil => intro _; exact .nil
    | cons e es ih => intro h; exact .cons (h e (List.mem_cons_self ..)).1 (ih fun x hx => h x (List.mem_cons_of_mem _ hx))
  exact key es pd.key
end
/-! ### statements -/
section
variable {K : PySem.W.Frag} {σ : L2.St} {H H' : Hp} {te : TE} {tz : TS} {D : Ends} {es : List PyData} {i : Nat}
theorem q_asgF (h : EvF te σ H es) (k : ∀ a xs H1, Ex H H1 → H a = none → H1 a = some (.lst xs) → DtAll H1 xs es → tz D (σ.set i (some (.ref a))) H1) : tSeq (tAsg te (gName i)) tz D σ H := h H (Ex.refl _) _ k
theorem s_retF (h : EvF te σ H es) (k : ∀ a xs H1, Ex H H1 → H a = none → H1 a = some (.lst xs) → DtAll H1 xs es → D.rt (.ref a) H1) : tRet te D σ H := h H (Ex.refl _) _ k
/-- a promise: a new list -/
def spF (R : List PyData → List PyData → Prop) : Sp := fun vs H Q _ => ∃ ds es, R ds es ∧ DtAll H vs ds ∧ ∀ a xs H', Ex H H' → H a = none → H' a = some (.lst xs) → DtAll H' xs es → Q (.ref a) H'
theorem spF_len {R : List PyData → List PyData → Prop} {n : Nat} (h : ∀ ds d, R ds d → ds.length = n) : ∀ vs H Q E, spF R vs H Q E → vs.length = n := fun vs H Q E ⟨ds, d, hr, k, _⟩ => by rw [k.length]; exact h ds d hr
theorem evf_call {R : List PyData → List PyData → Prop} {t : TA} {E : XK} {ds : List PyData} (h : EvAD t σ H ds) (hr : R ds es) : EvF (tCall (spF R) [] E t) σ H es := fun H1 e Q q =>
  h H1 e _ fun vs H2 e2 k => ⟨ds, es, hr, by rw [List.append_nil]; exact k, fun a xs H3 e3 n3 h3 k3 => q a xs H3 (e2.trans e3) (fresh_of e2 n3) h3 k3⟩
end
/-! ### the steps -/
theorem changed_nn : ∀ {p x : Pl}, x ∈ p.changed → x.nn = p.nn ∧ x.isT = false
  | .tab _, _, h => by simp [Pl.changed] at h
  | .node h l r, x, hx => by
    rw [Pl.changed] at hx
    rcases List.mem_append.mp hx with hx | hx
    · rcases List.mem_append.mp hx with hx | hx
      · unfold Pl.changedAt at hx
        rcases List.mem_append.mp hx with hx | hx
        · rcases List.mem_append.mp hx with hx | hx
          · rw [Pl.ways] at hx
            obtain ⟨w, _, rfl⟩ := List.mem_map.mp hx
            exact ⟨rfl, rfl⟩
          · rw [Pl.turned] at hx
            split at hx
            · rw [List.mem_singleton.mp hx]
              exact ⟨by rw [Pl.nn, Pl.nn]; omega, rfl⟩
            · exact nomatch hx
        · unfold Pl.leaned at hx
          have hx := (List.mem_filter.mp hx).1
          rcases List.mem_append.mp hx with hx | hx
          · cases l with
            | tab t => simp [Pl.leanL] at hx
            | node h' a b =>
              simp only [Pl.leanL, List.mem_singleton] at hx
              rw [hx]
              exact ⟨by simp only [Pl.nn]; omega, rfl⟩
          · cases r with
            | tab t => simp [Pl.leanR] at hx
            | node h' a b =>
              simp only [Pl.leanR, List.mem_singleton] at hx
              rw [hx]
              exact ⟨by simp only [Pl.nn]; omega, rfl⟩
      · obtain ⟨y, hy, rfl⟩ := List.mem_map.mp hx
        exact ⟨by rw [Pl.nn, Pl.nn, (changed_nn hy).1], rfl⟩
    · obtain ⟨y, hy, rfl⟩ := List.mem_map.mp hx
      exact ⟨by rw [Pl.nn, Pl.nn, (changed_nn hy).1], rfl⟩
def stepsP (q : Qy) (k : Kd) (p : Pl) : List Pl :=
  match k with
  | .any => (ddup p.changed).mergeSort leP
  | .linked => ((ddup p.changed).mergeSort leP).filter (linked q)
def R_steps_of : List PyData → List PyData → Prop := fun ds es => ∃ (q : Qy) (k : Kd) (p : Pl), p.nn < 9 ∧ ds = [eQ q, .str k.str, eP p] ∧ es = (stepsP q k p).map eP
theorem R_steps_of_len : ∀ ds d, R_steps_of ds d → ds.length = 3 := fun ds d ⟨_, _, _, _, e, _⟩ => by rw [e]; rfl
theorem crossed_isEmpty (q : Qy) (p : Pl) : (crossed q p).isEmpty = linked q p := by
  have h := crossed_nil q p
  cases hl : linked q p with
  | true => rw [hl] at h; rw [show crossed q p = [] from h ▸ rfl]; rfl
  | false =>
    rw [hl] at h
    cases hc : crossed q p with
    | nil => rw [hc] at h; simp at h
    | cons x xs => rfl
end Pc
/-! steps: steps_of, steps -/
namespace Pc
open PySem PySem.Spec PyProof.Rows L2
open Evl (Ex EvT)
open StX (tStar pa_star)
section
variable {P : Program} {w : World} {K : PySem.W.Frag} {mg : Str → Option Value} {base : Heap}


theorem u16 {k : Nat} {A : Around} (r : Room k A) : A.units + 16 < cLine := by have := r.units; omega

theorem cl_steps_of (G : Gs K mg) (D : Df K mg "steps_of" s_steps_of) (c_changed_in : Cl P w K mg base 22 "changed_in" (spR (R_changed_in 9))) (c_order_of : Cl P w K mg base 10 "order_of" (spR (R_order_of 9))) (c_crossed_nodes : Cl P w K mg base 11 "crossed_nodes" (spR R_crossed_nodes)) : Cl P w K mg base 23 "steps_of" (spF R_steps_of) := by
  refine cl_of (k := 22) D sc_steps_of (fun _ _ _ _ _ _ us hl => match us, hl with | [_, _, _], _ => rfl) ?_ fun f cdv A outer s H vs Q E hr hsp => ?_
  · exact spF_len (n := 3) R_steps_of_len
  · obtain ⟨ds, d, hR, hk, q⟩ := hsp
    obtain ⟨fO, fdO, psO, FO, hmO, kpO, bO⟩ := c_order_of.ex
    have hr0 : Room (20 + 2) _ := hr
    refine ⟨_, (pss_cons (ps_set (i := 3) sc_steps_of.nd rfl (by first | exact Or.inl rfl | exact Or.inr rfl) (pe_callBK (cr_sortP rfl (u16 hr) (keyCall_def (j := 20) FO hr0 (by omega) bO)) (by rfl) G.f_sorted bt_sorted (pa_cons (pe_dcP (own := [("one", 4)]) (g := gName 4) (u16 hr) rfl sc_steps_of.nd (pi_list (pe_u c_changed_in hr (by omega) (by rfl) (pa_cons (pv 2) pa_nil))) (blkOk_by (own := [("one", 4)]) (N := N_steps_of) (sc := defScope s_steps_of) (by decide +kernel)) (fun _ _ _ _ _ => (pg_name (i := 4) sc_steps_of.nd rfl (by first | exact Or.inl rfl | exact Or.inr rfl))) (fun _ _ _ _ _ => (pv 4)) (fun _ _ _ _ _ => pe_bl)) pa_nil) (pk_cons (pe_glob (v := .ref fO) (by rfl) hmO rfl) pk_nil)))
      (pss_cons (ps_if (pt_cmpR (r := rNeD K) (op_neD hr.units) (pv 1) (pe_g (by rfl) G.c_KIND_LINKED) (nomark _)) (pss_one (ps_ret (pv 3))) pss_nil)
      (pss_one (ps_ret (pe_lc (own := [("one", 4)]) (g := (gName 4)) rfl sc_steps_of.nd (pi_list (pv 3)) (blkOk_by (own := [("one", 4)]) (N := N_steps_of) (sc := defScope s_steps_of) (by decide +kernel)) (fun _ _ _ _ _ => (pg_name (i := 4) sc_steps_of.nd rfl (by first | exact Or.inl rfl | exact Or.inr rfl))) (fun _ _ _ _ _ => (pts_one (pt_cmpR (r := rEqD K) (op_eqD hr.units) (pe_u c_crossed_nodes hr (by omega) (by rfl) (pa_cons (pv 0) (pa_cons (pv 4) pa_nil))) (pe_lst pa_nil) (nomark _)))) (fun _ _ _ _ _ => (pv 4))))))), ?_⟩
    obtain ⟨y, k, p, hp, rfl, rfl⟩ := hR
    obtain ⟨v1, v2, v3, rfl, h1, h2, h3⟩ := dtAll3 hk
    have bc := changed_len p
    have bd := ddup_len p.changed
    have bm := (List.mergeSort_perm (ddup p.changed) leP).length_eq
    have ha : EvF (tCKw (rSortP w fO (fun x H Q => spR (R_order_of 9) [x] H Q E0)) (tCons (tDcP w (iList K (tCall (spR (R_changed_in 9)) [] E0 (tCons (tVar 2) tNil))) (gName 4) (tVar 4) (tC (.bl true)) [4]) tNil) (tCons (tC (.ref fO)) tNil)) (start N_steps_of [v1, v2, v3]) H (((ddup p.changed).mergeSort leP).map eP) := by
      refine evf_sortP (evp_dcP (xs := p.changed) (b := false) (evi_list (evd_call (ead_cons (evd_var rfl h3) ead_nil) ⟨p, hp, rfl, rfl⟩)) (fun x hx => by have := (changed_nn hx).1; omega) (fun x hx => (changed_nn hx).2) (by omega) (fun _ => rfl) (fun _ => rfl)) (fun v H2 e2 ⟨a, es, ev, pd, ek⟩ => ?_) (by omega) (fun x hx vx H1 e1 dx Q' q' => ?_)
      · exact ⟨a, es.map (·.2.1), ev, .inr ⟨es, pd, rfl, ek.symm⟩, by rw [← ek]; exact dtAll_keys pd⟩
      · exact ⟨[eP x], eSpell x, ⟨x, by have := (changed_nn (mem_ddup.mp hx)).1; omega, rfl, rfl⟩, .one dx, q'⟩
    refine q_asgF ha fun a xs H1 e1 na hxs dxs => ?_
    cases k with
    | any =>
      refine q_when (p := true) (et_is (et_B (evd_ne (evd_var rfl (h2.mono e1)) (evd_cstr (x := Kd.linked.str)) (by decide +kernel) (by decide +kernel))) (by decide +kernel)) (fun _ H2 e2 => ⟨_, rfl, q a xs H2 (e1.trans e2) na (e2 _ _ hxs) (dxs.mono e2)⟩) fun h => nomatch h
    | linked =>
      refine q_no (et_is (et_B (evd_ne (evd_var rfl (h2.mono e1)) (evd_cstr (x := Kd.linked.str)) (by decide +kernel) (by decide +kernel))) (by decide +kernel)) fun H2 e2 => ?_
      refine s_retF (evf_lct ((ddup p.changed).mergeSort leP) eP (linked y) eP (evi_list (evd_var rfl (.lst (e2 _ _ hxs) (dxs.mono e2)))) (fun x hx vx H3 e3 dx Q' q' => q' _ rfl (et_is (et_B (evd_eq (evd_call (ead_cons (evd_var rfl (h1.mono ((e1.trans e2).trans e3))) (ead_cons (evd_var rfl dx) ead_nil)) ⟨y, x, ?_, rfl, rfl⟩) (evd_lst ead_nil (by simp)) ?_ rfl)) ?_) fun _ => evd_var rfl dx) (fun x _ _ => eP_tup x) (by omega)) fun a' xs' H3 e3 na' h3' d3' => q a' xs' H3 ((e1.trans e2).trans e3) (fresh_of (e1.trans e2) na') h3' d3'
      · have := (changed_nn (mem_ddup.mp ((List.mergeSort_perm _ _).mem_iff.mp hx))).1
        omega
      · have hx' := (changed_nn (mem_ddup.mp ((List.mergeSort_perm _ _).mem_iff.mp hx))).1
        exact eL_shaped (n := 9) (by omega) fun z hz => by have := crossed_nn hz; omega
      · unfold eL
        rw [eqv_nil, List.isEmpty_map]
        exact crossed_isEmpty y x

end
end Pc
/-! breadth first, in plain Lean: what both searches compute -/
namespace Pc
/-- a plan, the plan ahead of it, how far it is -/
abbrev Row3 := Pl × Option Pl × Nat
def keys3 (F : List Row3) : List Pl := F.map (·.1)
def far3 (F : List Row3) (p : Pl) : Nat := ((F.find? fun r => decide (r.1 = p)).map (·.2.2)).getD 0
def visit (here : Pl) (st : List Row3 × List Pl) (one : Pl) : List Row3 × List Pl :=
  if one ∈ keys3 st.1 then st else (st.1 ++ [(one, some here, far3 st.1 here + 1)], st.2 ++ [one])
def inner (S : Pl → List Pl) (st : List Row3 × List Pl) (here : Pl) : List Row3 × List Pl := (S here).foldl (visit here) st
def sweep (S : Pl → List Pl) (F : List Row3) (layer : List Pl) : List Row3 × List Pl := layer.foldl (inner S) (F, [])
def bfs (S : Pl → List Pl) (p0 : Pl) : Nat → List Row3 × List Pl
  | 0 => ([(p0, none, 0)], [p0])
  | n + 1 => sweep S (bfs S p0 n).1 (bfs S p0 n).2
section
variable {S : Pl → List Pl} {p0 : Pl} {Ok : Pl → Prop}
/-- what holds of what was found -/
structure Fnd (S : Pl → List Pl) (p0 : Pl) (Ok : Pl → Prop) (F : List Row3) : Prop where
  nd : (keys3 F).Nodup
  ok : ∀ x ∈ keys3 F, Ok x
  row : ∀ r ∈ F, (r.2.1 = none ∧ r.1 = p0 ∧ r.2.2 = 0) ∨ ∃ y ∈ F, r.2.1 = some y.1 ∧ r.2.2 = y.2.2 + 1 ∧ r.1 ∈ S y.1
  top : p0 ∈ keys3 F
theorem far3_of {F : List Row3} (nd : (keys3 F).Nodup) {r : Row3} (h : r ∈ F) : far3 F r.1 = r.2.2 := by
  induction F with
  | nil => exact nomatch h
  | cons x F ih =>
    unfold keys3 at nd
    rw [List.map_cons, List.nodup_cons] at nd
    unfold far3
    rw [List.find?_cons]
    rcases List.mem_cons.mp h with rfl | h
    · rw [decide_eq_true rfl]; rfl
    · have hne : ¬ x.1 = r.1 := fun e => nd.1 (by rw [e]; exact List.mem_map.mpr ⟨r, h, rfl⟩)
      rw [decide_eq_false hne]
      exact ih nd.2 h
theorem row_inj {F : List Row3} (nd : (keys3 F).Nodup) {r s : Row3} (hr : r ∈ F) (hs : s ∈ F) (e : r.1 = s.1) : r = s := by
  induction F with
  | nil => exact nomatch hr
  | cons x F ih =>
    unfold keys3 at nd
    rw [List.map_cons, List.nodup_cons] at nd
    rcases List.mem_cons.mp hr with a | a
    · rcases List.mem_cons.mp hs with b | b
      · rw [a, b]
      · exact absurd (by rw [← a, e]; exact List.mem_map.mpr ⟨s, b, rfl⟩) nd.1
    · rcases List.mem_cons.mp hs with b | b
      · exact absurd (by rw [← b, ← e]; exact List.mem_map.mpr ⟨r, a, rfl⟩) nd.1
      · exact ih nd.2 a b
theorem keys3_append (F G : List Row3) : keys3 (F ++ G) = keys3 F ++ keys3 G := List.map_append
/-- one step of the search -/
structure Mid (S : Pl → List Pl) (p0 : Pl) (Ok : Pl → Prop) (F0 : List Row3) (st : List Row3 × List Pl) (todo : List Pl) : Prop where
  fnd : Fnd S p0 Ok st.1
  sub : ∀ x ∈ keys3 F0, x ∈ keys3 st.1
  fresh : ∀ x ∈ st.2, x ∈ keys3 st.1
  len : st.1.length = F0.length + st.2.length
  clo : ∀ x ∈ keys3 st.1, x ∈ todo ∨ x ∈ st.2 ∨ ∀ y ∈ S x, y ∈ keys3 st.1
theorem Mid.visit {F0 : List Row3} {st : List Row3 × List Pl} {todo : List Pl} {here one : Pl} (m : Mid S p0 Ok F0 st todo) (hh : here ∈ keys3 st.1) (hS : one ∈ S here) (hok : Ok one) : Mid S p0 Ok F0 (visit here st one) todo ∧ one ∈ keys3 (visit here st one).1 ∧ ∀ x ∈ keys3 st.1, x ∈ keys3 (visit here st one).1 := by
  unfold Pc.visit
  by_cases h : one ∈ keys3 st.1
  · rw [if_pos h]
    exact ⟨m, h, fun x hx => hx⟩
  · rw [if_neg h]
    have kk : keys3 (st.1 ++ [(one, some here, far3 st.1 here + 1)]) = keys3 st.1 ++ [one] := by rw [keys3_append]; rfl
    have up : ∀ x ∈ keys3 st.1, x ∈ keys3 (st.1 ++ [(one, some here, far3 st.1 here + 1)]) := fun x hx => by rw [kk]; exact List.mem_append_left _ hx
    have me : one ∈ keys3 (st.1 ++ [(one, some here, far3 st.1 here + 1)]) := by rw [kk]; exact List.mem_append_right _ (List.mem_singleton.mpr rfl)
    refine ⟨⟨⟨?_, fun x hx => ?_, fun r hr => ?_, up _ m.fnd.top⟩, fun x hx => up _ (m.sub x hx), fun x hx => ?_, ?_, fun x hx => ?_⟩, me, up⟩
    · rw [kk]
      refine List.nodup_append.mpr ⟨m.fnd.nd, List.pairwise_singleton _ _, fun a ha b hb e => ?_⟩
      rw [List.mem_singleton.mp hb] at e
      exact h (e ▸ ha)
    · rw [kk] at hx
      rcases List.mem_append.mp hx with hx | hx
      · exact m.fnd.ok x hx
      · rw [List.mem_singleton.mp hx]; exact hok
    · rcases List.mem_append.mp hr with hr | hr
      · rcases m.fnd.row r hr with q | ⟨y, hy, q⟩
        · exact .inl q
        · exact .inr ⟨y, List.mem_append_left _ hy, q⟩
      · rw [List.mem_singleton.mp hr]
        obtain ⟨y, hy, e⟩ := List.mem_map.mp hh
        refine .inr ⟨y, List.mem_append_left _ hy, by rw [e], ?_, by rw [e]; exact hS⟩
        rw [← e, far3_of m.fnd.nd hy]
    · rcases List.mem_append.mp hx with hx | hx
      · exact up _ (m.fresh x hx)
      · rw [List.mem_singleton.mp hx]; exact me
    · show (st.1 ++ [(one, some here, far3 st.1 here + 1)]).length = F0.length + (st.2 ++ [one]).length
      rw [List.length_append, List.length_append, m.len, List.length_singleton, List.length_singleton]
      omega
    · have hx' : x ∈ keys3 (st.1 ++ [(one, some here, far3 st.1 here + 1)]) := hx
      rw [kk] at hx'
      rcases List.mem_append.mp hx' with hx | hx
      · rcases m.clo x hx with q | q | q
        · exact .inl q
        · exact .inr (.inl (List.mem_append_left _ q))
        · exact .inr (.inr fun y hy => up _ (q y hy))
      · rw [List.mem_singleton.mp hx]
        exact .inr (.inl (List.mem_append_right _ (List.mem_singleton.mpr rfl)))
theorem Mid.inner {F0 : List Row3} {here : Pl} : ∀ (ones : List Pl) {st : List Row3 × List Pl} {todo : List Pl}, Mid S p0 Ok F0 st todo → here ∈ keys3 st.1 → (∀ one ∈ ones, one ∈ S here ∧ Ok one) →
    Mid S p0 Ok F0 (ones.foldl (Pc.visit here) st) todo ∧ (∀ one ∈ ones, one ∈ keys3 (ones.foldl (Pc.visit here) st).1) ∧ ∀ x ∈ keys3 st.1, x ∈ keys3 (ones.foldl (Pc.visit here) st).1
  | [], st, todo, m, _, _ => ⟨m, fun _ h => (nomatch h), fun _ h => h⟩
  | one :: ones, st, todo, m, hh, ho => by
    obtain ⟨m1, k1, u1⟩ := m.visit hh (ho one (List.mem_cons_self ..)).1 (ho one (List.mem_cons_self ..)).2
    obtain ⟨m2, k2, u2⟩ := Mid.inner ones m1 (u1 _ hh) fun x hx => ho x (List.mem_cons_of_mem _ hx)
    rw [List.foldl_cons]
    refine ⟨m2, fun x hx => ?_, fun x hx => u2 _ (u1 _ hx)⟩
    rcases List.mem_cons.mp hx with rfl | hx
    · exact u2 _ k1
    · exact k2 x hx
theorem Mid.sweep (hS : ∀ x, Ok x → ∀ y ∈ S x, Ok y) {F0 : List Row3} : ∀ (layer : List Pl) {st : List Row3 × List Pl}, Mid S p0 Ok F0 st layer → (∀ x ∈ layer, x ∈ keys3 st.1) → Mid S p0 Ok F0 (layer.foldl (Pc.inner S) st) []
  | [], st, m, _ => m
  | here :: layer, st, m, hl => by
    have hh := hl here (List.mem_cons_self ..)
    have hok := m.fnd.ok _ hh
    obtain ⟨m1, k1, u1⟩ := Mid.inner (here := here) (S here) m hh fun one ho => ⟨ho, hS _ hok _ ho⟩
    rw [List.foldl_cons]
    refine Mid.sweep hS layer (st := Pc.inner S st here) ⟨m1.fnd, m1.sub, m1.fresh, m1.len, fun x hx => ?_⟩ fun x hx => u1 _ (hl x (List.mem_cons_of_mem _ hx))
    rcases m1.clo x hx with q | q | q
    · rcases List.mem_cons.mp q with rfl | q
      · exact .inr (.inr fun y hy => k1 y hy)
      · exact .inl q
    · exact .inr (.inl q)
    · exact .inr (.inr q)
/-- the search's state -/
structure Bok (S : Pl → List Pl) (p0 : Pl) (Ok : Pl → Prop) (st : List Row3 × List Pl) : Prop where
  fnd : Fnd S p0 Ok st.1
  lay : ∀ x ∈ st.2, x ∈ keys3 st.1
  clo : ∀ x ∈ keys3 st.1, x ∈ st.2 ∨ ∀ y ∈ S x, y ∈ keys3 st.1
theorem Bok.mid {st : List Row3 × List Pl} (h : Bok S p0 Ok st) : Mid S p0 Ok st.1 (st.1, []) st.2 :=
  ⟨h.fnd, fun x hx => hx, fun _ hx => (nomatch hx), rfl, fun x hx => (h.clo x hx).elim .inl fun q => .inr (.inr q)⟩
theorem Bok.next (hS : ∀ x, Ok x → ∀ y ∈ S x, Ok y) {st : List Row3 × List Pl} (h : Bok S p0 Ok st) : Bok S p0 Ok (sweep S st.1 st.2) ∧ (sweep S st.1 st.2).1.length = st.1.length + (sweep S st.1 st.2).2.length := by
  have m := Mid.sweep hS st.2 h.mid h.lay
  exact ⟨⟨m.fnd, m.fresh, fun x hx => (m.clo x hx).elim (fun q => (nomatch q)) id⟩, m.len⟩
theorem bfs_ok (hS : ∀ x, Ok x → ∀ y ∈ S x, Ok y) (h0 : Ok p0) : ∀ n, Bok S p0 Ok (bfs S p0 n)
  | 0 => ⟨⟨List.pairwise_singleton _ _, fun x hx => by rw [List.mem_singleton.mp hx]; exact h0, fun r hr => by rw [List.mem_singleton.mp hr]; exact .inl ⟨rfl, rfl, rfl⟩, List.mem_singleton.mpr rfl⟩, fun x hx => hx, fun x hx => .inl hx⟩
  | n + 1 => ((bfs_ok hS h0 n).next hS).1
theorem bfs_grow (hS : ∀ x, Ok x → ∀ y ∈ S x, Ok y) (h0 : Ok p0) : ∀ n, (bfs S p0 n).2 ≠ [] → n + 1 ≤ (bfs S p0 n).1.length
  | 0, _ => Nat.le_refl _
  | n + 1, h => by
    have hn : (bfs S p0 n).2 ≠ [] := fun e => h (by
      show (sweep S (bfs S p0 n).1 (bfs S p0 n).2).2 = []
      rw [e]
      rfl)
    have a := bfs_grow hS h0 n hn
    have b := ((bfs_ok hS h0 n).next hS).2
    have c : 1 ≤ (bfs S p0 (n + 1)).2.length := Nat.pos_of_ne_zero fun e => h (List.length_eq_zero_iff.mp e)
    have d : (bfs S p0 (n + 1)).1.length = (bfs S p0 n).1.length + (bfs S p0 (n + 1)).2.length := b
    omega
theorem bfs_len (hS : ∀ x, Ok x → ∀ y ∈ S x, Ok y) (h0 : Ok p0) {N : Nat} (few : ∀ ps : List Pl, ps.Nodup → (∀ p ∈ ps, Ok p) → ps.length ≤ N) (n : Nat) : (bfs S p0 n).1.length ≤ N := by
  have h := bfs_ok hS h0 n
  have k := few _ h.fnd.nd h.fnd.ok
  unfold keys3 at k
  rw [List.length_map] at k
  exact k
theorem bfs_end (hS : ∀ x, Ok x → ∀ y ∈ S x, Ok y) (h0 : Ok p0) {N : Nat} (few : ∀ ps : List Pl, ps.Nodup → (∀ p ∈ ps, Ok p) → ps.length ≤ N) : (bfs S p0 N).2 = [] := by
  cases h : (bfs S p0 N).2 with
  | nil => rfl
  | cons x xs =>
    have a := bfs_grow hS h0 N (by rw [h]; simp)
    have b := bfs_len hS h0 few N
    omega
theorem bfs_stay {n : Nat} (h : (bfs S p0 n).2 = []) : ∀ j, bfs S p0 (n + j) = bfs S p0 n
  | 0 => rfl
  | j + 1 => by
    show sweep S (bfs S p0 (n + j)).1 (bfs S p0 (n + j)).2 = _
    rw [bfs_stay h j, h]
    show ((bfs S p0 n).1, []) = bfs S p0 n
    rw [← h]
theorem bfs_same {n m : Nat} (hn : (bfs S p0 n).2 = []) (hm : (bfs S p0 m).2 = []) : (bfs S p0 n).1 = (bfs S p0 m).1 := by
  rcases Nat.le_total n m with h | h
  · have e := bfs_stay hn (m - n)
    rw [Nat.add_sub_cancel' h] at e
    rw [e]
  · have e := bfs_stay hm (n - m)
    rw [Nat.add_sub_cancel' h] at e
    rw [e]
end
end Pc
/-! steps: the searches -/
namespace Pc
open PySem PySem.Spec PyProof.Rows L2
open Evl (Ex EvT)
open StX (tStar pa_star)
section
variable {P : Program} {w : World} {K : PySem.W.Frag} {mg : Str → Option Value} {base : Heap}


theorem changed_ok : ∀ {p x : Pl}, p.good = true → x ∈ p.changed → x.leaves.Perm p.leaves ∧ x.good = true
  | .tab _, _, _, h => by simp [Pl.changed] at h
  | .node h l r, x, g, hx => by
    have g' := g
    rw [Pl.good, Bool.and_eq_true, Bool.and_eq_true] at g'
    obtain ⟨g1, g2, g3⟩ := g'
    rw [Pl.changed] at hx
    rcases List.mem_append.mp hx with hx | hx
    · rcases List.mem_append.mp hx with hx | hx
      · unfold Pl.changedAt at hx
        rcases List.mem_append.mp hx with hx | hx
        · rcases List.mem_append.mp hx with hx | hx
          · rw [Pl.ways] at hx
            obtain ⟨w, hw, rfl⟩ := List.mem_map.mp hx
            have hw := (List.mem_filter.mp hw).2
            refine ⟨List.Perm.refl _, ?_⟩
            rw [Pl.good, g2, g3]
            rw [Bool.and_eq_true] at hw
            have h2 := hw.2
            by_cases e : w = .probed
            · rw [e] at h2
              simp at h2
              rw [h2]
              simp
            · rw [decide_eq_false e]
              rfl
          · rw [Pl.turned] at hx
            split at hx
            · rename_i c
              rw [List.mem_singleton.mp hx]
              refine ⟨List.perm_append_comm, ?_⟩
              rw [Pl.good, g2, g3]
              by_cases e : h = .probed
              · rw [e] at c
                simp at c
                rw [c]
                simp
              · rw [decide_eq_false e]
                rfl
            · exact nomatch hx
        · unfold Pl.leaned at hx
          obtain ⟨hx, gx⟩ := List.mem_filter.mp hx
          refine ⟨?_, gx⟩
          rcases List.mem_append.mp hx with hx | hx
          · cases l with
            | tab t => simp [Pl.leanL] at hx
            | node h' a b =>
              simp only [Pl.leanL, List.mem_singleton] at hx
              rw [hx]
              simp only [Pl.leaves, List.append_assoc]
              exact List.Perm.refl _
          · cases r with
            | tab t => simp [Pl.leanR] at hx
            | node h' a b =>
              simp only [Pl.leanR, List.mem_singleton] at hx
              rw [hx]
              simp only [Pl.leaves, List.append_assoc]
              exact List.Perm.refl _
      · obtain ⟨y, hy, rfl⟩ := List.mem_map.mp hx
        obtain ⟨a, b⟩ := changed_ok g2 hy
        refine ⟨List.Perm.append_right _ a, ?_⟩
        rw [Pl.good, g1, b, g3]
        rfl
    · obtain ⟨y, hy, rfl⟩ := List.mem_map.mp hx
      obtain ⟨a, b⟩ := changed_ok g3 hy
      refine ⟨List.Perm.append_left _ a, ?_⟩
      rw [Pl.good, g2, b]
      have hr : r.isT = false := by
        cases r with
        | tab t => simp [Pl.changed] at hy
        | node _ _ _ => rfl
      rw [hr] at g1
      rw [(changed_nn hy).2, g1]
      rfl
/-- a plan of the kind -/
def OkK (q : Qy) (k : Kd) (p : Pl) : Prop := Pok q.sizes.length p ∧ (k = .linked → linked q p = true)
theorem mem_stepsP {q : Qy} {k : Kd} {p x : Pl} : x ∈ stepsP q k p ↔ x ∈ p.changed ∧ (k = .linked → linked q x = true) := by
  have e : ∀ x, x ∈ (ddup p.changed).mergeSort leP ↔ x ∈ p.changed := fun x => (List.mergeSort_perm _ _).mem_iff.trans mem_ddup
  cases k with
  | any =>
    show x ∈ (ddup p.changed).mergeSort leP ↔ _
    rw [e]
    exact ⟨fun h => ⟨h, fun z => nomatch z⟩, fun h => h.1⟩
  | linked =>
    show x ∈ ((ddup p.changed).mergeSort leP).filter (linked q) ↔ _
    rw [List.mem_filter, e]
    exact ⟨fun h => ⟨h.1, fun _ => h.2⟩, fun h => ⟨h.1, h.2 rfl⟩⟩
theorem stepsP_ok {q : Qy} {k : Kd} : ∀ x, OkK q k x → ∀ y ∈ stepsP q k x, OkK q k y := fun x hx y hy => by
  obtain ⟨h1, h2⟩ := mem_stepsP.mp hy
  obtain ⟨a, b⟩ := changed_ok hx.1.good h1
  exact ⟨⟨a.trans hx.1.perm, b⟩, h2⟩
theorem stepsP_len (q : Qy) (k : Kd) (p : Pl) : (stepsP q k p).length ≤ 6 * p.nn := by
  have h : ((ddup p.changed).mergeSort leP).length ≤ 6 * p.nn := by
    rw [(List.mergeSort_perm _ _).length_eq]
    exact Nat.le_trans (ddup_len _) (changed_len p)
  cases k with
  | any => exact h
  | linked => exact Nat.le_trans (List.length_filter_le _ _) h
def R_need_asked : List PyData → PyData → Prop := fun ds r => ∃ (q : Qy) (k : Kd) (p : Pl), Qok q ∧ OkK q k p ∧ ds = [eQ q, eP p, .str k.str] ∧ r = .none
theorem R_need_asked_len : ∀ ds d, R_need_asked ds d → ds.length = 3 := fun ds d ⟨_, _, _, _, _, e, _⟩ => by rw [e]; rfl
def R_steps : List PyData → PyData → Prop := fun ds r => ∃ (q : Qy) (k : Kd) (p : Pl), Qok q ∧ OkK q k p ∧ ds = [eQ q, eP p, .str k.str] ∧ r = .tuple ((stepsP q k p).map eP)
theorem R_steps_len : ∀ ds d, R_steps ds d → ds.length = 3 := fun ds d ⟨_, _, _, _, _, e, _⟩ => by rw [e]; rfl
theorem Pok.nn9 {q : Qy} {p : Pl} (h : Pok q.sizes.length p) (k : Qok q) : p.nn < 4 := by
  have a := h.len
  have b := k.many
  omega
theorem eqv_kd (a b : Kd) : PyData.eqv (.str a.str) (.str b.str) = decide (a = b) := by cases a <;> cases b <;> decide +kernel
theorem sh_kd (k : Kd) : SeqAt.shaped (.str k.str) = true := by cases k <;> decide +kernel

theorem cl_need_asked (G : Gs K mg) (D : Df K mg "need_asked" s_need_asked) (c_need_plan : Cl P w K mg base 6 "need_plan" (spR R_need_plan)) (c_need_kind : Cl P w K mg base 1 "need_kind" (spR R_need_kind)) (c_crossed_nodes : Cl P w K mg base 11 "crossed_nodes" (spR R_crossed_nodes)) : Cl P w K mg base 12 "need_asked" (spR R_need_asked) := by
  refine cl_of (k := 11) D sc_need_asked (fun _ _ _ _ _ _ us hl => match us, hl with | [_, _, _], _ => rfl) ?_ fun f cdv A outer s H vs Q E hr hsp => ?_
  · exact spR_len (n := 3) R_need_asked_len
  · obtain ⟨ds, d, hR, hk, q⟩ := hsp
    refine ⟨_, (pss_cons (ps_expr (pe_u c_need_plan hr (by omega) (by rfl) (pa_cons (pv 0) (pa_cons (pv 1) pa_nil))))
      (pss_cons (ps_expr (pe_u c_need_kind hr (by omega) (by rfl) (pa_cons (pv 2) pa_nil)))
      (pss_one (ps_if (PW.pt (pw_and (pt_cmpR (r := rEqD K) (op_eqD hr.units) (pv 2) (pe_g (by rfl) G.c_KIND_LINKED) (nomark _)) (pw_and1 (pt_cmpR (r := rNeD K) (op_neD hr.units) (pe_u c_crossed_nodes hr (by omega) (by rfl) (pa_cons (pv 0) (pa_cons (pv 1) pa_nil))) (pe_lst pa_nil) (nomark _))))) (pss_one ps_never) pss_nil)))), ?_⟩
    obtain ⟨y, k, p, okq, okp, rfl, rfl⟩ := hR
    obtain ⟨v1, v2, v3, rfl, h1, h2, h3⟩ := dtAll3 hk
    have hp := okp.1.nn9 okq
    refine q_drop (evd_call (ead_cons (evd_var rfl h1) (ead_cons (evd_var rfl h2) ead_nil)) ⟨y, p, okq, okp.1, rfl, rfl⟩) fun H1 e1 => ?_
    refine q_drop (evd_call (ead_cons (evd_var rfl (h3.mono e1)) ead_nil) ⟨k, rfl, rfl⟩) fun H2 e2 => ?_
    have e12 := e1.trans e2
    refine s_if (p := false) (et_is (et_and (et_B (evd_eq (evd_var rfl (h3.mono e12)) (evd_cstr (x := Kd.linked.str)) (sh_kd k) (sh_kd .linked))) fun _ => et_B (evd_ne (evd_call (ead_cons (evd_var rfl (h1.mono e12)) (ead_cons (evd_var rfl (h2.mono e12)) ead_nil)) ⟨y, p, by omega, rfl, rfl⟩) (evd_lst ead_nil (by simp)) (eL_shaped (n := 9) (by omega) fun z hz => by have := crossed_nn hz; omega) rfl)) ?_) (fun h => nomatch h) (fun _ H3 e3 => q .non H3 (e12.trans e3) .non)
    rw [eqv_kd]
    by_cases e : k = .linked
    · have hl := okp.2 e
      unfold eL
      rw [eqv_nil, List.isEmpty_map, crossed_isEmpty, hl]
      simp
    · rw [decide_eq_false e]
      rfl

theorem cl_steps (G : Gs K mg) (D : Df K mg "steps" s_steps) (c_need_asked : Cl P w K mg base 12 "need_asked" (spR R_need_asked)) (c_steps_of : Cl P w K mg base 23 "steps_of" (spF R_steps_of)) : Cl P w K mg base 24 "steps" (spR R_steps) := by
  refine cl_of (k := 23) D sc_steps (fun _ _ _ _ _ _ us hl => match us, hl with | [_, _, _], _ => rfl) ?_ fun f cdv A outer s H vs Q E hr hsp => ?_
  · exact spR_len (n := 3) R_steps_len
  · obtain ⟨ds, d, hR, hk, q⟩ := hsp
    refine ⟨_, (pss_cons (ps_expr (pe_u c_need_asked hr (by omega) (by rfl) (pa_cons (pv 0) (pa_cons (pv 1) (pa_cons (pv 2) pa_nil)))))
      (pss_one (ps_ret (pe_callTy (r := rTupA K) call_tuple_of (by rfl) G.f_tuple bt_tuple (pa_cons (pe_u c_steps_of hr (by omega) (by rfl) (pa_cons (pv 0) (pa_cons (pv 2) (pa_cons (pv 1) pa_nil)))) pa_nil))))), ?_⟩
    obtain ⟨y, k, p, okq, okp, rfl, rfl⟩ := hR
    obtain ⟨v1, v2, v3, rfl, h1, h2, h3⟩ := dtAll3 hk
    have hp := okp.1.nn9 okq
    refine q_drop (evd_call (ead_cons (evd_var rfl h1) (ead_cons (evd_var rfl h2) (ead_cons (evd_var rfl h3) ead_nil))) ⟨y, k, p, okq, okp, rfl, rfl⟩) fun H1 e1 => ?_
    refine s_ret (evd_tupL (EvF.evd (evf_call (R := R_steps_of) (ead_cons (evd_var rfl (h1.mono e1)) (ead_cons (evd_var rfl (h3.mono e1)) (ead_cons (evd_var rfl (h2.mono e1)) ead_nil))) ⟨y, k, p, by omega, rfl, rfl⟩))) fun v H2 e2 dv => q v H2 (e1.trans e2) dv

end
end Pc
/-! what the searches' dicts hold; heaps without what changes -/
namespace Pc
open PySem PySem.Spec PyProof.Rows L2
open Evl (Ex EvT)
/-- a dict's entries tell the rows: val, what stands at a row's plan -/
def EntF (val : Row3 → PyData) (H : Hp) (es : List Ent) (F : List Row3) : Prop := Paired (fun e r => e.1 = r.1 ∧ Dt H e.2.2 (val r)) es F
theorem EntF.length {val : Row3 → PyData} {H : Hp} {es : List Ent} {F : List Row3} (h : EntF val H es F) : es.length = F.length := Paired.length h
theorem EntF.keys {val : Row3 → PyData} {H : Hp} {es : List Ent} {F : List Row3} (h : EntF val H es F) : es.map (·.1) = keys3 F := by
  unfold EntF at h
  induction h with
  | nil => rfl
  | cons a _ ih =>
    exact congr (congrArg List.cons a.1) ih
theorem EntF.imp {val : Row3 → PyData} {H H' : Hp} {es : List Ent} {F : List Row3} (h : EntF val H es F) (k : ∀ r ∈ F, ∀ v, Dt H v (val r) → Dt H' v (val r)) : EntF val H' es F := by
  unfold EntF at h ⊢
  induction h with
  | nil => exact .nil
  | cons a _ ih => exact .cons ⟨a.1, k _ (List.mem_cons_self ..) _ a.2⟩ (ih fun r hr => k r (List.mem_cons_of_mem _ hr))
theorem EntF.mono {val : Row3 → PyData} {H H' : Hp} {es : List Ent} {F : List Row3} (h : EntF val H es F) (e : Ex H H') : EntF val H' es F := h.imp fun r _ v d => d.mono e
theorem EntF.monoT {val : Row3 → PyData} {H H' : Hp} {es : List Ent} {F : List Row3} (h : EntF val H es F) (e : ExT H H') (t : ∀ r, tupOnly (val r) = true) : EntF val H' es F := h.imp fun r _ v d => d.monoT e (t r)
theorem EntF.snoc {val : Row3 → PyData} {H : Hp} {es : List Ent} {F : List Row3} (h : EntF val H es F) {e : Ent} {r : Row3} (k : e.1 = r.1) (d : Dt H e.2.2 (val r)) : EntF val H (es ++ [e]) (F ++ [r]) := Paired.snoc h ⟨k, d⟩
theorem EntF.at {val : Row3 → PyData} {H : Hp} {es : List Ent} {F : List Row3} (h : EntF val H es F) (nd : (keys3 F).Nodup) {r : Row3} (hr : r ∈ F) : ∃ v, valP es r.1 = some v ∧ Dt H v (val r) := by
  unfold EntF at h
  induction h with
  | nil => exact nomatch hr
  | @cons e s es F a t ih =>
    unfold keys3 at nd
    rw [List.map_cons, List.nodup_cons] at nd
    rw [valP_cons]
    rcases List.mem_cons.mp hr with b | b
    · subst b
      rw [if_pos a.1]
      exact ⟨_, rfl, a.2⟩
    · have hne : ¬ e.1 = r.1 := fun z => nd.1 (by rw [← a.1, z]; exact List.mem_map.mpr ⟨r, b, rfl⟩)
      rw [if_neg hne]
      exact ih nd.2 b
theorem putP_new {es : List Ent} {p : Pl} (kv v : V) (h : p ∉ es.map (·.1)) : putP es p kv v = es ++ [(p, kv, v)] := by
  unfold putP
  rw [valP_isSome, decide_eq_false h, if_neg Bool.false_ne_true]
/-- the heap without some of it -/
def hid (H : Hp) (as : List Addr) : Hp := fun b => if b ∈ as then none else H b
theorem hid_none {H : Hp} {as : List Addr} {a : Addr} (h : a ∈ as) : hid H as a = none := if_pos h
theorem hid_ne {H : Hp} {as : List Addr} {a : Addr} (h : a ∉ as) : hid H as a = H a := if_neg h
theorem hid_ex {H : Hp} {as : List Addr} : Ex (hid H as) H := fun b o h => by
  by_cases hb : b ∈ as
  · rw [hid_none hb] at h; cases h
  · rw [hid_ne hb] at h; exact h
theorem ex_hid {H0 H : Hp} {as : List Addr} (e : Ex H0 H) (n : ∀ a ∈ as, H0 a = none) : Ex H0 (hid H as) := fun b o h => by
  rw [hid_ne fun z => by rw [n b z] at h; cases h]
  exact e b o h
theorem extT_hid {H : Hp} {as : List Addr} (n : ∀ a ∈ as, ∀ xs, H a ≠ some (.tup xs)) : ExT H (hid H as) := fun b xs h => by
  rw [hid_ne fun z => n b z xs h]
  exact h
theorem dtAll_eP {H H' : Hp} {xs : List V} {ps : List Pl} (h : DtAll H xs (ps.map eP)) (e : ExT H H') : DtAll H' xs (ps.map eP) := h.monoT e (tupOnlyAll_of eL_tup)
/-- the rows' value in the program's dict: the plan ahead -/
def valA (r : Row3) : PyData := match r.2.1 with
  | none => .none
  | some y => eP y
theorem valA_tup (r : Row3) : tupOnly (valA r) = true := by
  unfold valA
  cases r.2.1 with
  | none => rfl
  | some y => exact eP_tup y
/-- the rows' value in the law's dict: how far -/
def valD (r : Row3) : PyData := .int (r.2.2 : Int)
/-- few plans of a query -/
def Few (q : Qy) : Prop := ∀ ps : List Pl, ps.Nodup → (∀ p ∈ ps, Pok q.sizes.length p) → ps.length ≤ 2232
theorem Few.of {q : Qy} (h : Few q) (k : Kd) : ∀ ps : List Pl, ps.Nodup → (∀ p ∈ ps, OkK q k p) → ps.length ≤ 2232 := fun ps nd ok => h ps nd fun p hp => (ok p hp).1
/-- what the search gives -/
def BfsIs (q : Qy) (k : Kd) (p : Pl) (F : List Row3) : Prop := ∃ n, (bfs (stepsP q k) p n).2 = [] ∧ F = (bfs (stepsP q k) p n).1
/-- reached_from's promise -/
def spB (val : Row3 → PyData) (w : World) (enc : Qy → Kd → Pl → List PyData) : Sp := fun vs H Q _ => ∃ (q : Qy) (k : Kd) (p : Pl), (Qok q ∧ OkK q k p ∧ Few q) ∧ DtAll H vs (enc q k p) ∧
  ∀ a es F H', BfsIs q k p F → Ex H H' → H a = none → PD w H' a es → EntF val H' es F → Q (.ref a) H'
abbrev sp_reached_from (w : World) : Sp := spB valA w fun q k p => [eQ q, .str k.str, eP p]
theorem isT_of {n : Nat} {p p' : Pl} (h : Pok n p) (h' : Pok n p') : p.isT = p'.isT := by
  have a := h.len
  have b := h'.len
  cases p with
  | tab t =>
    cases p' with
    | tab t' => rfl
    | node _ _ _ => simp only [Pl.nn] at a b; omega
  | node _ _ _ =>
    cases p' with
    | tab t' => simp only [Pl.nn] at a b; omega
    | node _ _ _ => rfl
section
variable {K : PySem.W.Frag} {w : World} {σ : L2.St} {H : Hp} {ta tb : TE} {a : Addr} {es : List Ent} {p : Pl}
theorem evp_var {i : Nat} {v : V} (h : σ[i]? = some (some v)) : EvP (tVar i) σ H (fun u _ => u = v) := fun H1 e Q q => ⟨v, h, q v H1 (Ex.refl _) rfl⟩
theorem evd_inP (ha : EvD ta σ H (eP p)) (hb : EvP tb σ H (fun u _ => u = .ref a)) (pd : PD w H a es) (hn : p.nn ≤ 8) (kd : ∀ e ∈ es, e.1.isT = p.isT) : EvD (tOp (rInP w false) ta tb) σ H (.bool (decide (p ∈ es.map (·.1)))) := fun H1 e Q q =>
  ha H1 e _ fun x H2 e2 dx => hb H2 (e.trans e2) _ fun y H3 e3 hy => by
    subst hy
    refine ⟨a, es, p, rfl, ⟨pd.mono ((e.trans e2).trans e3), dx.mono e3, hn, kd⟩, ?_⟩
    rw [if_neg Bool.false_ne_true, valP_isSome]
    exact q _ H3 (e2.trans e3) (.bl _)
theorem evd_ninP (ha : EvD ta σ H (eP p)) (hb : EvP tb σ H (fun u _ => u = .ref a)) (pd : PD w H a es) (hn : p.nn ≤ 8) (kd : ∀ e ∈ es, e.1.isT = p.isT) : EvD (tOp (rInP w true) ta tb) σ H (.bool (!decide (p ∈ es.map (·.1)))) := fun H1 e Q q =>
  ha H1 e _ fun x H2 e2 dx => hb H2 (e.trans e2) _ fun y H3 e3 hy => by
    subst hy
    refine ⟨a, es, p, rfl, ⟨pd.mono ((e.trans e2).trans e3), dx.mono e3, hn, kd⟩, ?_⟩
    rw [if_pos rfl, valP_isSome]
    exact q _ H3 (e2.trans e3) (.bl _)
theorem evd_lenP (hb : EvP tb σ H (fun u _ => u = .ref a)) (pd : PD w H a es) : EvD (tCB (rLenP w) (tCons tb tNil)) σ H (.int (es.length : Nat)) := fun H1 e Q q =>
  hb H1 e _ fun y H3 e3 hy => by
    subst hy
    exact ⟨a, es, rfl, pd.mono (e.trans e3), q _ H3 e3 (.int _)⟩
theorem evd_ixP {d : PyData} {v : V} (ha : EvP ta σ H (fun u _ => u = .ref a)) (hb : EvD tb σ H (eP p)) (pd : PD w H a es) (hn : p.nn ≤ 8) (kd : ∀ e ∈ es, e.1.isT = p.isT) (g : valP es p = some v) (dv : Dt H v d) : EvD (tOp (rIxP w) ta tb) σ H d := fun H1 e Q q =>
  ha H1 e _ fun y H2 e2 hy => hb H2 (e.trans e2) _ fun x H3 e3 dx => by
    subst hy
    exact ⟨a, es, p, v, rfl, ⟨pd.mono ((e.trans e2).trans e3), dx, hn, kd⟩, g, q v H3 (e2.trans e3) (dv.mono ((e.trans e2).trans e3))⟩
end
theorem foldl_take {α β : Type} (f : β → α → β) (b : β) {xs : List α} {i : Nat} {x : α} (h : xs[i]? = some x) : (xs.take (i + 1)).foldl f b = f ((xs.take i).foldl f b) x := by
  rw [List.take_add_one, h, List.foldl_append]
  rfl
end Pc
/-! steps: reached_from -/
namespace Pc
open PySem PySem.Spec PyProof.Rows L2
open Evl (Ex EvT)
open StX (tStar pa_star)
section
variable {P : Program} {w : World} {K : PySem.W.Frag} {mg : Str → Option Value} {base : Heap}


theorem cl_reached_from (G : Gs K mg) (D : Df K mg "reached_from" s_reached_from) (c_steps_of : Cl P w K mg base 23 "steps_of" (spF R_steps_of)) : Cl P w K mg base 24 "reached_from" (sp_reached_from w) := by
  refine cl_of (k := 23) D sc_reached_from (fun _ _ _ _ _ _ us hl => match us, hl with | [_, _, _], _ => rfl) (fun vs H Q E ⟨q, k, p, _, h, _⟩ => h.length) fun f cdv A outer s H vs Q E hr hsp => ?_
  obtain ⟨y, k, p, ⟨okq, okp, few⟩, hk, q⟩ := hsp
  refine ⟨_, (pss_cons (ps_par (i := 3) (j := 4) rfl sc_reached_from.nd rfl rfl (by decide) rfl rfl (pa_cons (pe_dispP (u16 hr) (pv 2) pe_non) (pa_cons (pe_lst (pa_cons (pv 2) pa_nil)) pa_nil)) (by rfl))
      (pss_cons (ps_while PassesOwn.never (pt_cmpR (r := rNeD K) (op_neD hr.units) (pv 4) (pe_lst pa_nil) (nomark _)) (pss_cons (ps_set (i := 5) sc_reached_from.nd rfl (by first | exact Or.inl rfl | exact Or.inr rfl) (pe_lst pa_nil))
      (pss_cons (ps_for PassesOwn.never rfl (pi_list (pv 4)) (pg_name (i := 6) sc_reached_from.nd rfl (by first | exact Or.inl rfl | exact Or.inr rfl)) (pss_one (ps_for PassesOwn.never rfl (pi_list (pe_u c_steps_of hr (by omega) (by rfl) (pa_cons (pv 0) (pa_cons (pv 1) (pa_cons (pv 6) pa_nil))))) (pg_name (i := 7) sc_reached_from.nd rfl (by first | exact Or.inl rfl | exact Or.inr rfl)) (pss_one (ps_if (pt_cmpR (r := rInP w true) (op_notInP (u16 hr)) (pv 7) (pv 3) (by rfl)) (pss_cons (ps_putP (u16 hr) (pv 3) (pv 7) (pv 6) (by rfl))
      (pss_one (ps_expr (pe_bm PySem.F.plainAttrs_list PySem.F.slot_list_append PySem.F.type_list_append mt_append (pv 5) (pa_cons (pv 7) pa_nil))))) pss_nil)))))
      (pss_cons (ps_if (pt_cmpR op_gt (pe_callB (r := rLenP w) call_lenP (by rfl) G.f_len bt_len (pa_cons (pv 3) pa_nil)) (pe_g (by rfl) G.c_MOST_REACHED) (nomark _)) (pss_one ps_never) pss_nil)
      (pss_one (ps_set (i := 4) sc_reached_from.nd rfl (by first | exact Or.inl rfl | exact Or.inr rfl) (pv 5)))))))
      (pss_one (ps_ret (pv 3))))), ?_⟩
  obtain ⟨v1, v2, v3, rfl, h1, h2, h3⟩ := dtAll3 hk
  have hp := okp.1.nn9 okq
  have nn_of : ∀ {x}, OkK y k x → x.nn < 4 := fun {x} ok => ok.1.nn9 okq
  have bok := fun n => bfs_ok (stepsP_ok (q := y) (k := k)) okp n
  have blen := fun n => bfs_len (stepsP_ok (q := y) (k := k)) okp (few.of k) n
  have bend : (bfs (stepsP y k) p 2232).2 = [] := bfs_end (stepsP_ok (q := y) (k := k)) okp (few.of k)
  -- the start
  refine fun a na => ?_
  have ea : Ex H (upd H a (dpO w a [])) := ex_new na
  refine ⟨v3, rfl, p, ⟨pd_nil, h3.mono ea, by omega, fun e he => nomatch he⟩, ?_⟩
  have pd0 : PD w (upd (upd H a (dpO w a [])) a (dpO w a (putP [] p v3 .non))) a (putP [] p v3 .non) := PD.put ⟨pd_nil, h3.mono ea, by omega, fun e he => nomatch he⟩
  have e0 : Ex H (upd (upd H a (dpO w a [])) a (dpO w a (putP [] p v3 .non))) := Ex.mut ea na
  refine ⟨v3, rfl, (show 1 ≤ sizeLine from sz5 (by omega)), fun l nl => ⟨.ref a, .ref l, rfl, ?_⟩⟩
  have nl' : (upd (upd H a (dpO w a [])) a (dpO w a (putP [] p v3 .non))) l = none := nl
  have nHl : H l = none := fresh_of e0 nl'
  have pd1 := pd0.mono (ex_new (o := .lst [v3]) nl')
  have e1 := e0.trans (ex_new (o := .lst [v3]) nl')
  have ent0 : EntF valA (upd (upd (upd H a (dpO w a [])) a (dpO w a (putP [] p v3 .non))) l (.lst [v3])) (putP [] p v3 .non) [(p, none, 0)] := .cons ⟨rfl, .non⟩ .nil
  refine ⟨fun m σ' H' => ∃ n l o5 o6 o7 es ls, σ' = [some v1, some v2, some v3, some (.ref a), some (.ref l), o5, o6, o7] ∧ m = 2232 - n ∧ Ex H H' ∧ H l = none ∧ PD w H' a es ∧ EntF valA H' es (bfs (stepsP y k) p n).1 ∧ H' l = some (.lst ls) ∧ DtAll H' ls ((bfs (stepsP y k) p n).2.map eP),
    ⟨2232 - 0, 0, l, none, none, none, putP [] p v3 .non, [v3], rfl, rfl, e1, nHl, pd1, ent0, upd_same, .one (h3.mono e1)⟩, ?_⟩
  clear ent0 e1 pd1 nHl nl' nl e0 pd0 ea l
  rintro m σ' H' ⟨n, l, o5, o6, o7, es, ls, rfl, rfl, eH, nHl, pd, ent, hl, dl⟩
  have B := bok n
  have lay_ok : ∀ x ∈ (bfs (stepsP y k) p n).2, OkK y k x := fun x hx => B.fnd.ok x (B.lay x hx)
  have lsl := dl.length
  rw [List.length_map] at lsl
  have blay : (bfs (stepsP y k) p n).2.length ≤ 2232 := by
    cases n with
    | zero => exact (show 1 ≤ 2232 by omega)
    | succ n =>
      have z := ((bok n).next stepsP_ok).2
      have z2 := blen (n + 1)
      have z3 : (bfs (stepsP y k) p (n + 1)).1.length = (bfs (stepsP y k) p n).1.length + (bfs (stepsP y k) p (n + 1)).2.length := z
      omega
  refine et_test (evd_ne (evd_var rfl (.lst hl dl)) (evd_lst ead_nil (by simp)) (eL_shaped (n := 9) (by omega) fun x hx => by have := nn_of (lay_ok x hx); omega) rfl) H' (Ex.refl _) _ fun H1 f1 => ?_
  rw [eqv_nil, List.isEmpty_map]
  cases hL : (bfs (stepsP y k) p n).2.isEmpty with
  | true =>
    simp only [Bool.not_true, Bool.false_eq_true, if_false]
    have hL' : (bfs (stepsP y k) p n).2 = [] := List.isEmpty_iff.mp hL
    exact ⟨.ref a, rfl, q a es _ H1 ⟨n, hL', rfl⟩ (eH.trans f1) na (pd.mono f1) (ent.mono f1)⟩
  | false =>
    simp only [Bool.not_false, if_true]
    have hL' : (bfs (stepsP y k) p n).2 ≠ [] := fun z => by rw [z] at hL; simp at hL
    have n_lt : n < 2232 := by
      rcases Nat.lt_or_ge n 2232 with z | z
      · exact z
      · exfalso
        have e := bfs_stay bend (n - 2232)
        rw [Nat.add_sub_cancel' z] at e
        rw [e] at hL'
        exact hL' bend
    refine ⟨fun σ' H' => ∃ l o5 o6 o7 es ls, σ' = [some v1, some v2, some v3, some (.ref a), some (.ref l), o5, o6, o7] ∧ Ex H H' ∧ H l = none ∧ PD w H' a es ∧ EntF valA H' es (bfs (stepsP y k) p (n + 1)).1 ∧ H' l = some (.lst ls) ∧ DtAll H' ls ((bfs (stepsP y k) p (n + 1)).2.map eP),
      fun σ' H' ⟨l, o5, o6, o7, es, ls, g1, g2⟩ => ⟨2232 - (n + 1), by omega, n + 1, l, o5, o6, o7, es, ls, g1, rfl, g2⟩, ?_⟩
    -- further = []
    refine q_asgL (ds := []) ead_nil (by simp) fun b xs0 H2 f2 nb hb d0 => ?_
    have x0 : xs0 = [] := by cases d0; rfl
    subst x0
    have f12 := f1.trans f2
    have eH2 := eH.trans f12
    have nHb : H b = none := fresh_of (eH.trans f1) nb
    have hab : a ≠ b := by
      rintro rfl
      rw [(pd.mono f1).own] at nb
      cases nb
    have hlb : l ≠ b := by
      rintro rfl
      rw [f1 _ _ hl] at nb
      cases nb
    have hal : a ≠ l := by
      rintro rfl
      rw [pd.own] at hl
      cases hl
    have pd2 := pd.mono f12
    have ent2 := ent.mono f12
    have hl2 := f12 _ _ hl
    have dl2 := dl.mono f12
    have nt : ∀ x ∈ [a, b], ∀ ys, H2 x ≠ some (.tup ys) := fun x hx ys => by
      rcases List.mem_cons.mp hx with rfl | hx
      · rw [pd2.own]; exact fun z => nomatch z
      · rw [List.mem_singleton.mp hx, hb]; exact fun z => nomatch z
    have eHb : Ex H (hid H2 [a, b]) := ex_hid eH2 fun x hx => by
      rcases List.mem_cons.mp hx with rfl | hx
      · exact na
      · rw [List.mem_singleton.mp hx]; exact nHb
    have lnot : l ∉ [a, b] := fun z => by
      rcases List.mem_cons.mp z with z | z
      · exact hal z.symm
      · exact hlb (List.mem_singleton.mp z)
    have hlb' : hid H2 [a, b] l = some (.lst ls) := by rw [hid_ne lnot]; exact hl2
    have dlb := dtAll_eP dl2 (extT_hid nt)
    have M0 : Mid (stepsP y k) p (OkK y k) (bfs (stepsP y k) p n).1 ((bfs (stepsP y k) p n).1, []) (bfs (stepsP y k) p n).2 := B.mid
    have kd_of : ∀ {es : List Ent} {F : List Row3} {H' : Hp} {x : Pl}, EntF valA H' es F → (∀ x ∈ keys3 F, OkK y k x) → OkK y k x → ∀ e ∈ es, e.1.isT = x.isT := fun {es F H' x} en ok okx e he =>
      isT_of (ok e.1 (by rw [← en.keys]; exact List.mem_map.mpr ⟨e, he, rfl⟩)).1 okx.1
    refine ⟨_, rfl, l, rfl, ⟨ls, SqL.of hl2⟩, ?_⟩
    refine for_it (walk_list (K := K) (a := l) (xs := ls)) (fun i σ' H' => ∃ o6 o7 es fs, σ' = [some v1, some v2, some v3, some (.ref a), some (.ref l), some (.ref b), o6, o7] ∧ Ex (hid H2 [a, b]) H' ∧ PD w H' a es ∧
        EntF valA H' es (((bfs (stepsP y k) p n).2.take i).foldl (inner (stepsP y k)) ((bfs (stepsP y k) p n).1, [])).1 ∧ H' b = some (.lst fs) ∧ DtAll H' fs ((((bfs (stepsP y k) p n).2.take i).foldl (inner (stepsP y k)) ((bfs (stepsP y k) p n).1, [])).2.map eP) ∧
        ∃ todo, Mid (stepsP y k) p (OkK y k) (bfs (stepsP y k) p n).1 (((bfs (stepsP y k) p n).2.take i).foldl (inner (stepsP y k)) ((bfs (stepsP y k) p n).1, [])) todo)
      ⟨o6, o7, es, [], rfl, hid_ex, pd2, ent2, hb, .nil, _, M0⟩ (fun i σ' H' _ ⟨_, _, _, _, _, e', _⟩ => SqL.of (e' _ _ hlb')) (fun i x σ' H' H'' hi ⟨o6, o7, es, fs, g1, e', pd', ent', hb', df', todo, M⟩ yv => ?_) (fun σ' H' ⟨o6, o7, es, fs, g1, e', pd', ent', hb', df', todo, M⟩ => ?_)
    · -- one plan of the layer
      subst g1
      obtain ⟨rfl, hx⟩ := yv
      obtain ⟨d0, hd0, dx⟩ := (dlb.mono e').get hx
      rw [List.getElem?_map] at hd0
      obtain ⟨here, hhere, rfl⟩ := Option.map_eq_some_iff.mp hd0
      have here_ok := lay_ok here (List.mem_of_getElem? hhere)
      have eH' := eHb.trans e'
      have hereIn : here ∈ keys3 (((bfs (stepsP y k) p n).2.take i).foldl (inner (stepsP y k)) ((bfs (stepsP y k) p n).1, [])).1 := M.sub _ (B.lay _ (List.mem_of_getElem? hhere))
      refine (evf_call (R := R_steps_of) (ead_cons (evd_var rfl (h1.mono eH')) (ead_cons (evd_var rfl (h2.mono eH')) (ead_cons (evd_var rfl dx) ead_nil))) ⟨y, k, here, by have := nn_of here_ok; omega, rfl, rfl⟩) H'' (Ex.refl _) _ fun c cs H3 g3 nc hc dc => ⟨c, rfl, ⟨cs, SqL.of hc⟩, ?_⟩
      have hca : c ∉ [a, b] := fun z => by
        rcases List.mem_cons.mp z with rfl | z
        · rw [pd'.own] at nc; cases nc
        · rw [List.mem_singleton.mp z, hb'] at nc; cases nc
      have pd3 := pd'.mono g3
      have hb3 := g3 _ _ hb'
      have nt3 : ∀ x ∈ [a, b], ∀ ys, H3 x ≠ some (.tup ys) := fun x hx ys => by
        rcases List.mem_cons.mp hx with rfl | hx
        · rw [pd3.own]; exact fun z => nomatch z
        · rw [List.mem_singleton.mp hx, hb3]; exact fun z => nomatch z
      have hcc : hid H3 [a, b] c = some (.lst cs) := by rw [hid_ne hca]; exact hc
      have dcc := dtAll_eP dc (extT_hid nt3)
      have eHc : Ex (hid H2 [a, b]) (hid H3 [a, b]) := ex_hid (e'.trans g3) fun x hx => hid_none hx
      have dxc : Dt (hid H3 [a, b]) x (eP here) := (dx.mono g3).monoT (extT_hid nt3) (eP_tup _)
      have lcs := dc.length
      rw [List.length_map] at lcs
      have one_ok : ∀ one ∈ stepsP y k here, one ∈ stepsP y k here ∧ OkK y k one := fun one ho => ⟨ho, stepsP_ok _ here_ok _ ho⟩
      refine for_it (walk_list (K := K) (a := c) (xs := cs)) (fun j σ' H' => ∃ o7 es fs, σ' = [some v1, some v2, some v3, some (.ref a), some (.ref l), some (.ref b), some x, o7] ∧ Ex (hid H3 [a, b]) H' ∧ PD w H' a es ∧
          EntF valA H' es (((stepsP y k here).take j).foldl (visit here) (((bfs (stepsP y k) p n).2.take i).foldl (inner (stepsP y k)) ((bfs (stepsP y k) p n).1, []))).1 ∧ H' b = some (.lst fs) ∧
          DtAll H' fs ((((stepsP y k here).take j).foldl (visit here) (((bfs (stepsP y k) p n).2.take i).foldl (inner (stepsP y k)) ((bfs (stepsP y k) p n).1, []))).2.map eP))
        ⟨o7, es, fs, rfl, hid_ex, pd3, ent'.mono g3, hb3, df'.mono g3⟩ (fun j σ' H' _ ⟨_, _, _, _, e4, _⟩ => SqL.of (e4 _ _ hcc)) (fun j z σ' H' H5 hj ⟨o7, es, fs, g1, e4, pd4, ent4, hb4, df4⟩ zv => ?_) (fun σ' H' ⟨o7, es, fs, g1, e4, pd4, ent4, hb4, df4⟩ => ?_)
      · subst g1
        obtain ⟨rfl, hz⟩ := zv
        obtain ⟨d1, hd1, dz⟩ := (dcc.mono e4).get hz
        rw [List.getElem?_map] at hd1
        obtain ⟨one, hone, rfl⟩ := Option.map_eq_some_iff.mp hd1
        have okone := (one_ok one (List.mem_of_getElem? hone)).2
        obtain ⟨Mj, _, hin⟩ := Mid.inner (here := here) ((stepsP y k here).take j) M hereIn fun o ho => one_ok o (List.mem_of_mem_take ho)
        have hin := hin _ hereIn
        have en := foldl_take (visit here) (((bfs (stepsP y k) p n).2.take i).foldl (inner (stepsP y k)) ((bfs (stepsP y k) p n).1, [])) hone
        rw [en]
        generalize ((stepsP y k here).take j).foldl (visit here) (((bfs (stepsP y k) p n).2.take i).foldl (inner (stepsP y k)) ((bfs (stepsP y k) p n).1, [])) = st at ent4 df4 Mj hin ⊢
        have kd := kd_of ent4 Mj.fnd.ok okone
        have n9 := nn_of okone
        have flen : st.1.length ≤ 2232 := by
          have z := few.of k _ Mj.fnd.nd Mj.fnd.ok
          unfold keys3 at z
          rw [List.length_map] at z
          exact z
        have slen : st.2.length ≤ 2232 := by have := Mj.len; omega
        refine s_if (et_test (evd_ninP (evd_var rfl dz) (evp_var rfl) pd4 (by omega) kd)) (fun hc1 H6 e6 => ?_) (fun hc1 H6 e6 => ?_)
        · have hnot : one ∉ es.map (·.1) := by
            rw [Bool.not_eq_true'] at hc1
            exact of_decide_eq_false hc1
          have hnot2 : one ∉ keys3 st.1 := by rw [← ent4.keys]; exact hnot
          have at6 : At w H6 a es z one := ⟨pd4.mono e6, dz.mono e6, by omega, kd⟩
          have les := ent4.length
          refine ⟨_, rfl, _, rfl, _, rfl, a, es, one, rfl, at6, by omega, ?_⟩
          have pd7 : PD w (upd H6 a (dpO w a (putP es one z x))) a (putP es one z x) := PD.put at6
          have eT : ExT H6 (upd H6 a (dpO w a (putP es one z x))) := fun b' ys hb' => by
            rw [upd_ne]
            · exact hb'
            · rintro rfl
              rw [at6.pd.own] at hb'
              cases hb'
          have b6 := e6 _ _ hb4
          have hb7 : upd H6 a (dpO w a (putP es one z x)) b = some (.lst fs) := by rw [upd_ne (Ne.symm hab)]; exact b6
          have e7 : Ex (hid H3 [a, b]) (upd H6 a (dpO w a (putP es one z x))) := Ex.mut (e4.trans e6) (hid_none (List.mem_cons_self ..))
          have dz7 := (dz.mono e6).monoT eT (eP_tup _)
          have df7 := dtAll_eP (df4.mono e6) eT
          have ent7 := (ent4.mono e6).monoT eT valA_tup
          rw [putP_new z x hnot] at pd7 eT hb7 e7 dz7 df7 ent7 ⊢
          have ent8 := ent7.snoc (e := (one, z, x)) (r := (one, some here, far3 st.1 here + 1)) rfl (show Dt _ x (eP here) from dxc.mono e7)
          have lfs := df7.length
          rw [List.length_map] at lfs
          refine s_app rfl hb7 (evd_var rfl dz7) (by omega) fun v H8 e8 dv => ?_
          have b8 := e8 _ _ hb7
          have eT8 := ext_upd (o := .lst (fs ++ [v])) b8
          have vs : visit here st one = (st.1 ++ [(one, some here, far3 st.1 here + 1)], st.2 ++ [one]) := by unfold visit; rw [if_neg hnot2]
          rw [vs]
          refine ⟨_, _, fs ++ [v], rfl, Ex.mut (e7.trans e8) (hid_none (by simp)), (pd7.mono e8).monoT eT8 (upd_ne hab), (ent8.mono e8).monoT eT8 valA_tup, upd_same, ?_⟩
          rw [List.map_append]
          exact (dtAll_eP (df7.mono e8) eT8).append (.one (dv.monoT eT8 (eP_tup _)))
        · have hin2 : one ∈ keys3 st.1 := by
            rw [← ent4.keys]
            rw [Bool.not_eq_false'] at hc1
            exact of_decide_eq_true hc1
          have vs : visit here st one = st := by unfold visit; rw [if_pos hin2]
          rw [vs]
          exact ⟨_, es, fs, rfl, e4.trans e6, pd4.mono e6, ent4.mono e6, e6 _ _ hb4, df4.mono e6⟩
      · subst g1
        rw [lcs, List.take_length] at ent4 df4
        rw [foldl_take (inner (stepsP y k)) _ hhere]
        obtain ⟨Mj, _, _⟩ := Mid.inner (here := here) (stepsP y k here) M hereIn one_ok
        exact ⟨_, _, es, fs, rfl, eHc.trans e4, pd4, ent4, hb4, df4, todo, Mj⟩
    · -- the layer's end
      subst g1
      rw [lsl, List.take_length] at ent' df' M
      have les := ent'.length
      have blen' : (((bfs (stepsP y k) p n).2.foldl (inner (stepsP y k)) ((bfs (stepsP y k) p n).1, [])).1).length ≤ 2232 := blen (n + 1)
      refine q_no (et_is (et_B (evd_gt (evd_lenP (evp_var rfl) pd') evd_cint)) (decide_eq_false (by omega))) fun H7 e7 => ?_
      exact ⟨_, rfl, b, _, _, _, es, fs, rfl, (eHb.trans e').trans e7, nHb, pd'.mono e7, ent'.mono e7, e7 _ _ hb', df'.mono e7⟩

end
end Pc
/-! the way back -/
namespace Pc
open PySem PySem.Spec PyProof.Rows L2
open Evl (Ex EvT)
def pred3 (F : List Row3) (x : Pl) : Pl := (((F.find? fun r => decide (r.1 = x)).bind (·.2.1))).getD x
def chain (F : List Row3) : Nat → Pl → List Pl
  | 0, x => [x]
  | d + 1, x => x :: chain F d (pred3 F x)
theorem find_of {F : List Row3} (nd : (keys3 F).Nodup) {r : Row3} (h : r ∈ F) : F.find? (fun s => decide (s.1 = r.1)) = some r := by
  induction F with
  | nil => exact nomatch h
  | cons x F ih =>
    unfold keys3 at nd
    rw [List.map_cons, List.nodup_cons] at nd
    rw [List.find?_cons]
    rcases List.mem_cons.mp h with b | b
    · subst b
      rw [decide_eq_true rfl]
    · have hne : ¬ x.1 = r.1 := fun e => nd.1 (by rw [e]; exact List.mem_map.mpr ⟨r, b, rfl⟩)
      rw [decide_eq_false hne]
      exact ih nd.2 b
section
variable {S : Pl → List Pl} {p0 : Pl} {Ok : Pl → Prop} {F : List Row3}
/-- a row and the one ahead of it -/
theorem Fnd.back (f : Fnd S p0 Ok F) {x : Pl} (hx : x ∈ keys3 F) : ∃ r ∈ F, r.1 = x ∧ r.2.2 = far3 F x ∧ ((r.2.1 = none ∧ x = p0 ∧ far3 F x = 0) ∨ (r.2.1 = some (pred3 F x) ∧ pred3 F x ∈ keys3 F ∧ far3 F x = far3 F (pred3 F x) + 1 ∧ x ∈ S (pred3 F x))) := by
  obtain ⟨r, hr, rfl⟩ := List.mem_map.mp hx
  have e1 := far3_of f.nd hr
  have e2 := find_of f.nd hr
  refine ⟨r, hr, rfl, e1.symm, ?_⟩
  rcases f.row r hr with ⟨a, b, c⟩ | ⟨y, hy, a, b, c⟩
  · exact .inl ⟨a, b, by rw [e1, c]⟩
  · have ep : pred3 F r.1 = y.1 := by
      unfold pred3
      rw [e2]
      show r.2.1.getD r.1 = y.1
      rw [a]
      rfl
    refine .inr ⟨by rw [ep]; exact a, by rw [ep]; exact List.mem_map.mpr ⟨y, hy, rfl⟩, ?_, by rw [ep]; exact c⟩
    rw [ep, e1, b, far3_of f.nd hy]
theorem chain_props (f : Fnd S p0 Ok F) : ∀ (d : Nat) (x : Pl), x ∈ keys3 F → far3 F x = d → (∀ z ∈ chain F d x, z ∈ keys3 F ∧ far3 F z ≤ d) ∧ (chain F d x).Nodup ∧ (chain F d x).length = d + 1 ∧ (chain F d x)[0]? = some x ∧ (chain F d x)[d]? = some p0 ∧
    ∀ i a b, (chain F d x)[i]? = some a → (chain F d x)[i + 1]? = some b → a ∈ S b
  | 0, x, hx, hd => by
    obtain ⟨r, hr, e, h1, h2⟩ := f.back hx
    rcases h2 with ⟨_, h2, _⟩ | ⟨_, _, h2, _⟩
    · refine ⟨fun z hz => ?_, List.pairwise_singleton _ _, rfl, rfl, by rw [chain, h2]; rfl, fun i a b ha hb => ?_⟩
      · rw [List.mem_singleton.mp hz]
        exact ⟨hx, Nat.le_of_eq hd⟩
      · simp [chain] at hb
    · rw [hd] at h2; omega
  | d + 1, x, hx, hd => by
    obtain ⟨r, hr, e, h1, h2⟩ := f.back hx
    rcases h2 with ⟨_, _, h2⟩ | ⟨_, hk, h2, hs⟩
    · rw [hd] at h2; omega
    · obtain ⟨a1, a2, a3, a4, a5, a6⟩ := chain_props f d (pred3 F x) hk (by omega)
      rw [chain]
      refine ⟨fun z hz => ?_, ?_, by rw [List.length_cons, a3], rfl, by rw [List.getElem?_cons_succ]; exact a5, fun i a b ha hb => ?_⟩
      · rcases List.mem_cons.mp hz with rfl | hz
        · exact ⟨hx, Nat.le_of_eq hd⟩
        · exact ⟨(a1 z hz).1, Nat.le_succ_of_le (a1 z hz).2⟩
      · rw [List.nodup_cons]
        refine ⟨fun hz => ?_, a2⟩
        have := (a1 x hz).2
        omega
      · cases i with
        | zero =>
          rw [List.getElem?_cons_zero] at ha
          rw [List.getElem?_cons_succ, a4] at hb
          cases ha
          cases hb
          exact hs
        | succ i =>
          rw [List.getElem?_cons_succ] at ha hb
          exact a6 i a b ha hb
theorem chain_ne (F : List Row3) (d : Nat) (x : Pl) : chain F d x ≠ [] := by cases d <;> simp [chain]
end
/-- shortest_way's answer -/
def wayOf (F : List Row3) (o : Pl) : PyData := if o ∈ keys3 F then .tuple ((chain F (far3 F o) o).reverse.map eP) else .none
def R_reached : List PyData → PyData → Prop := fun ds r => ∃ (q : Qy) (k : Kd) (p : Pl) (F : List Row3), (Qok q ∧ OkK q k p ∧ Few q) ∧ BfsIs q k p F ∧ ds = [eQ q, eP p, .str k.str] ∧ r = .int (F.length : Int)
theorem R_reached_len : ∀ ds d, R_reached ds d → ds.length = 3 := fun ds d ⟨_, _, _, _, _, _, e, _⟩ => by rw [e]; rfl
def R_shortest_way : List PyData → PyData → Prop := fun ds r => ∃ (q : Qy) (k : Kd) (p o : Pl) (F : List Row3), (Qok q ∧ OkK q k p ∧ OkK q k o ∧ Few q) ∧ BfsIs q k p F ∧ ds = [eQ q, eP p, eP o, .str k.str] ∧ r = wayOf F o
theorem R_shortest_way_len : ∀ ds d, R_shortest_way ds d → ds.length = 4 := fun ds d ⟨_, _, _, _, _, _, _, e, _⟩ => by rw [e]; rfl
theorem BfsIs.uniq {q : Qy} {k : Kd} {p : Pl} {F F' : List Row3} (h : BfsIs q k p F) (h' : BfsIs q k p F') : F = F' := by
  obtain ⟨n, a, rfl⟩ := h
  obtain ⟨m, b, rfl⟩ := h'
  exact bfs_same a b
theorem BfsIs.fnd {q : Qy} {k : Kd} {p : Pl} {F : List Row3} (h : BfsIs q k p F) (ok : OkK q k p) : Fnd (stepsP q k) p (OkK q k) F ∧ ∀ x ∈ keys3 F, ∀ y ∈ stepsP q k x, y ∈ keys3 F := by
  obtain ⟨n, a, rfl⟩ := h
  have B := bfs_ok (stepsP_ok (q := q) (k := k)) ok n
  refine ⟨B.fnd, fun x hx => ?_⟩
  rcases B.clo x hx with z | z
  · rw [a] at z; exact nomatch z
  · exact z
theorem bfsIs_ex {q : Qy} {k : Kd} {p : Pl} (ok : OkK q k p) (few : Few q) : ∃ F, BfsIs q k p F := ⟨_, 2232, bfs_end (stepsP_ok (q := q) (k := k)) ok (few.of k), rfl⟩
section
variable {K : PySem.W.Frag} {w : World} {σ : L2.St} {H : Hp} {te ta : TE} {ds : List PyData} {d : PyData}
/-- a reading that gives a search's dict -/
def EvB (val : Row3 → PyData) (w : World) (te : TE) (σ : L2.St) (H : Hp) (F : List Row3) : Prop := ∀ H1, Ex H H1 → ∀ Q : VK, (∀ a es H2, Ex H1 H2 → H1 a = none → PD w H2 a es → EntF val H2 es F → Q (.ref a) H2) → te σ H1 Q
theorem evb_call {val : Row3 → PyData} {enc : Qy → Kd → Pl → List PyData} {t : TA} {q : Qy} {k : Kd} {p : Pl} {F : List Row3} (ha : EvAD t σ H (enc q k p)) (h : Qok q ∧ OkK q k p ∧ Few q) (hF : BfsIs q k p F) : EvB val w (tCall (spB val w enc) [] E0 t) σ H F := fun H1 e Q qq =>
  ha H1 e _ fun vs H2 e2 dv => ⟨q, k, p, h, by rw [List.append_nil]; exact dv, fun a es F' H3 b e3 na pd en => qq a es H3 (e2.trans e3) (fresh_of e2 na) pd (by rw [hF.uniq b]; exact en)⟩
theorem q_asgB {val : Row3 → PyData} {F : List Row3} {i : Nat} {tz : TS} {D : Ends} (h : EvB val w te σ H F) (k : ∀ a es H1, Ex H H1 → H a = none → PD w H1 a es → EntF val H1 es F → tz D (σ.set i (some (.ref a))) H1) : tSeq (tAsg te (gName i)) tz D σ H := h H (Ex.refl _) _ k
theorem evd_lenB {val : Row3 → PyData} {F : List Row3} (h : EvB val w te σ H F) : EvD (tCB (rLenP w) (tCons te tNil)) σ H (.int (F.length : Nat)) := fun H1 e Q q => h H1 e _ fun a es H2 e2 na pd en => ⟨a, es, rfl, pd, by
  rw [en.length]
  exact q _ H2 e2 (.int _)⟩
def isN : PyData → Bool
  | .none => true
  | _ => false
theorem dt_isN {v : V} (h : Dt H v d) : decide (v = .non) = isN d := by cases h <;> first | rfl | exact decide_eq_false (fun z => nomatch z)
theorem evd_notN (h : EvD ta σ H d) : EvD (tOp (fun x y H Q => y = V.non ∧ Q (.bl (!decide (x = .non))) H) ta (tC .non)) σ H (.bool (!isN d)) := fun H1 e Q q => h H1 e _ fun v H2 e2 dv => ⟨rfl, by
  rw [dt_isN dv]
  exact q _ H2 e2 (.bl _)⟩
theorem evd_isN (h : EvD ta σ H d) : EvD (tOp (fun x y H Q => y = V.non ∧ Q (.bl (decide (x = .non))) H) ta (tC .non)) σ H (.bool (isN d)) := fun H1 e Q q => h H1 e _ fun v H2 e2 dv => ⟨rfl, by
  rw [dt_isN dv]
  exact q _ H2 e2 (.bl _)⟩
theorem evd_neg {i : Int} (h : EvD ta σ H (.int i)) : EvD (tUn (rU fun i => .int (-i)) ta) σ H (.int (-i)) := fun H1 e Q q => h H1 e _ fun v H2 e2 dv => ⟨i, dt_int dv, q _ H2 e2 (.int _)⟩
theorem evd_revL (h : EvD te σ H (.list ds)) : EvD (tRevL K te) σ H (.list ds.reverse) := fun H1 e Q q => h H1 e _ fun v H2 e2 dv => by
  obtain ⟨p, us, rfl, hp, kx⟩ := dt_lst dv
  exact ⟨p, us, rfl, SqL.of hp, fun l hl => q _ _ (e2.trans (ex_new hl)) (.lst upd_same (kx.reverse.mono (ex_new hl)))⟩
theorem evd_last {ds : List PyData} (h : EvD te σ H (.list ds)) (k : ds[ds.length - 1]? = some d) : EvD (tOp (rIx K) te (tUn (rU fun i => .int (-i)) (tC (.int 1)))) σ H d := evd_op h (evd_neg evd_cint) (rd_ixLb k)
end
end Pc
/-! steps: reached, shortest_way -/
namespace Pc
open PySem PySem.Spec PyProof.Rows L2
open Evl (Ex EvT)
open StX (tStar pa_star)
section
variable {P : Program} {w : World} {K : PySem.W.Frag} {mg : Str → Option Value} {base : Heap}

theorem cl_reached (G : Gs K mg) (D : Df K mg "reached" s_reached) (c_need_asked : Cl P w K mg base 12 "need_asked" (spR R_need_asked)) (c_reached_from : Cl P w K mg base 24 "reached_from" (sp_reached_from w)) : Cl P w K mg base 25 "reached" (spR R_reached) := by
  refine cl_of (k := 24) D sc_reached (fun _ _ _ _ _ _ us hl => match us, hl with | [_, _, _], _ => rfl) ?_ fun f cdv A outer s H vs Q E hr hsp => ?_
  · exact spR_len (n := 3) R_reached_len
  · obtain ⟨ds, d, hR, hk, q⟩ := hsp
    refine ⟨_, (pss_cons (ps_expr (pe_u c_need_asked hr (by omega) (by rfl) (pa_cons (pv 0) (pa_cons (pv 1) (pa_cons (pv 2) pa_nil)))))
      (pss_one (ps_ret (pe_callB (r := rLenP w) call_lenP (by rfl) G.f_len bt_len (pa_cons (pe_u c_reached_from hr (by omega) (by rfl) (pa_cons (pv 0) (pa_cons (pv 2) (pa_cons (pv 1) pa_nil)))) pa_nil))))), ?_⟩
    obtain ⟨y, k, p, F, ⟨okq, okp, few⟩, hF, rfl, rfl⟩ := hR
    obtain ⟨v1, v2, v3, rfl, h1, h2, h3⟩ := dtAll3 hk
    refine q_drop (evd_call (ead_cons (evd_var rfl h1) (ead_cons (evd_var rfl h2) (ead_cons (evd_var rfl h3) ead_nil))) ⟨y, k, p, okq, okp, rfl, rfl⟩) fun H1 e1 => ?_
    exact s_ret (evd_lenB (evb_call (ead_cons (evd_var rfl (h1.mono e1)) (ead_cons (evd_var rfl (h3.mono e1)) (ead_cons (evd_var rfl (h2.mono e1)) ead_nil))) ⟨okq, okp, few⟩ hF)) fun v H2 e2 dv => q v H2 (e1.trans e2) dv

theorem cl_shortest_way (G : Gs K mg) (D : Df K mg "shortest_way" s_shortest_way) (c_need_plan : Cl P w K mg base 6 "need_plan" (spR R_need_plan)) (c_need_asked : Cl P w K mg base 12 "need_asked" (spR R_need_asked)) (c_reached_from : Cl P w K mg base 24 "reached_from" (sp_reached_from w)) : Cl P w K mg base 25 "shortest_way" (spR R_shortest_way) := by
  refine cl_of (k := 24) D sc_shortest_way (fun _ _ _ _ _ _ us hl => match us, hl with | [_, _, _, _], _ => rfl) ?_ fun f cdv A outer s H vs Q E hr hsp => ?_
  · exact spR_len (n := 4) R_shortest_way_len
  · obtain ⟨ds, d, hR, hk, q⟩ := hsp
    refine ⟨_, (pss_cons (ps_expr (pe_u c_need_plan hr (by omega) (by rfl) (pa_cons (pv 0) (pa_cons (pv 1) pa_nil))))
      (pss_cons (ps_expr (pe_u c_need_asked hr (by omega) (by rfl) (pa_cons (pv 0) (pa_cons (pv 2) (pa_cons (pv 3) pa_nil)))))
      (pss_cons (ps_expr (pe_u c_need_asked hr (by omega) (by rfl) (pa_cons (pv 0) (pa_cons (pv 1) (pa_cons (pv 3) pa_nil)))))
      (pss_cons (ps_set (i := 4) sc_shortest_way.nd rfl (by first | exact Or.inl rfl | exact Or.inr rfl) (pe_u c_reached_from hr (by omega) (by rfl) (pa_cons (pv 0) (pa_cons (pv 3) (pa_cons (pv 1) pa_nil)))))
      (pss_cons (ps_if (pt_cmpR (r := rInP w true) (op_notInP (u16 hr)) (pv 2) (pv 4) (by rfl)) (pss_one (ps_ret pe_non)) pss_nil)
      (pss_cons (ps_set (i := 5) sc_shortest_way.nd rfl (by first | exact Or.inl rfl | exact Or.inr rfl) (pe_lst (pa_cons (pv 2) pa_nil)))
      (pss_cons (ps_while PassesOwn.never (pt_cmpR op_notN (pe_ix (r := rIxP w) (ix_P (u16 hr)) (pv 4) (pe_ix (r := rIx K) ix_seq (pv 5) (pe_un un_neg pe_int) (fun _ _ => rfl)) (fun _ _ => rfl)) pe_non (nomark _)) (pss_one (ps_expr (pe_bm PySem.F.plainAttrs_list PySem.F.slot_list_append PySem.F.type_list_append mt_append (pv 5) (pa_cons (pe_ix (r := rIxP w) (ix_P (u16 hr)) (pv 4) (pe_ix (r := rIx K) ix_seq (pv 5) (pe_un un_neg pe_int) (fun _ _ => rfl)) (fun _ _ => rfl)) pa_nil)))))
      (pss_one (ps_ret (pe_callTy (r := rTupA K) call_tuple_of (by rfl) G.f_tuple bt_tuple (pa_cons (pe_revL (pv 5)) pa_nil))))))))))), ?_⟩
    obtain ⟨y, k, p, o, F, ⟨okq, okp, oko, few⟩, hF, rfl, rfl⟩ := hR
    obtain ⟨v1, v2, v3, v4, rfl, h1, h2, h3, h4⟩ := dtAll4 hk
    obtain ⟨fnd, clo⟩ := hF.fnd okp
    have nn_of : ∀ {x}, OkK y k x → x.nn < 4 := fun {x} ok => ok.1.nn9 okq
    refine q_drop (evd_call (ead_cons (evd_var rfl h1) (ead_cons (evd_var rfl h2) ead_nil)) ⟨y, p, okq, okp.1, rfl, rfl⟩) fun H1 e1 => ?_
    refine q_drop (evd_call (ead_cons (evd_var rfl (h1.mono e1)) (ead_cons (evd_var rfl (h3.mono e1)) (ead_cons (evd_var rfl (h4.mono e1)) ead_nil))) ⟨y, k, o, okq, oko, rfl, rfl⟩) fun H2 e2 => ?_
    have e12 := e1.trans e2
    refine q_drop (evd_call (ead_cons (evd_var rfl (h1.mono e12)) (ead_cons (evd_var rfl (h2.mono e12)) (ead_cons (evd_var rfl (h4.mono e12)) ead_nil))) ⟨y, k, p, okq, okp, rfl, rfl⟩) fun H3 e3 => ?_
    have e13 := e12.trans e3
    refine q_asgB (evb_call (ead_cons (evd_var rfl (h1.mono e13)) (ead_cons (evd_var rfl (h4.mono e13)) (ead_cons (evd_var rfl (h2.mono e13)) ead_nil))) ⟨okq, okp, few⟩ hF) fun a es H4 e4 na pd en => ?_
    have e14 := e13.trans e4
    have ho := h3.mono e14
    have kd_of : ∀ {x : Pl}, OkK y k x → ∀ e ∈ es, e.1.isT = x.isT := fun {x} okx e he => isT_of (fnd.ok e.1 (by rw [← en.keys]; exact List.mem_map.mpr ⟨e, he, rfl⟩)).1 okx.1
    have n0 := nn_of oko
    refine q_when (et_test (evd_ninP (evd_var rfl ho) (evp_var rfl) pd (by omega) (kd_of oko))) (fun hc H5 e5 => ?_) (fun hc H5 e5 => ?_)
    · have hno : o ∉ keys3 F := by
        rw [Bool.not_eq_true', en.keys] at hc
        exact of_decide_eq_false hc
      refine s_ret (d := .none) evd_cnon fun v H6 e6 dv => q v H6 ((e14.trans e5).trans e6) ?_
      unfold wayOf
      rw [if_neg hno]
      exact dv
    · have hin : o ∈ keys3 F := by
        rw [Bool.not_eq_false', en.keys] at hc
        exact of_decide_eq_true hc
      have pd5 := pd.mono e5
      have en5 := en.mono e5
      refine q_asgL (ds := [eP o]) (ead_cons (evd_var rfl (ho.mono e5)) ead_nil) (by simp) fun b xs H6 e6 nb hb dxs => ?_
      have eH6 := (e14.trans e5).trans e6
      have nHb : H b = none := fresh_of (e14.trans e5) nb
      have pd6 := pd5.mono e6
      have hab : a ≠ b := by
        rintro rfl
        rw [pd5.own] at nb
        cases nb
      obtain ⟨c1, c2, c3, c4, c5, c6⟩ := chain_props fnd _ o hin rfl
      have clen : (chain F (far3 F o) o).length ≤ 2232 := few.of k _ c2 fun z hz => fnd.ok z (c1 z hz).1
      refine ⟨fun m σ' H' => ∃ zs x xs, σ' = [some v1, some v2, some v3, some v4, some (.ref a), some (.ref b)] ∧ m = far3 F x ∧ x ∈ keys3 F ∧ zs ++ chain F (far3 F x) x = chain F (far3 F o) o ∧ Ex H H' ∧ PD w H' a es ∧ EntF valA H' es F ∧ H' b = some (.lst xs) ∧ DtAll H' xs ((zs ++ [x]).map eP),
        ⟨_, [], o, xs, rfl, rfl, hin, rfl, eH6, pd6, en5.mono e6, hb, dxs⟩, ?_⟩
      rintro m σ' H' ⟨zs, x, xs, rfl, rfl, hx, hch, eH, pd', en', hb', dx'⟩
      obtain ⟨r, hr0, rx, _, hrow⟩ := fnd.back hx
      obtain ⟨v, hv, dv⟩ := en'.at fnd.nd hr0
      rw [rx] at hv
      have okx := fnd.ok x hx
      have nx := nn_of okx
      have elast : ((zs ++ [x]).map eP)[((zs ++ [x]).map eP).length - 1]? = some (eP x) := by
        rw [List.map_append, List.length_append]
        simp
      have ev : ∀ H'', Ex H' H'' → EvD (tOp (rIxP w) (tVar 4) (tOp (rIx K) (tVar 5) (tUn (rU fun i => .int (-i)) (tC (.int 1))))) [some v1, some v2, some v3, some v4, some (.ref a), some (.ref b)] H'' (valA r) := fun H'' e'' =>
        evd_ixP (evp_var rfl) (evd_last (evd_var rfl (.lst (e'' _ _ hb') (dx'.mono e''))) elast) (pd'.mono e'') (by omega) (kd_of okx) hv (dv.mono e'')
      refine et_test (evd_notN (ev H' (Ex.refl _))) H' (Ex.refl _) _ fun H7 e7 => ?_
      rcases hrow with ⟨h5, h6, h7⟩ | ⟨h5, h6, h7, h8⟩
      · have vn : valA r = .none := by unfold valA; rw [h5]
        rw [vn]
        simp only [isN, Bool.not_true, Bool.false_eq_true, if_false]
        rw [h7] at hch
        have hch' : zs ++ [x] = chain F (far3 F o) o := hch
        refine s_ret (evd_tupL (evd_revL (evd_var rfl (.lst (e7 _ _ hb') (dx'.mono e7))))) fun v H8 e8 dv8 => q v H8 ((eH.trans e7).trans e8) ?_
        unfold wayOf
        rw [if_pos hin, ← hch', List.map_reverse]
        exact dv8
      · have vy : valA r = eP (pred3 F x) := by unfold valA; rw [h5]
        have nn : isN (eP (pred3 F x)) = false := by cases pred3 F x <;> rfl
        rw [vy] at ev ⊢
        simp only [nn, Bool.not_false, if_true]
        have hch' : (zs ++ [x]) ++ chain F (far3 F (pred3 F x)) (pred3 F x) = chain F (far3 F o) o := by
          rw [← hch, h7]
          show _ = zs ++ (x :: chain F (far3 F (pred3 F x)) (pred3 F x))
          simp
        have lz : zs.length + 1 ≤ 2232 := by
          have e := congrArg List.length hch'
          rw [List.length_append, List.length_append, List.length_singleton] at e
          omega
        have lxs := dx'.length
        rw [List.length_map, List.length_append, List.length_singleton] at lxs
        refine ⟨fun σ' H' => ∃ zs x' xs, σ' = [some v1, some v2, some v3, some v4, some (.ref a), some (.ref b)] ∧ far3 F x' < far3 F x ∧ x' ∈ keys3 F ∧ zs ++ chain F (far3 F x') x' = chain F (far3 F o) o ∧ Ex H H' ∧ PD w H' a es ∧ EntF valA H' es F ∧ H' b = some (.lst xs) ∧ DtAll H' xs ((zs ++ [x']).map eP),
          fun σ' H' ⟨zs, x', xs, g1, g2, g3⟩ => ⟨_, g2, zs, x', xs, g1, rfl, g3⟩, ?_⟩
        refine s_app rfl (e7 _ _ hb') (ev H7 e7) (by omega) fun v' H8 e8 dv8 => ?_
        have b8 := e8 _ _ (e7 _ _ hb')
        have eT := ext_upd (o := .lst (xs ++ [v'])) b8
        refine ⟨zs ++ [x], pred3 F x, xs ++ [v'], rfl, by omega, h6, hch', Ex.mut ((eH.trans e7).trans e8) nHb, (pd'.mono (e7.trans e8)).monoT eT (upd_ne hab), (en'.mono (e7.trans e8)).monoT eT valA_tup, upd_same, ?_⟩
        rw [List.map_append]
        exact (dtAll_eP (dx'.mono (e7.trans e8)) eT).append (.one (dv8.monoT eT (eP_tup _)))

end
end Pc
/-! the law: what changes nothing -/
namespace Pc
open PySem PySem.Spec PyProof.Rows L2
open Evl (Ex EvT)
open StX (tStar pa_star)
section
variable {P : Program} {w : World} {K : PySem.W.Frag} {mg : Str → Option Value} {base : Heap}


abbrev R__law_parts (n : Nat) := recOf n fun p => .list (eNs p.leaves)
abbrev R__law_spelling (n : Nat) := recOf n eSpell
abbrev R__law_is_probed_right (n : Nat) := recOf n fun p => .bool p.good
def lawChanged : Pl → List Pl
  | .tab _ => []
  | .node h l r => ((hows.filter fun x => decide (x ≠ h)).map (fun w => .node w l r) ++ [.node h r l] ++ (Pl.leanL (.node h l r) ++ Pl.leanR (.node h l r))) ++ (lawChanged l).map (fun q => .node h q r) ++ (lawChanged r).map (fun q => .node h l q)
abbrev R__law_changed (n : Nat) := recOf n fun p => eL (lawChanged p)
def R__law_met : List PyData → PyData → Prop := fun ds r => ∃ (q : Qy) (L M : List Nat), q.links.length ≤ 6 ∧ ds = [eQ q, .list (eNs L), .list (eNs M)] ∧ r = .bool (joined q L M)
theorem R__law_met_len : ∀ ds d, R__law_met ds d → ds.length = 3 := fun ds d ⟨_, _, _, _, e, _⟩ => by rw [e]; rfl
def R__law_no_cross (n : Nat) : List PyData → PyData → Prop := fun ds r => ∃ (q : Qy) (p : Pl), q.links.length ≤ 6 ∧ p.nn < n ∧ ds = [eQ q, eP p] ∧ r = .bool (linked q p)
theorem R__law_no_cross_len {n : Nat} : ∀ ds d, R__law_no_cross n ds d → ds.length = 2 := fun ds d ⟨_, _, _, _, e, _⟩ => by rw [e]; rfl
theorem lawChanged_len : ∀ p : Pl, (lawChanged p).length ≤ 6 * p.nn
  | .tab _ => Nat.zero_le _
  | .node h l r => by
    have a := lawChanged_len l
    have b := lawChanged_len r
    have c := leanL_len (.node h l r)
    have d := leanR_len (.node h l r)
    have e : (hows.filter fun x => decide (x ≠ h)).length ≤ 2 := by cases h <;> decide
    rw [lawChanged, Pl.nn]
    simp only [List.length_append, List.length_map, List.length_cons, List.length_nil]
    omega

theorem cl__law_parts (G : Gs K mg) (D : Df K mg "_law_parts" s__law_parts) : ∀ n, n ≤ 9 → Cl P w K mg base (n + 1) "_law_parts" (spR (R__law_parts n))
  | 0, _ => cl_false (ps := P__law_parts) D (fun _ _ _ _ _ _ us hl => match us, hl with | [_], _ => rfl) (fun ds d ⟨p, h, _⟩ => absurd h (Nat.not_lt_zero _)) _
  | n + 1, hn => by
    have c__law_parts := cl__law_parts G D n (by omega)
    refine cl_of (k := n + 1) D sc__law_parts (fun _ _ _ _ _ _ us hl => match us, hl with | [_], _ => rfl) (spR_len recOf_len) fun f cdv A outer s H vs Q E hr hsp => ?_
    obtain ⟨ds, d, hR, hk, q⟩ := hsp
    refine ⟨_, (pss_cons (ps_if (pt_not (pt_val (pe_isi (by rfl) G.f_isinstance (by rfl) G.f_tuple bt_tuple (pv 0)))) (pss_one (ps_ret (pe_lst (pa_cons (pv 0) pa_nil)))) pss_nil)
      (pss_one (ps_ret (pe_op op_cat (pe_u c__law_parts hr (by omega) (by rfl) (pa_cons (pe_ix (r := rIx K) ix_seq (pv 0) pe_int (fun _ _ => rfl)) pa_nil)) (pe_u c__law_parts hr (by omega) (by rfl) (pa_cons (pe_ix (r := rIx K) ix_seq (pv 0) pe_int (fun _ _ => rfl)) pa_nil)))))), ?_⟩
    obtain ⟨p, hp, rfl, rfl⟩ := hR
    obtain ⟨v1, rfl, h1⟩ := dtAll1 hk
    cases p with
    | tab t =>
      refine q_when (p := true) (et_is (et_not (et_test (evd_isiP (evd_var rfl h1)))) rfl) (fun _ H1 e1 => ?_) fun h => nomatch h
      exact s_ret (d := .list [.int (t : Int)]) (evd_lst (ead_cons (evd_var rfl (h1.mono e1)) ead_nil) (by simp)) fun v H2 e2 dv => q v H2 (e1.trans e2) dv
    | node hw l r =>
      refine q_no (et_is (et_not (et_test (evd_isiP (evd_var rfl h1)))) rfl) fun H1 e1 => ?_
      have a1 := h1.mono e1
      rw [Pl.nn] at hp
      have ll := l.leaves_len
      have lr := r.leaves_len
      refine s_ret (d := .list (eNs l.leaves ++ eNs r.leaves)) (evd_cat (evd_call (ead_cons (evd_ixT (j := 1) (evd_var rfl a1) rfl) ead_nil) ⟨l, by omega, rfl, rfl⟩) (evd_call (ead_cons (evd_ixT (j := 2) (evd_var rfl a1) rfl) ead_nil) ⟨r, by omega, rfl, rfl⟩) (by rw [eNs_length, eNs_length]; omega)) fun v H2 e2 dv => q v H2 (e1.trans e2) ?_
      show Dt H2 v (.list (eNs (l.leaves ++ r.leaves)))
      rw [eNs_append]
      exact dv

theorem cl__law_spelling (G : Gs K mg) (D : Df K mg "_law_spelling" s__law_spelling) : ∀ n, n ≤ 9 → Cl P w K mg base (n + 1) "_law_spelling" (spR (R__law_spelling n))
  | 0, _ => cl_false (ps := P__law_spelling) D (fun _ _ _ _ _ _ us hl => match us, hl with | [_], _ => rfl) (fun ds d ⟨p, h, _⟩ => absurd h (Nat.not_lt_zero _)) _
  | n + 1, hn => by
    have c__law_spelling := cl__law_spelling G D n (by omega)
    refine cl_of (k := n + 1) D sc__law_spelling (fun _ _ _ _ _ _ us hl => match us, hl with | [_], _ => rfl) (spR_len recOf_len) fun f cdv A outer s H vs Q E hr hsp => ?_
    obtain ⟨ds, d, hR, hk, q⟩ := hsp
    refine ⟨_, (pss_cons (ps_if (pt_not (pt_val (pe_isi (by rfl) G.f_isinstance (by rfl) G.f_tuple bt_tuple (pv 0)))) (pss_one (ps_ret (pe_tup (pa_cons (pe_tup (pa_cons pe_str (pa_cons (pv 0) pa_nil))) pa_nil)))) pss_nil)
      (pss_one (ps_ret (pe_op (r := rCatA K) op_catA (pe_op (r := rCatA K) op_catA (pe_tup (pa_cons (pe_tup (pa_cons (pe_ix (r := rIx K) ix_seq (pv 0) pe_int (fun _ _ => rfl)) (pa_cons pe_int pa_nil))) pa_nil)) (pe_u c__law_spelling hr (by omega) (by rfl) (pa_cons (pe_ix (r := rIx K) ix_seq (pv 0) pe_int (fun _ _ => rfl)) pa_nil))) (pe_u c__law_spelling hr (by omega) (by rfl) (pa_cons (pe_ix (r := rIx K) ix_seq (pv 0) pe_int (fun _ _ => rfl)) pa_nil)))))), ?_⟩
    obtain ⟨p, hp, rfl, rfl⟩ := hR
    obtain ⟨v1, rfl, h1⟩ := dtAll1 hk
    cases p with
    | tab t =>
      refine q_when (p := true) (et_is (et_not (et_test (evd_isiP (evd_var rfl h1)))) rfl) (fun _ H1 e1 => ?_) fun h => nomatch h
      exact s_ret (d := eSpell (.tab t)) (evd_tup (ead_cons (evd_tup (ead_cons evd_cstr (ead_cons (evd_var rfl (h1.mono e1)) ead_nil)) (by simp)) ead_nil) (show 1 ≤ 100000 by omega)) fun v H2 e2 dv => q v H2 (e1.trans e2) dv
    | node hw l r =>
      refine q_no (et_is (et_not (et_test (evd_isiP (evd_var rfl h1)))) rfl) fun H1 e1 => ?_
      have a1 := h1.mono e1
      rw [Pl.nn] at hp
      have ll := spell_len l
      have lr := spell_len r
      refine s_ret (d := eSpell (.node hw l r)) ?_ fun v H2 e2 dv => q v H2 (e1.trans e2) dv
      refine evd_is (evd_catT (evd_catT (evd_tup (ead_cons (evd_tup (ead_cons (evd_ixT (j := 0) (evd_var rfl a1) rfl) (ead_cons (evd_cint (i := ((0 : Nat) : Int))) ead_nil)) (by simp)) ead_nil) (by simp)) (evd_call (ead_cons (evd_ixT (j := 1) (evd_var rfl a1) rfl) ead_nil) ⟨l, by omega, rfl, rfl⟩) ?_) (evd_call (ead_cons (evd_ixT (j := 2) (evd_var rfl a1) rfl) ead_nil) ⟨r, by omega, rfl, rfl⟩) ?_) ?_
      · simp only [List.length_cons, List.length_map, List.length_nil]; omega
      · simp only [List.length_cons, List.length_append, List.length_map, List.length_nil]; omega
      · unfold eSpell
        rw [Pl.spell, List.map_cons, List.map_append]
        rfl

theorem cl__law_is_probed_right (G : Gs K mg) (D : Df K mg "_law_is_probed_right" s__law_is_probed_right) : ∀ n, n ≤ 9 → Cl P w K mg base (n + 1) "_law_is_probed_right" (spR (R__law_is_probed_right n))
  | 0, _ => cl_false (ps := P__law_is_probed_right) D (fun _ _ _ _ _ _ us hl => match us, hl with | [_], _ => rfl) (fun ds d ⟨p, h, _⟩ => absurd h (Nat.not_lt_zero _)) _
  | n + 1, hn => by
    have c__law_is_probed_right := cl__law_is_probed_right G D n (by omega)
    refine cl_of (k := n + 1) D sc__law_is_probed_right (fun _ _ _ _ _ _ us hl => match us, hl with | [_], _ => rfl) (spR_len recOf_len) fun f cdv A outer s H vs Q E hr hsp => ?_
    obtain ⟨ds, d, hR, hk, q⟩ := hsp
    refine ⟨_, (pss_cons (ps_if (pt_not (pt_val (pe_isi (by rfl) G.f_isinstance (by rfl) G.f_tuple bt_tuple (pv 0)))) (pss_one (ps_ret pe_bl)) pss_nil)
      (pss_cons (ps_if (PW.pt (pw_and (pt_cmpR (r := rEqD K) (op_eqD hr.units) (pe_ix (r := rIx K) ix_seq (pv 0) pe_int (fun _ _ => rfl)) pe_str (nomark _)) (pw_and1 (pt_val (pe_isi (by rfl) G.f_isinstance (by rfl) G.f_tuple bt_tuple (pe_ix (r := rIx K) ix_seq (pv 0) pe_int (fun _ _ => rfl))))))) (pss_one (ps_ret pe_bl)) pss_nil)
      (pss_one (ps_ret (pe_and (pe_u c__law_is_probed_right hr (by omega) (by rfl) (pa_cons (pe_ix (r := rIx K) ix_seq (pv 0) pe_int (fun _ _ => rfl)) pa_nil)) (pe_one (pe_u c__law_is_probed_right hr (by omega) (by rfl) (pa_cons (pe_ix (r := rIx K) ix_seq (pv 0) pe_int (fun _ _ => rfl)) pa_nil)))))))), ?_⟩
    obtain ⟨p, hp, rfl, rfl⟩ := hR
    obtain ⟨v1, rfl, h1⟩ := dtAll1 hk
    cases p with
    | tab t =>
      refine q_when (p := true) (et_is (et_not (et_test (evd_isiP (evd_var rfl h1)))) rfl) (fun _ H1 e1 => ?_) fun h => nomatch h
      exact s_ret (d := .bool true) evd_cbl fun v H2 e2 dv => q v H2 (e1.trans e2) dv
    | node hw l r =>
      refine q_no (et_is (et_not (et_test (evd_isiP (evd_var rfl h1)))) rfl) fun H1 e1 => ?_
      have a1 := h1.mono e1
      rw [Pl.nn] at hp
      refine q_when (et_and (et_B (evd_eq (evd_ixT (j := 0) (evd_var rfl a1) rfl) (evd_cstr (x := How.probed.str)) (sh_how hw) (sh_how .probed))) fun _ => et_test (evd_isiP (evd_ixT (j := 2) (evd_var rfl a1) rfl))) (fun hc H2 e2 => ?_) fun hc H2 e2 => ?_
      · rw [eqv_how] at hc
        refine s_ret (d := .bool false) evd_cbl fun v H3 e3 dv => q v H3 ((e1.trans e2).trans e3) ?_
        show Dt H3 v (.bool (!(decide (hw = .probed) && !r.isT) && (l.good && r.good)))
        rw [hc]
        exact dv
      · rw [eqv_how] at hc
        have b1 := a1.mono e2
        refine s_ret (d := .bool (l.good && r.good)) (evd_and (evd_call (ead_cons (evd_ixT (j := 1) (evd_var rfl b1) rfl) ead_nil) ⟨l, by omega, rfl, rfl⟩) fun _ => evd_call (ead_cons (evd_ixT (j := 2) (evd_var rfl b1) rfl) ead_nil) ⟨r, by omega, rfl, rfl⟩) fun v H3 e3 dv => q v H3 ((e1.trans e2).trans e3) ?_
        show Dt H3 v (.bool (!(decide (hw = .probed) && !r.isT) && (l.good && r.good)))
        rw [hc]
        exact dv

theorem cl__law_met (G : Gs K mg) (D : Df K mg "_law_met" s__law_met) : Cl P w K mg base 1 "_law_met" (spR R__law_met) := by
  refine cl_of (k := 0) D sc__law_met (fun _ _ _ _ _ _ us hl => match us, hl with | [_, _, _], _ => rfl) ?_ fun f cdv A outer s H vs Q E hr hsp => ?_
  · exact spR_len (n := 3) R__law_met_len
  · obtain ⟨ds, d, hR, hk, q⟩ := hsp
    refine ⟨_, (pss_one (ps_ret (pe_cmpR (r := rNeD K) (op_neD hr.units) (pe_lc (own := [("_law_one", 3), ("_law_other", 4), ("_law_fits", 5)]) (g := (gTup K 3 (gCons (gName 3) (gCons (gName 4) (gCons (gName 5) gNil))))) rfl sc__law_met.nd (pi_tup (pe_ix (r := rIx K) ix_seq (pv 0) pe_int (fun _ _ => rfl))) (blkOk_by (own := [("_law_one", 3), ("_law_other", 4), ("_law_fits", 5)]) (N := N__law_met) (sc := defScope s__law_met) (by decide +kernel)) (fun _ _ _ _ _ => (pg_tup rfl (pgs_cons (pg_name (i := 3) sc__law_met.nd rfl (by first | exact Or.inl rfl | exact Or.inr rfl)) (pgs_cons (pg_name (i := 4) sc__law_met.nd rfl (by first | exact Or.inl rfl | exact Or.inr rfl)) (pgs_cons (pg_name (i := 5) sc__law_met.nd rfl (by first | exact Or.inl rfl | exact Or.inr rfl)) pgs_nil))))) (fun _ _ _ _ _ => (pts_one (PW.pt (pw_or (PW.pt (pw_and (pt_cmpR (r := rIn K false) op_in_seq (pv 3) (pv 1) (by rfl)) (pw_and1 (pt_cmpR (r := rIn K false) op_in_seq (pv 4) (pv 2) (by rfl))))) (pw_or1 (PW.pt (pw_and (pt_cmpR (r := rIn K false) op_in_seq (pv 3) (pv 2) (by rfl)) (pw_and1 (pt_cmpR (r := rIn K false) op_in_seq (pv 4) (pv 1) (by rfl)))))))))) (fun _ _ _ _ _ => pe_int)) (pe_lst pa_nil) (nomark _)))), ?_⟩
    obtain ⟨y, L, M, few, rfl, rfl⟩ := hR
    obtain ⟨v1, v2, v3, rfl, h1, h2, h3⟩ := dtAll3 hk
    refine s_ret (d := .bool (joined y L M)) (evd_is (evd_ne (evd_lct y.links eLink (fun l => (decide (l.1 ∈ L) && decide (l.2.1 ∈ M)) || (decide (l.1 ∈ M) && decide (l.2.1 ∈ L))) (fun _ => .int 1) (evi_tup (evd_ixT (j := 1) (evd_var rfl h1) rfl)) (fun l hl x H1 e1 dx Q' q' => ?_) (fun _ _ _ => rfl) (by omega)) (evd_lst ead_nil (by simp)) ((Sh.list (n := 1) fun d hd => ?_).shaped (by omega)) rfl) ?_) (fun v H1 e dv => q v H1 e dv)
    · refine g_tup3 dx fun a b c da db dc => q' _ rfl ?_ fun _ => evd_cint
      have b2 := h2.mono e1
      have b3 := h3.mono e1
      exact et_or (et_and (et_B (evd_inL (evd_var rfl da) (evd_var rfl b2))) fun _ => et_B (evd_inL (evd_var rfl db) (evd_var rfl b3))) fun _ => et_and (et_B (evd_inL (evd_var rfl da) (evd_var rfl b3))) fun _ => et_B (evd_inL (evd_var rfl db) (evd_var rfl b2))
    · obtain ⟨l, _, rfl⟩ := List.mem_map.mp hd
      exact sh_int _
    · rw [eqv_nil, List.isEmpty_map]
      unfold joined
      congr 1
      rw [Bool.eq_iff_iff, Bool.not_eq_true', List.isEmpty_eq_false_iff_exists_mem, List.any_eq_true]
      constructor
      · rintro ⟨l, hl⟩
        exact ⟨l, (List.mem_filter.mp hl).1, (List.mem_filter.mp hl).2⟩
      · rintro ⟨l, hl, h⟩
        exact ⟨l, List.mem_filter.mpr ⟨hl, h⟩⟩

theorem cl__law_no_cross (G : Gs K mg) (D : Df K mg "_law_no_cross" s__law_no_cross) (c__law_parts : Cl P w K mg base 10 "_law_parts" (spR (R__law_parts 9))) (c__law_met : Cl P w K mg base 1 "_law_met" (spR R__law_met)) : ∀ n, n ≤ 9 → Cl P w K mg base (n + 11) "_law_no_cross" (spR (R__law_no_cross n))
  | 0, _ => cl_false (ps := P__law_no_cross) D (fun _ _ _ _ _ _ us hl => match us, hl with | [_, _], _ => rfl) (fun ds d ⟨q, p, _, h, _⟩ => absurd h (Nat.not_lt_zero _)) _
  | n + 1, hn => by
    have c__law_no_cross := cl__law_no_cross G D c__law_parts c__law_met n (by omega)
    refine cl_of (k := n + 11) D sc__law_no_cross (fun _ _ _ _ _ _ us hl => match us, hl with | [_, _], _ => rfl) (spR_len R__law_no_cross_len) fun f cdv A outer s H vs Q E hr hsp => ?_
    obtain ⟨ds, d, hR, hk, q⟩ := hsp
    refine ⟨_, (pss_cons (ps_if (pt_not (pt_val (pe_isi (by rfl) G.f_isinstance (by rfl) G.f_tuple bt_tuple (pv 1)))) (pss_one (ps_ret pe_bl)) pss_nil)
      (pss_cons (ps_if (pt_not (pt_val (pe_u c__law_met hr (by omega) (by rfl) (pa_cons (pv 0) (pa_cons (pe_u c__law_parts hr (by omega) (by rfl) (pa_cons (pe_ix (r := rIx K) ix_seq (pv 1) pe_int (fun _ _ => rfl)) pa_nil)) (pa_cons (pe_u c__law_parts hr (by omega) (by rfl) (pa_cons (pe_ix (r := rIx K) ix_seq (pv 1) pe_int (fun _ _ => rfl)) pa_nil)) pa_nil)))))) (pss_one (ps_ret pe_bl)) pss_nil)
      (pss_one (ps_ret (pe_and (pe_u c__law_no_cross hr (by omega) (by rfl) (pa_cons (pv 0) (pa_cons (pe_ix (r := rIx K) ix_seq (pv 1) pe_int (fun _ _ => rfl)) pa_nil))) (pe_one (pe_u c__law_no_cross hr (by omega) (by rfl) (pa_cons (pv 0) (pa_cons (pe_ix (r := rIx K) ix_seq (pv 1) pe_int (fun _ _ => rfl)) pa_nil))))))))), ?_⟩
    obtain ⟨y, p, few, hp, rfl, rfl⟩ := hR
    obtain ⟨v1, v2, rfl, h1, h2⟩ := dtAll2 hk
    cases p with
    | tab t =>
      refine q_when (p := true) (et_is (et_not (et_test (evd_isiP (evd_var rfl h2)))) rfl) (fun _ H1 e1 => ?_) fun h => nomatch h
      exact s_ret (d := .bool true) evd_cbl fun v H2 e2 dv => q v H2 (e1.trans e2) dv
    | node hw l r =>
      refine q_no (et_is (et_not (et_test (evd_isiP (evd_var rfl h2)))) rfl) fun H1 e1 => ?_
      have a1 := h1.mono e1
      have a2 := h2.mono e1
      rw [Pl.nn] at hp
      refine q_when (et_not (et_test (evd_call (ead_cons (evd_var rfl a1) (ead_cons (evd_call (ead_cons (evd_ixT (j := 1) (evd_var rfl a2) rfl) ead_nil) ⟨l, by omega, rfl, rfl⟩) (ead_cons (evd_call (ead_cons (evd_ixT (j := 2) (evd_var rfl a2) rfl) ead_nil) ⟨r, by omega, rfl, rfl⟩) ead_nil))) ⟨y, l.leaves, r.leaves, few, rfl, rfl⟩))) (fun hc H2 e2 => ?_) fun hc H2 e2 => ?_
      · refine s_ret (d := .bool false) evd_cbl fun v H3 e3 dv => q v H3 ((e1.trans e2).trans e3) ?_
        rw [Bool.not_eq_true'] at hc
        show Dt H3 v (.bool (joined y l.leaves r.leaves && (linked y l && linked y r)))
        rw [hc]
        exact dv
      · rw [Bool.not_eq_false'] at hc
        refine s_ret (d := .bool (linked y l && linked y r)) (evd_and (evd_call (ead_cons (evd_var rfl (a1.mono e2)) (ead_cons (evd_ixT (j := 1) (evd_var rfl (a2.mono e2)) rfl) ead_nil)) ⟨y, l, few, by omega, rfl, rfl⟩) fun _ => evd_call (ead_cons (evd_var rfl (a1.mono e2)) (ead_cons (evd_ixT (j := 2) (evd_var rfl (a2.mono e2)) rfl) ead_nil)) ⟨y, r, few, by omega, rfl, rfl⟩) fun v H3 e3 dv => q v H3 ((e1.trans e2).trans e3) ?_
        show Dt H3 v (.bool (joined y l.leaves r.leaves && (linked y l && linked y r)))
        rw [hc]
        exact dv

end
end Pc
/-! the law: numbers, draws -/
namespace Pc
open PySem PySem.Spec PyProof.Rows L2
open Evl (Ex EvT)
open StX (tStar pa_star)
section
variable {P : Program} {w : World} {K : PySem.W.Frag} {mg : Str → Option Value} {base : Heap}


theorem u1 {k : Nat} {A : Around} (r : Room k A) : A.units + 1 < cLine := by have := r.units; omega
def mixF (c n : Int) : Int := ((c * (1 + 2 * n) * 48271) % 2147483647 + 7919 * n * n + 104729 * n) * 69621 % 2147483629 / 7
theorem mixF_range (c n : Int) : 0 ≤ mixF c n ∧ mixF c n < 400000000 := by
  unfold mixF
  generalize ((c * (1 + 2 * n) * 48271) % 2147483647 + 7919 * n * n + 104729 * n) * 69621 = z
  omega
def R__law_mixed : List PyData → PyData → Prop := fun ds r => ∃ c n : Int, (-(2 ^ 62) < c ∧ c < 2 ^ 62) ∧ (0 ≤ n ∧ n < 2 ^ 40) ∧ ds = [.int c, .int n] ∧ r = .int (mixF c n)
theorem R__law_mixed_len : ∀ ds d, R__law_mixed ds d → ds.length = 2 := fun ds d ⟨_, _, _, _, e, _⟩ => by rw [e]; rfl
section
variable {σ : L2.St} {H H' : Hp} {ta tb te : TE} {tz : TS} {D : Ends} {i j : Int} {a : Addr}
theorem evd_mul (ha : EvD ta σ H (.int i)) (hb : EvD tb σ H (.int j)) (hc : CMul i j) : EvD (tOp (rI CMul fun i j => .int (i * j)) ta tb) σ H (.int (i * j)) := evd_op ha hb (rd_I hc fun _ => .int _)
theorem evd_mod (ha : EvD ta σ H (.int i)) (hb : EvD tb σ H (.int j)) (hc : 0 < j) : EvD (tOp (rI (fun _ j => 0 < j) fun i j => .int (i % j)) ta tb) σ H (.int (i % j)) := evd_op ha hb (rd_I hc fun _ => .int _)
theorem evd_fdiv (ha : EvD ta σ H (.int i)) (hb : EvD tb σ H (.int j)) (hc : CDiv i j) : EvD (tOp (rI CDiv fun i j => .int (i / j)) ta tb) σ H (.int (i / j)) := evd_op ha hb (rd_I hc fun _ => .int _)
def rInt1 : List V → Hp → VK → Prop := fun xs H Q => (∃ i, xs = [.int i] ∧ Q (.int i) H) ∨ ∃ k, xs = [.bl k] ∧ Q (.int (if k then 1 else 0)) H
theorem evd_int1 (ha : EvD ta σ H (.int i)) : EvD (tCB rInt1 (tCons ta tNil)) σ H (.int i) := evd_cb (ead_cons ha ead_nil) fun H vs k Q q => by
  obtain ⟨x, rfl, dx⟩ := dtAll1 k
  exact .inl ⟨i, by rw [dt_int dx], q _ H (Ex.refl _) (.int _)⟩
theorem evd_intB {b : Bool} (ha : EvD ta σ H (.bool b)) : EvD (tCB rInt1 (tCons ta tNil)) σ H (.int (if b then 1 else 0)) := evd_cb (ead_cons ha ead_nil) fun H vs k Q q => by
  obtain ⟨x, rfl, dx⟩ := dtAll1 k
  exact .inr ⟨b, by rw [dt_bl dx], q _ H (Ex.refl _) (.int _)⟩
theorem evf_cat {xs ys : List PyData} (ha : EvD ta σ H (.list xs)) (hb : EvD tb σ H (.list ys)) (hz : xs.length + ys.length ≤ 100000) : EvF (tOp rCat ta tb) σ H (xs ++ ys) := fun H1 e Q q =>
  ha H1 e _ fun x H2 e2 dx => hb H2 (e.trans e2) _ fun y H3 e3 dy => by
    obtain ⟨p, us, rfl, hp, kx⟩ := dt_lst (dx.mono e3)
    obtain ⟨p', ws, rfl, hp', ky⟩ := dt_lst dy
    exact ⟨p, p', us, ws, rfl, rfl, hp, hp', sz5 (by rw [kx.length, ky.length]; exact hz), fun n hn => q _ _ _ ((e2.trans e3).trans (ex_new hn)) (fresh_of (e2.trans e3) hn) upd_same ((kx.append ky).mono (ex_new hn))⟩
/-! ### dicts of texts -/
variable {kvs : List (Key × V)} {k : Key} {v : V} {d : PyData}
theorem evd_dget {n : Nat} (hσ : σ[n]? = some (some (.ref a))) (hd : H a = some (.dK kvs)) (hk : valV kvs k = some v) (dv : Dt H v d) : EvD (tDGet (tVar n) (tC (kV k))) σ H d := fun H1 e Q q =>
  ⟨_, hσ, a, v, rfl, by rw [← hk]; exact DGet.k (e _ _ hd), q _ H1 (Ex.refl _) (dv.mono e)⟩
theorem q_dget {n m : Nat} (hσ : σ[n]? = some (some (.ref a))) (hd : H a = some (.dK kvs)) (hk : valV kvs k = some v) (q : tz D (σ.set m (some v)) H) : tSeq (tAsg (tDGet (tVar n) (tC (kV k))) (gName m)) tz D σ H :=
  ⟨_, hσ, a, v, rfl, by rw [← hk]; exact DGet.k hd, q⟩
theorem q_dput {n : Nat} (he : EvD te σ H d) (hσ : σ[n]? = some (some (.ref a))) (hd : H a = some (.dK kvs)) (hz : kvs.length < 1000) (q : ∀ v H1, Ex H H1 → Dt H1 v d → tz D σ (upd H1 a (.dK (putK kvs k v)))) : tSeq (tAsg te (gSub (tVar n) (tC (kV k)) rSetD)) tz D σ H :=
  he H (Ex.refl _) _ fun v H1 e dv => ⟨_, hσ, a, _, rfl, DPut.k (e _ _ hd) (Evl.sz_lt (by omega)), q v H1 e dv⟩
end
/-! ### the draws' state -/
abbrev kCells : Key := Sum.inr (Str.ofString "cells")
abbrev kGreat : Key := Sum.inr (Str.ofString "great")
abbrev kSpot : Key := Sum.inr (Str.ofString "spot")
def mD (c g : Addr) (n : Int) : List (Key × V) := [(kCells, .ref c), (kGreat, .ref g), (kSpot, .int n)]
theorem k_cs : decide (kCells = kSpot) = false := by decide +kernel
theorem k_gs : decide (kGreat = kSpot) = false := by decide +kernel
theorem k_cg : decide (kCells = kGreat) = false := by decide +kernel
theorem k_gc : decide (kGreat = kCells) = false := by decide +kernel
theorem k_sc : decide (kSpot = kCells) = false := by decide +kernel
theorem k_sg : decide (kSpot = kGreat) = false := by decide +kernel
theorem mD_spot (c g : Addr) (n : Int) : valV (mD c g n) (kSpot) = some (.int n) := by
  unfold mD
  rw [valV_neg (of_decide_eq_false k_cs), valV_neg (of_decide_eq_false k_gs), valV_pos rfl]
theorem mD_great (c g : Addr) (n : Int) : valV (mD c g n) (kGreat) = some (.ref g) := by
  unfold mD
  rw [valV_neg (of_decide_eq_false k_cg), valV_pos rfl]
theorem mD_cells (c g : Addr) (n : Int) : valV (mD c g n) (kCells) = some (.ref c) := by
  unfold mD
  rw [valV_pos rfl]
theorem mD_put (c g : Addr) (n z : Int) : putK (mD c g n) (kSpot) (.int z) = mD c g z := by
  unfold putK
  rw [valV_any, mD_spot]
  simp only [Option.isSome_some, if_true]
  unfold mD
  rw [List.map_cons, List.map_cons, List.map_cons, List.map_nil, if_neg (of_decide_eq_false k_cs), if_neg (of_decide_eq_false k_gs), if_pos rfl]
theorem mD_putG (c g g' : Addr) (n : Int) : putK (mD c g n) (kGreat) (.ref g') = mD c g' n := by
  unfold putK
  rw [valV_any, mD_great]
  simp only [Option.isSome_some, if_true]
  unfold mD
  rw [List.map_cons, List.map_cons, List.map_cons, List.map_nil, if_neg (of_decide_eq_false k_cg), if_pos rfl, if_neg (of_decide_eq_false k_sg)]
structure St (m c g : Addr) (B : Nat) (H : Hp) : Prop where
  ex : ∃ (n : Int) (cs gs : List Int), H m = some (.dK (mD c g n)) ∧ (0 ≤ n ∧ n ≤ (B : Int)) ∧ H c = some (.lst (cs.map V.int)) ∧ cs.length = 64 ∧ (∀ x ∈ cs, 0 ≤ x ∧ x < 2147483647) ∧ H g = some (.lst (gs.map V.int)) ∧ gs.length ≤ 63 ∧ (∀ x ∈ gs, 0 ≤ x) ∧ c ≠ g
/-- all but the draws' state stays -/
def Em (m g : Addr) (H H' : Hp) : Prop := ∀ b o, b ≠ m → b ≠ g → H b = some o → H' b = some o
theorem Em.refl {m g : Addr} {H : Hp} : Em m g H H := fun _ _ _ _ h => h
theorem Em.trans {m g : Addr} {H H1 H2 : Hp} (a : Em m g H H1) (b : Em m g H1 H2) : Em m g H H2 := fun c o h1 h2 h => b c o h1 h2 (a c o h1 h2 h)
theorem Em.of {m g : Addr} {H H' : Hp} (e : Ex H H') : Em m g H H' := fun b o _ _ h => e b o h
theorem St.mono {m c g : Addr} {B B' : Nat} {H H' : Hp} (s : St m c g B H) (e : Ex H H') (h : B ≤ B') : St m c g B' H' := by
  obtain ⟨n, cs, gs, h1, h2, h3, h4, h5, h6, h7, h8, h9⟩ := s.ex
  exact ⟨n, cs, gs, e _ _ h1, ⟨h2.1, by omega⟩, e _ _ h3, h4, h5, e _ _ h6, h7, h8, h9⟩
theorem St.extT {m c g : Addr} {B : Nat} {H H' : Hp} (s : St m c g B H) (e : Em m g H H') : ExT H H' := by
  obtain ⟨n, cs, gs, h1, h2, h3, h4, h5, h6, h7, h8, h9⟩ := s.ex
  refine fun b xs h => e b _ ?_ ?_ h
  · rintro rfl
    rw [h1] at h
    cases h
  · rintro rfl
    rw [h6] at h
    cases h
/-- a draw below lim -/
def sp__law_draw : Sp := fun vs H Q _ => ∃ (m c g : Addr) (B : Nat) (lim : Int), vs = [.ref m, .int lim] ∧ (1 ≤ lim ∧ lim < 1048576) ∧ B ≤ 1000000 ∧ St m c g B H ∧ ∀ r H', Em m g H H' → St m c g (B + 1) H' → 0 ≤ r → r < lim → Q (.int r) H'
theorem ints_at {xs : List Int} {i : Nat} {x : Int} (h : xs[i]? = some x) : (xs.map PyData.int)[i]? = some (.int x) := by rw [List.getElem?_map, h]; rfl

theorem cl__law_mixed (G : Gs K mg) (D : Df K mg "_law_mixed" s__law_mixed) : Cl P w K mg base 1 "_law_mixed" (spR R__law_mixed) := by
  refine cl_of (k := 0) D sc__law_mixed (fun _ _ _ _ _ _ us hl => match us, hl with | [_, _], _ => rfl) ?_ fun f cdv A outer s H vs Q E hr hsp => ?_
  · exact spR_len (n := 2) R__law_mixed_len
  · obtain ⟨ds, d, hR, hk, q⟩ := hsp
    refine ⟨_, (pss_cons (ps_set (i := 2) sc__law_mixed.nd rfl (by first | exact Or.inl rfl | exact Or.inr rfl) (pe_op op_add (pe_op op_add (pe_op op_mod (pe_callTy (r := rInt1) call_int1 (by rfl) G.f_int bt_int (pa_cons (pe_op op_mul (pe_op op_mul (pv 0) (pe_op op_add pe_int (pe_op op_mul pe_int (pv 1)))) pe_int) pa_nil)) pe_int) (pe_op op_mul (pe_op op_mul pe_int (pv 1)) (pv 1))) (pe_op op_mul pe_int (pv 1))))
      (pss_one (ps_ret (pe_op op_fdiv (pe_op op_mod (pe_callTy (r := rInt1) call_int1 (by rfl) G.f_int bt_int (pa_cons (pe_op op_mul (pv 2) pe_int) pa_nil)) pe_int) pe_int)))), ?_⟩
    obtain ⟨c, n, hc, hn, rfl, rfl⟩ := hR
    obtain ⟨v1, v2, rfl, h1, h2⟩ := dtAll2 hk
    refine q_asg (d := .int ((c * (1 + 2 * n) * 48271) % 2147483647 + 7919 * n * n + 104729 * n)) ?_ fun v H1 e1 dv => ?_
    · exact evd_add (evd_add (evd_mod (evd_int1 (evd_mul (evd_mul (evd_var rfl h1) (evd_add evd_cint (evd_mul evd_cint (evd_var rfl h2) (.inl (by omega)))) (.inl (by omega))) evd_cint (.inr (by omega)))) evd_cint (by omega)) (evd_mul (evd_mul evd_cint (evd_var rfl h2) (.inl (by omega))) (evd_var rfl h2) (.inr (by omega)))) (evd_mul evd_cint (evd_var rfl h2) (.inl (by omega)))
    · exact s_ret (evd_fdiv (evd_mod (evd_int1 (evd_mul (evd_var rfl dv) evd_cint (.inr (by omega)))) evd_cint (by omega)) evd_cint ⟨by omega, by omega⟩) fun v H2 e2 dv => q v H2 (e1.trans e2) dv


theorem cl__law_draw (G : Gs K mg) (D : Df K mg "_law_draw" s__law_draw) (c__law_mixed : Cl P w K mg base 1 "_law_mixed" (spR R__law_mixed)) : Cl P w K mg base 2 "_law_draw" sp__law_draw := by
  refine cl_of (k := 1) D sc__law_draw (fun _ _ _ _ _ _ us hl => match us, hl with | [_, _], _ => rfl) (fun vs H Q E ⟨m, c, g, B, lim, h, _⟩ => by rw [h]; rfl) fun f cdv A outer s H vs Q E hr hsp => ?_
  obtain ⟨m, c, g, B, lim, rfl, hlim, hB, S, q⟩ := hsp
  refine ⟨_, (pss_cons (ps_set (i := 2) sc__law_draw.nd rfl (by first | exact Or.inl rfl | exact Or.inr rfl) (pe_dget (u1 hr) (pv 0) pe_str (fun _ _ => rfl)))
      (pss_cons (ps_asg (pe_op op_add (pv 2) pe_int) (pg_sub (pv 0) pe_str (set_dict (u1 hr))))
      (pss_cons (ps_if (pt_cmpR (r := rNeD K) (op_neD hr.units) (pe_dget (u1 hr) (pv 0) pe_str (fun _ _ => rfl)) (pe_lst pa_nil) (nomark _)) (pss_cons (ps_set (i := 3) sc__law_draw.nd rfl (by first | exact Or.inl rfl | exact Or.inr rfl) (pe_dget (u1 hr) (pv 0) pe_str (fun _ _ => rfl)))
      (pss_cons (ps_set (i := 4) sc__law_draw.nd rfl (by first | exact Or.inl rfl | exact Or.inr rfl) (pe_op op_mod (pe_callTy (r := rInt1) call_int1 (by rfl) G.f_int bt_int (pa_cons (pv 2) pa_nil)) (pe_callB (r := rLenA K) call_len_seq (by rfl) G.f_len bt_len (pa_cons (pv 3) pa_nil))))
      (pss_cons (ps_set (i := 5) sc__law_draw.nd rfl (by first | exact Or.inl rfl | exact Or.inr rfl) (pe_ix (r := rIx K) ix_seq (pv 3) (pv 4) (fun _ _ => rfl)))
      (pss_one (ps_if (pt_cmpR op_gt (pv 5) pe_int (nomark _)) (pss_cons (ps_asg (pe_op op_fdiv (pv 5) (pv 1)) (pg_sub (pv 3) (pv 4) set_list))
      (pss_one (ps_ret (pe_op op_mod (pe_callTy (r := rInt1) call_int1 (by rfl) G.f_int bt_int (pa_cons (pv 5) pa_nil)) (pv 1))))) pss_nil))))) pss_nil)
      (pss_cons (ps_set (i := 3) sc__law_draw.nd rfl (by first | exact Or.inl rfl | exact Or.inr rfl) (pe_dget (u1 hr) (pv 0) pe_str (fun _ _ => rfl)))
      (pss_one (ps_ret (pe_op op_mod (pe_callTy (r := rInt1) call_int1 (by rfl) G.f_int bt_int (pa_cons (pe_u c__law_mixed hr (by omega) (by rfl) (pa_cons (pe_u c__law_mixed hr (by omega) (by rfl) (pa_cons (pe_op op_add (pe_ix (r := rIx K) ix_seq (pv 3) (pe_op op_mod (pe_callTy (r := rInt1) call_int1 (by rfl) G.f_int bt_int (pa_cons (pv 2) pa_nil)) pe_int) (fun _ _ => rfl)) (pe_op op_mul pe_int (pe_op op_fdiv (pv 2) pe_int))) (pa_cons (pv 2) pa_nil))) (pa_cons (pe_op op_add (pv 2) pe_int) pa_nil))) pa_nil)) (pv 1)))))))), ?_⟩
  obtain ⟨n, cs, gs, h1, h2, h3, h4, h5, h6, h7, h8, h9⟩ := S.ex
  refine q_dget (k := kSpot) rfl h1 (mD_spot c g n) ?_
  refine q_dput (k := kSpot) (evd_add (evd_var (d := .int n) rfl (.int n)) evd_cint) rfl h1 (by simp [mD]) fun v H1 e1 dv => ?_
  obtain rfl := dt_int dv
  rw [mD_put]
  have hcm : c ≠ m := by rintro rfl; rw [h1] at h3; cases h3
  have hgm : g ≠ m := by rintro rfl; rw [h1] at h6; cases h6
  have m2 : upd H1 m (.dK (mD c g (n + 1))) m = some (.dK (mD c g (n + 1))) := upd_same
  have c2 : upd H1 m (.dK (mD c g (n + 1))) c = some (.lst (cs.map V.int)) := by rw [upd_ne hcm]; exact e1 _ _ h3
  have g2 : upd H1 m (.dK (mD c g (n + 1))) g = some (.lst (gs.map V.int)) := by rw [upd_ne hgm]; exact e1 _ _ h6
  have em2 : Em m g H (upd H1 m (.dK (mD c g (n + 1)))) := fun b o hb _ h => by rw [upd_ne hb]; exact e1 b o h
  generalize upd H1 m (.dK (mD c g (n + 1))) = H2 at m2 c2 g2 em2
  clear h1 h3 h6 e1 dv
  have lst : ∀ {H' : Hp} {a : Addr} {xs : List Int}, H' a = some (.lst (xs.map V.int)) → Dt H' (.ref a) (.list (xs.map PyData.int)) := fun h => .lst h dtAll_of_ints
  -- the cells
  have rest : ∀ (H' : Hp) (o3 o4 o5 : Option V), Em m g H H' → H' m = some (.dK (mD c g (n + 1))) → H' c = some (.lst (cs.map V.int)) → (∃ gs' : List Int, H' g = some (.lst (gs'.map V.int)) ∧ gs'.length ≤ 63 ∧ ∀ x ∈ gs', 0 ≤ x) →
      (tSeq (tAsg (tDGet (tVar 0) (tC (.str "cells"))) (gName 3)) (tRet (tOp (rI (fun _ j => 0 < j) fun i j => .int (i % j)) (tCB rInt1 (tCons (tCall (spR R__law_mixed) [] E0 (tCons (tCall (spR R__law_mixed) [] E0 (tCons (tOp (rI0 fun i j => .int (i + j)) (tOp (rIx K) (tVar 3) (tOp (rI (fun _ j => 0 < j) fun i j => .int (i % j)) (tCB rInt1 (tCons (tVar 2) tNil)) (tC (.int 64)))) (tOp (rI CMul fun i j => .int (i * j)) (tC (.int 31)) (tOp (rI CDiv fun i j => .int (i / j)) (tVar 2) (tC (.int 64))))) (tCons (tVar 2) tNil))) (tCons (tOp (rI0 fun i j => .int (i + j)) (tVar 2) (tC (.int 7))) tNil))) tNil)) (tVar 1)))) { nx := fun _ H' => Q .non H', rt := Q } [some (.ref m), some (.int lim), some (.int n), o3, o4, o5] H' := by
    intro H' o3 o4 o5 em hm hc ⟨gs', hg', l1, l2⟩
    refine q_dget (k := kCells) rfl hm (mD_cells c g (n + 1)) ?_
    have hj : (n % 64).toNat < cs.length := by rw [h4]; omega
    have hx := List.getElem?_eq_getElem hj
    have hxr := h5 _ (List.mem_of_getElem? hx)
    have r1 := mixF_range (cs[(n % 64).toNat] + 31 * (n / 64)) n
    refine s_ret (d := .int (mixF (mixF (cs[(n % 64).toNat] + 31 * (n / 64)) n) (n + 7) % lim)) ?_ fun v H3 e3 dv => ?_
    · refine evd_mod (evd_int1 (evd_call (ead_cons (evd_call (ead_cons (evd_add (evd_op (evd_var rfl (lst hc)) (evd_is (evd_mod (evd_int1 (evd_var (d := .int n) rfl (.int n))) evd_cint (by omega)) (b := .int ((n % 64).toNat : Int)) ?_) (rd_ixL (ints_at hx))) (evd_mul evd_cint (evd_fdiv (evd_var (d := .int n) rfl (.int n)) evd_cint ⟨by omega, by omega⟩) (.inl (by omega)))) (ead_cons (evd_var (d := .int n) rfl (.int n)) ead_nil)) ⟨_, n, ?_, ?_, rfl, rfl⟩) (ead_cons (evd_add (evd_var (d := .int n) rfl (.int n)) evd_cint) ead_nil)) ⟨_, n + 7, ?_, ?_, rfl, rfl⟩)) (evd_var (d := .int lim) rfl (.int lim)) (by omega)
      · congr 1
        omega
      · omega
      · omega
      · omega
      · omega
    · obtain rfl := dt_int dv
      refine q _ H3 (em.trans (.of e3)) ⟨n + 1, cs, gs', e3 _ _ hm, by omega, e3 _ _ hc, h4, h5, e3 _ _ hg', l1, l2, h9⟩ (Int.emod_nonneg _ (by omega)) (Int.emod_lt_of_pos _ (by omega))
  have sg : SeqAt.shaped (.list (gs.map PyData.int)) = true := (Sh.list (n := 1) fun d hd => by
    obtain ⟨x, _, rfl⟩ := List.mem_map.mp hd
    exact sh_int _).shaped (by omega)
  refine q_when (et_B (evd_ne (evd_dget (k := kGreat) rfl m2 (mD_great c g (n + 1)) (lst g2)) (evd_lst ead_nil (by simp)) sg rfl)) (fun hc3 H3 e3 => ?_) (fun hc3 H3 e3 => ?_)
  · rw [eqv_nil, List.isEmpty_map, Bool.not_eq_true'] at hc3
    have gne : 0 < gs.length := by
      cases gs with
      | nil => simp at hc3
      | cons x r => simp
    have m3 := e3 _ _ m2
    have c3 := e3 _ _ c2
    have g3 := e3 _ _ g2
    have em3 := em2.trans (.of e3)
    refine q_dget (k := kGreat) rfl m3 (mD_great c g (n + 1)) ?_
    have hj : (n % (gs.length : Int)).toNat < gs.length := by
      have a := Int.emod_nonneg n (b := (gs.length : Int)) (by omega)
      have b := Int.emod_lt_of_pos n (b := (gs.length : Int)) (by omega)
      omega
    have hj2 : ((n % (gs.length : Int)).toNat : Int) = n % (gs.length : Int) := Int.toNat_of_nonneg (Int.emod_nonneg n (by omega))
    have hx := List.getElem?_eq_getElem hj
    have hx0 := h8 _ (List.mem_of_getElem? hx)
    refine q_asg (d := .int ((n % (gs.length : Int)).toNat : Int)) ?_ fun v4 H4 e4 d4 => ?_
    · refine evd_is (evd_mod (evd_int1 (evd_var (d := .int n) rfl (.int n))) (evd_lenL (evd_var rfl (lst g3))) ?_) ?_
      · rw [List.length_map]; omega
      · rw [List.length_map, hj2]
    obtain rfl := dt_int d4
    have g4 := e4 _ _ g3
    refine q_asg (d := .int gs[(n % (gs.length : Int)).toNat]) (evd_op (evd_var rfl (lst g4)) (evd_var (d := .int ((n % (gs.length : Int)).toNat : Int)) rfl (.int _)) (rd_ixL (ints_at hx))) fun v5 H5 e5 d5 => ?_
    obtain rfl := dt_int d5
    have e35 := e4.trans e5
    have g5 := e5 _ _ g4
    refine s_if (et_B (evd_gt (evd_var (d := .int gs[(n % (gs.length : Int)).toNat]) rfl (.int _)) evd_cint)) (fun hc6 H6 e6 => ?_) (fun hc6 H6 e6 => ?_)
    · have e36 := e35.trans e6
      have g6 := e6 _ _ g5
      refine (evd_fdiv (evd_var (d := .int gs[(n % (gs.length : Int)).toNat]) rfl (.int _)) (evd_var (d := .int lim) rfl (.int _)) ⟨by omega, by omega⟩ : EvD _ _ H6 _) H6 (Ex.refl _) _ fun v7 H7 e7 d7 => ?_
      obtain rfl := dt_int d7
      have g7 := e7 _ _ g6
      have e37 := e36.trans e7
      refine ⟨_, rfl, _, rfl, g, gs.map V.int, _, (n % (gs.length : Int)).toNat, rfl, rfl, g7, ?_, ?_⟩
      · unfold ixN
        rw [if_pos (by omega), List.length_map]
        first
          | rfl
          | (rw [if_pos (by omega)]; rfl)
          | (rw [if_pos (by omega)]; simp)
      · have st8 : St m c g (B + 1) (upd H7 g (.lst ((gs.map V.int).set (n % (gs.length : Int)).toNat (.int (gs[(n % (gs.length : Int)).toNat] / lim))))) := by
          refine ⟨n + 1, cs, gs.set (n % (gs.length : Int)).toNat (gs[(n % (gs.length : Int)).toNat] / lim), ?_, by omega, ?_, h4, h5, ?_, ?_, ?_, h9⟩
          · rw [upd_ne (Ne.symm hgm)]; exact e37 _ _ m3
          · rw [upd_ne h9]; exact e37 _ _ c3
          · rw [upd_same, List.map_set]
          · rw [List.length_set]; exact h7
          · intro x hx
            rcases List.mem_or_eq_of_mem_set hx with z | z
            · exact h8 x z
            · rw [z]
              exact Int.ediv_nonneg hx0 (by omega)
        have em8 : Em m g H (upd H7 g (.lst ((gs.map V.int).set (n % (gs.length : Int)).toNat (.int (gs[(n % (gs.length : Int)).toNat] / lim))))) := fun b o hb hb2 h => by
          rw [upd_ne hb2]
          exact e37 _ _ (em3 b o hb hb2 h)
        refine s_ret (evd_mod (evd_int1 (evd_var (d := .int gs[(n % (gs.length : Int)).toNat]) rfl (.int _))) (evd_var (d := .int lim) rfl (.int _)) (by omega)) fun v9 H9 e9 d9 => ?_
        obtain rfl := dt_int d9
        exact q _ H9 (em8.trans (.of e9)) (st8.mono e9 (Nat.le_refl _)) (Int.emod_nonneg _ (by omega)) (Int.emod_lt_of_pos _ (by omega))
    · have e36 := e35.trans e6
      exact rest H6 _ _ _ (em3.trans (.of e36)) (e36 _ _ m3) (e36 _ _ c3) ⟨gs, e6 _ _ g5, h7, h8⟩
  · exact rest H3 _ _ _ (em2.trans (.of e3)) (e3 _ _ m2) (e3 _ _ c2) ⟨gs, e3 _ _ g2, h7, h8⟩

end
end Pc
/-! the law: its state -/
namespace Pc
open PySem PySem.Spec PyProof.Rows L2
open Evl (Ex EvT)
open StX (tStar pa_star)
section
variable {P : Program} {w : World} {K : PySem.W.Frag} {mg : Str → Option Value} {base : Heap}


section
variable {σ : L2.St} {H H' : Hp} {te : TE} {tz : TS} {D : Ends} {a : Addr} {xs : List V} {ns : List Int} {i : Nat}
theorem sql_mono (e : Ex H H') (h : SqL K H a xs) : SqL K H' a xs := h.elim (fun h => .inl (Evl.ex_rd e h)) .inr
theorem evi_scr (hσ : σ[i]? = some (some (.ref a))) (h : SqL K H a (ns.map V.int)) : EvI (iList K (tVar i)) σ H (ns.map PyData.int) := fun H1 e R k => by
  refine ⟨_, hσ, a, rfl, ⟨_, sql_mono e h⟩, k _ H1 (Ex.refl _) ?_⟩
  rw [List.length_map, ← List.length_map (as := ns) (f := V.int)]
  refine walk_list.mono (fun H' e' => sql_mono (e.trans e') h) fun j H3 x H4 hj e' y => ?_
  have hx := y.2
  rw [List.getElem?_map] at hx
  obtain ⟨n, hn, rfl⟩ := Option.map_eq_some_iff.mp hx
  rw [y.1]
  exact ⟨Ex.refl _, .int n, by rw [List.getElem?_map, hn]; rfl, .int n⟩
/-- the walk of enumerate(list), the list alone held -/
theorem walk_enumL (a : Addr) (xs : List V) : Walk (Ite K a) xs.length (fun H => SqL K H a xs) (fun i H x H' => ∃ T z, x = .ref T ∧ H T = none ∧ H' = upd H T (.tup [.int (i : Nat), z]) ∧ xs[i]? = some z) :=
  ⟨fun i _ hi q => ⟨xs, xs[i], q, by simp [hi]⟩, fun _ q => ⟨xs, q, Nat.le_refl _⟩, fun _ _ _ _ _ q ⟨T, z, h1, h2, h3, h4⟩ => ⟨T, z, h1, h2, h3, h4 xs q⟩⟩
theorem evf_lcy {α : Type} {wi : TI} {g : TG} {vs : List Nat} (xs : List α) (enc : α → PyData) (f : α → PyData) (hw : EvI wi σ H (xs.map enc))
    (hb : ∀ a ∈ xs, ∀ x H1, Ex H H1 → Dt H1 x (enc a) → ∀ Q : L2.St → Hp → Prop, (∀ σ2, wipe σ2 vs = wipe σ vs → EvD te σ2 H1 (f a) → Q σ2 H1) → g x (wipe σ vs) H1 Q)
    (ht : ∀ a ∈ xs, tupOnly (f a) = true) (hz : xs.length ≤ 50000) : EvF (tLc wi g tYes te vs) σ H (xs.map f) := by
  have h := evf_lct (tt := tYes) (te := te) (vs := vs) (g := g) xs enc (fun _ => true) f hw (fun a ha x H1 e dx Q q => hb a ha x H1 e dx Q fun σ2 hσ hE => q σ2 hσ evt_yes fun _ => hE) (fun a ha _ => ht a ha) hz
  have e : xs.filter (fun _ => true) = xs := List.filter_eq_self.mpr fun _ _ => rfl
  rw [e] at h
  exact h
theorem ixN_nat {n k : Nat} (h : k < n) : ixN n (k : Int) = some k := by
  unfold ixN
  rw [if_pos (by omega), if_pos (by omega)]
  simp
theorem q_asgFT {es : List PyData} {gt : TG} (h : EvF te σ H es) (k : ∀ a xs H1, Ex H H1 → H a = none → H1 a = some (.lst xs) → DtAll H1 xs es → gt (.ref a) σ H1 fun σ' H' => tz D σ' H') : tSeq (tAsg te gt) tz D σ H := h H (Ex.refl _) _ k
/-- xs[i] = z, a list of ints -/
theorem s_setL {ti : TE} {z : Int} {j : Nat} (he : EvD te σ H (.int z)) (hσ : σ[i]? = some (some (.ref a))) (hi : EvD ti σ H (.int (j : Int))) (hl : H a = some (.lst (ns.map V.int))) (hj : j < ns.length)
    (k : ∀ H1, Ex H H1 → D.nx σ (upd H1 a (.lst ((ns.set j z).map V.int)))) : tAsg te (gSub (tVar i) ti rSetL) D σ H :=
  he H (Ex.refl _) _ fun v H1 e1 dv => ⟨_, hσ, hi H1 e1 _ fun w H2 e2 dw => ⟨a, ns.map V.int, (j : Int), j, rfl, dt_int dw, (e1.trans e2) _ _ hl, by rw [List.length_map]; exact ixN_nat hj, by
    have h := k H2 (e1.trans e2)
    rw [List.map_set, ← dt_int dv] at h
    exact h⟩⟩
theorem dt_ints (h : H a = some (.lst (ns.map V.int))) : Dt H (.ref a) (.list (ns.map PyData.int)) := .lst h dtAll_of_ints
end
abbrev Cells (cs : List Int) : Prop := cs.length = 64 ∧ ∀ x ∈ cs, 0 ≤ x ∧ x < 2147483647
theorem Cells.set {cs : List Int} (h : Cells cs) (j : Nat) {z : Int} (hz : 0 ≤ z ∧ z < 2147483647) : Cells (cs.set j z) := ⟨by rw [List.length_set]; exact h.1, fun x hx => (List.mem_or_eq_of_mem_set hx).elim (h.2 x) fun e => e ▸ hz⟩
def sp__law_folded (K : PySem.W.Frag) : Sp := fun vs H Q _ => ∃ (a : Addr) (ns : List Int), vs = [.ref a] ∧ SqL K H a (ns.map V.int) ∧ ns.length ≤ 63 ∧ ∀ c cs H', Ex H H' → H c = none → H' c = some (.lst (cs.map V.int)) → Cells cs → Q (.ref c) H'
def sp__law_begun (K : PySem.W.Frag) : Sp := fun vs H Q _ => ∃ (a : Addr) (ns : List Int), vs = [.ref a] ∧ SqL K H a (ns.map V.int) ∧ ns.length ≤ 63 ∧ ∀ m c g H', Ex H H' → H m = none → H g = none → St m c g 0 H' → Q (.ref m) H'


theorem cl__law_folded (G : Gs K mg) (D : Df K mg "_law_folded" s__law_folded) : Cl P w K mg base 1 "_law_folded" (sp__law_folded K) := by
  refine cl_of (k := 0) D sc__law_folded (fun _ _ _ _ _ _ us hl => match us, hl with | [_], _ => rfl) (fun vs H Q E ⟨a, ns, h, _⟩ => by rw [h]; rfl) fun f cdv A outer s H vs Q E hr hsp => ?_
  obtain ⟨a, ns, rfl, hS, few, q⟩ := hsp
  refine ⟨_, (pss_cons (ps_setLc (i := 1) (own := [("_law_n", 2)]) (g := (gName 2)) (tt := tYes) rfl sc__law_folded.nd rfl rfl (sw_true rfl rfl rfl (by decide +kernel)) (pi_range1 (by rfl) G.f_range (pa_cons pe_int pa_nil)) (blkOk_by (own := [("_law_n", 2)]) (N := N__law_folded) (sc := defScope s__law_folded) (by decide +kernel)) (fun _ _ _ _ _ => (pg_name (i := 2) sc__law_folded.nd rfl (by first | exact Or.inl rfl | exact Or.inr rfl))) (fun _ _ _ _ _ => pts_nil) (fun _ _ _ _ _ => (pe_op op_add pe_int (pv 2))))
      (pss_cons (ps_for PassesOwn.never rfl (pi_enum (by rfl) G.f_enumerate (pa_cons (pv 0) pa_nil)) (pg_tup rfl (pgs_cons (pg_name (i := 2) sc__law_folded.nd rfl (by first | exact Or.inl rfl | exact Or.inr rfl)) (pgs_cons (pg_name (i := 3) sc__law_folded.nd rfl (by first | exact Or.inl rfl | exact Or.inr rfl)) pgs_nil))) (pss_one (ps_asg (pe_op op_mod (pe_callTy (r := rInt1) call_int1 (by rfl) G.f_int bt_int (pa_cons (pe_op op_add (pe_op op_mul (pe_ix (r := rIx K) ix_seq (pv 1) (pe_op op_mod (pe_callTy (r := rInt1) call_int1 (by rfl) G.f_int bt_int (pa_cons (pv 2) pa_nil)) pe_int) (fun _ _ => rfl)) pe_int) (pv 3)) pa_nil)) pe_int) (pg_sub (pv 1) (pe_op op_mod (pe_callTy (r := rInt1) call_int1 (by rfl) G.f_int bt_int (pa_cons (pv 2) pa_nil)) pe_int) set_list))))
      (pss_cons (ps_for PassesOwn.never rfl (pi_range2 (by rfl) G.f_range (pa_cons pe_int (pa_cons pe_int pa_nil))) (pg_name (i := 2) sc__law_folded.nd rfl (by first | exact Or.inl rfl | exact Or.inr rfl)) (pss_one (ps_asg (pe_op op_mod (pe_callTy (r := rInt1) call_int1 (by rfl) G.f_int bt_int (pa_cons (pe_op op_add (pe_ix (r := rIx K) ix_seq (pv 1) (pv 2) (fun _ _ => rfl)) (pe_op op_mul (pe_ix (r := rIx K) ix_seq (pv 1) (pe_op op_sub (pv 2) pe_int) (fun _ _ => rfl)) pe_int)) pa_nil)) pe_int) (pg_sub (pv 1) (pv 2) set_list))))
      (pss_one (ps_ret (pv 1)))))), ?_⟩
  have i64 : EvI (iRng1 (tCons (tC (.int 64)) tNil)) (start N__law_folded [V.ref a]) H ((List.range 64).map fun i : Nat => PyData.int (0 + (i : Int))) := evi_range1 (n := 64) (ead_cons (evd_cint (i := ((64 : Nat) : Int))) ead_nil) (by omega)
  refine q_asgF (es := (List.range 64).map fun i : Nat => PyData.int (17 + (0 + (i : Int)))) (evf_lcy (List.range 64) (fun i : Nat => PyData.int (0 + (i : Int))) _ i64 (fun i hi x H1 e1 dx Q' q' => q' _ rfl (evd_add evd_cint (evd_var rfl dx))) (fun _ _ => rfl) (by simp)) fun l xs H1 e1 nl hl dl => ?_
  have hl0 : H1 l = some (.lst (((List.range 64).map fun i : Nat => 17 + (0 + (i : Int))).map V.int)) := by
    have e : (List.range 64).map (fun i : Nat => PyData.int (17 + (0 + (i : Int)))) = ((List.range 64).map fun i : Nat => 17 + (0 + (i : Int))).map PyData.int := by rw [List.map_map]; rfl
    rw [e] at dl
    rw [hl, dtAll_ints dl]
  have cl0 : Cells ((List.range 64).map fun i : Nat => 17 + (0 + (i : Int))) := by
    refine ⟨by simp, fun x hx => ?_⟩
    obtain ⟨i, hi, rfl⟩ := List.mem_map.mp hx
    have := List.mem_range.mp hi
    omega
  clear hl dl i64
  generalize (List.range 64).map (fun i : Nat => 17 + (0 + (i : Int))) = cs0 at hl0 cl0
  have ent : ∀ H', Ex H H' → SqL K H' a (ns.map V.int) := fun H' e => sql_mono e hS
  refine ⟨_, rfl, a, ns.map V.int, rfl, sql_mono e1 hS, ?_⟩
  refine for_it (walk_enumL a (ns.map V.int)) (fun i σ' H' => ∃ o2 o3 cs, σ' = [some (.ref a), some (.ref l), o2, o3] ∧ Ex H H' ∧ H' l = some (.lst (cs.map V.int)) ∧ Cells cs) ⟨_, _, cs0, rfl, e1, hl0, cl0⟩
    (fun i σ' H' _ ⟨_, _, _, _, e', _⟩ => ent _ e') (fun i x σ' H' H'' hi ⟨o2, o3, cs, g1, e', hl', cl'⟩ yv => ?_) (fun σ' H' ⟨o2, o3, cs, g1, e', hl', cl'⟩ => ?_)
  · subst g1
    obtain ⟨T, z, rfl, hT, rfl, hz⟩ := yv
    rw [List.getElem?_map] at hz
    obtain ⟨cell, _, rfl⟩ := Option.map_eq_some_iff.mp hz
    have eT : Ex H' (upd H' T (.tup [.int (i : Nat), .int cell])) := ex_new hT
    have hl2 := eT _ _ hl'
    have e2 := e'.trans eT
    have dT : Dt (upd H' T (.tup [.int (i : Nat), .int cell])) (.ref T) (.tuple [.int (i : Nat), .int cell]) := .tup upd_same (.cons (.int _) (.one (.int _)))
    generalize upd H' T (.tup [.int (i : Nat), .int cell]) = H2 at dT hl2 e2 ⊢
    refine g_tup2 dT fun x y dx dy => ?_
    have hj : i % 64 < cs.length := by rw [cl'.1]; omega
    have hx := List.getElem?_eq_getElem hj
    have hr' := cl'.2 _ (List.mem_of_getElem? hx)
    have idx : ∀ {σ' : L2.St}, EvD (tVar 2) σ' H2 (.int (i : Nat)) → EvD (tOp (rI (fun _ j => 0 < j) fun i j => .int (i % j)) (tCB rInt1 (tCons (tVar 2) tNil)) (tC (.int 64))) σ' H2 (.int ((i % 64 : Nat) : Int)) := fun h => evd_is (evd_mod (evd_int1 h) evd_cint (by omega)) (by congr 1)
    refine s_setL (z := (cs[i % 64] * 48271 + cell) % 2147483647) (evd_mod (evd_int1 (evd_add (evd_mul (evd_op (evd_var rfl (dt_ints hl2)) (idx (evd_var rfl dx)) (rd_ixL (ints_at hx))) evd_cint (.inr (by omega))) (evd_var rfl dy))) evd_cint (by omega)) rfl (idx (evd_var rfl dx)) hl2 hj fun H3 e3 => ?_
    exact ⟨_, _, _, rfl, Ex.mut (e2.trans e3) nl, upd_same, cl'.set _ ⟨Int.emod_nonneg _ (by omega), Int.emod_lt_of_pos _ (by omega)⟩⟩
  · subst g1
    refine ⟨1, 64, rfl, ⟨by omega, by omega, by omega, by omega⟩, ?_⟩
    refine for_it (walk_range (lo := 1) (n := 63)) (fun i σ' H' => ∃ o2 o3 cs, σ' = [some (.ref a), some (.ref l), o2, o3] ∧ Ex H H' ∧ H' l = some (.lst (cs.map V.int)) ∧ Cells cs) ⟨_, _, cs, rfl, e', hl', cl'⟩
      (fun i σ' H' _ _ => True.intro) (fun i x σ' H' H'' hi ⟨o2, o3, cs, g1, e', hl', cl'⟩ yv => ?_) (fun σ' H' ⟨o2, o3, cs, g1, e', hl', cl'⟩ => ?_)
    · subst g1
      obtain ⟨rfl, rfl⟩ := yv
      have h1 : i + 1 < cs.length := by rw [cl'.1]; omega
      have h0 : i < cs.length := by omega
      have x1 := List.getElem?_eq_getElem h1
      have x0 := List.getElem?_eq_getElem h0
      have r1 := cl'.2 _ (List.mem_of_getElem? x1)
      have r0 := cl'.2 _ (List.mem_of_getElem? x0)
      have iv : EvD (tVar 2) [some (.ref a), some (.ref l), some (.int (1 + (i : Nat))), o3] H'' (.int ((i + 1 : Nat) : Int)) := evd_is (evd_var (d := .int (1 + (i : Nat))) rfl (.int _)) (by congr 1; omega)
      refine s_setL (z := (cs[i + 1] + cs[i] * 16807) % 2147483647) (evd_mod (evd_int1 (evd_add (evd_op (evd_var rfl (dt_ints hl')) iv (rd_ixL (ints_at x1))) (evd_mul (evd_op (evd_var rfl (dt_ints hl')) (evd_is (evd_sub iv evd_cint) (b := .int (i : Int)) (by congr 1; omega)) (rd_ixL (ints_at x0))) evd_cint (.inr (by omega))))) evd_cint (by omega)) rfl iv hl' h1 fun H3 e3 => ?_
      exact ⟨_, _, _, rfl, Ex.mut (e'.trans e3) nl, upd_same, cl'.set _ ⟨Int.emod_nonneg _ (by omega), Int.emod_lt_of_pos _ (by omega)⟩⟩
    · subst g1
      exact ⟨_, rfl, q l cs _ e' nl hl' cl'⟩


theorem cl__law_begun (G : Gs K mg) (D : Df K mg "_law_begun" s__law_begun) (c__law_folded : Cl P w K mg base 1 "_law_folded" (sp__law_folded K)) : Cl P w K mg base 2 "_law_begun" (sp__law_begun K) := by
  refine cl_of (k := 1) D sc__law_begun (fun _ _ _ _ _ _ us hl => match us, hl with | [_], _ => rfl) (fun vs H Q E ⟨a, ns, h, _⟩ => by rw [h]; rfl) fun f cdv A outer s H vs Q E hr hsp => ?_
  obtain ⟨a, ns, rfl, hS, few, q⟩ := hsp
  refine ⟨_, (pss_cons (ps_set (i := 1) sc__law_begun.nd rfl (by first | exact Or.inl rfl | exact Or.inr rfl) (pe_disp (pps_cons pe_str (pe_u c__law_folded hr (by omega) (by rfl) (pa_cons (pv 0) pa_nil)) (pps_cons pe_str (pe_lst pa_nil) (pps_cons pe_str pe_int pps_nil))) (by rfl) (by rfl) (by simp) (by decide)))
      (pss_cons (ps_asg (pe_lc (own := [("_law_cell", 2)]) (g := (gName 2)) (tt := tYes) rfl sc__law_begun.nd (pi_list (pv 0)) (blkOk_by (own := [("_law_cell", 2)]) (N := N__law_begun) (sc := defScope s__law_begun) (by decide +kernel)) (fun _ _ _ _ _ => (pg_name (i := 2) sc__law_begun.nd rfl (by first | exact Or.inl rfl | exact Or.inr rfl))) (fun _ _ _ _ _ => pts_nil) (fun _ _ _ _ _ => (pe_ifExp (pt_cmpR op_ge (pv 2) (pe_op op_pow pe_int pe_int) (nomark _)) (pv 2) pe_int))) (pg_sub (pv 1) pe_str (set_dict (u1 hr))))
      (pss_one (ps_ret (pv 1))))), ?_⟩
  refine fun m nm => ?_
  have e0 : Ex H (upd H m (.dK [])) := ex_new nm
  refine ⟨_, rfl, a, ns, rfl, sql_mono e0 hS, few, fun c cs H1 e1 nc hc cl => ?_⟩
  refine ⟨(by decide), fun g1 ng1 => ?_⟩
  have e2 : Ex H1 (upd H1 g1 (.lst [])) := ex_new ng1
  have m2 : upd H1 g1 (.lst []) m = some (.dK []) := e2 _ _ (e1 _ _ upd_same)
  refine ⟨m2, [(kCells, .ref c), (kGreat, .ref g1), (kSpot, .int 0)], rfl, (by simp), ?_⟩
  have em : mergeK [] [(kCells, V.ref c), (kGreat, V.ref g1), (kSpot, V.int 0)] = mD c g1 0 := by
    have p1 : putK ([] : List (Key × V)) kCells (.ref c) = [(kCells, .ref c)] := putK_new _ rfl
    have p2 : putK [(kCells, V.ref c)] kGreat (.ref g1) = [(kCells, .ref c), (kGreat, .ref g1)] := putK_new _ (by rw [valV_neg (of_decide_eq_false k_cg)]; rfl)
    have p3 : putK [(kCells, V.ref c), (kGreat, .ref g1)] kSpot (.int 0) = mD c g1 0 := putK_new _ (by rw [valV_neg (of_decide_eq_false k_cs), valV_neg (of_decide_eq_false k_gs)]; rfl)
    show putK (putK (putK [] kCells (.ref c)) kGreat (.ref g1)) kSpot (.int 0) = _
    rw [p1, p2, p3]
  rw [em]
  have hcm : c ≠ m := by
    rintro rfl
    rw [upd_same] at nc
    cases nc
  have c2 : upd H1 g1 (.lst []) c = some (.lst (cs.map V.int)) := e2 _ _ hc
  have eH2 : Ex H (upd (upd H1 g1 (.lst [])) m (.dK (mD c g1 0))) := Ex.mut ((e0.trans e1).trans e2) nm
  have mm : upd (upd H1 g1 (.lst [])) m (.dK (mD c g1 0)) m = some (.dK (mD c g1 0)) := upd_same
  have cc : upd (upd H1 g1 (.lst [])) m (.dK (mD c g1 0)) c = some (.lst (cs.map V.int)) := by rw [upd_ne hcm]; exact c2
  generalize upd (upd H1 g1 (.lst [])) m (.dK (mD c g1 0)) = H3 at mm cc eH2
  refine q_asgFT (evf_lcy ns PyData.int (fun x => .int (if 10 ^ 18 ≤ x then x else 0)) (evi_scr rfl (sql_mono eH2 hS)) (fun x hx vx H4 e4 dx Q' q' => q' (List.set [some (.ref a), some (.ref m), none] 2 (some vx)) rfl ?_) (fun _ _ => rfl) (by omega)) fun g xs H4 e4 ng hg dg => ?_
  · refine evd_if (et_B (evd_op (d := .bool (decide ((10 : Int) ^ 18 ≤ x))) (evd_var rfl dx) (evd_op (evd_cint (i := 10)) (evd_cint (i := 18)) (rd_I (g := fun i j => .int (i ^ j.toNat)) ⟨by omega, by omega, by decide⟩ fun _ => .int _)) (rd_I0 fun _ => .bl _))) (fun h => ?_) (fun h => ?_)
    · rw [if_pos (of_decide_eq_true h)]
      exact evd_var rfl dx
    · rw [if_neg (of_decide_eq_false h)]
      exact evd_cint
  · have ex : xs = (ns.map fun x : Int => if 10 ^ 18 ≤ x then x else 0).map V.int := by
      refine dtAll_ints (H := H4) ?_
      rw [List.map_map]
      exact dg
    subst ex
    refine ⟨_, rfl, m, _, rfl, DPut.k (k := kGreat) (e4 _ _ mm) (Evl.sz_lt (by simp [mD])), ?_⟩
    rw [mD_putG]
    have hgm : g ≠ m := by
      rintro rfl
      rw [mm] at ng
      cases ng
    have hcg : c ≠ g := by
      rintro rfl
      rw [cc] at ng
      cases ng
    refine ⟨_, rfl, q m c g _ (Ex.mut (eH2.trans e4) nm) nm (fresh_of eH2 ng) ⟨0, cs, ns.map fun x : Int => if 10 ^ 18 ≤ x then x else 0, upd_same, by omega, by rw [upd_ne hcm]; exact e4 _ _ cc, cl.1, cl.2, by rw [upd_ne hgm]; exact hg, by rw [List.length_map]; exact few, fun x hx => ?_, hcg⟩⟩
    obtain ⟨z, _, rfl⟩ := List.mem_map.mp hx
    show 0 ≤ if (10 : Int) ^ 18 ≤ z then z else 0
    split
    · have : (0 : Int) ≤ 10 ^ 18 := by decide
      omega
    · omega

end
end Pc
/-! the law: changes -/
namespace Pc
open PySem PySem.Spec PyProof.Rows L2
open Evl (Ex EvT)
open StX (tStar pa_star)
section
variable {P : Program} {w : World} {K : PySem.W.Frag} {mg : Str → Option Value} {base : Heap}


section
variable {σ : L2.St} {H B : Hp} {te : TE} {tt : TT} {tz : TS} {D : Ends} {a : Addr} {xs : List V} {i : Nat} {p : Bool} {ds : List PyData} {d : PyData}
theorem evd_up {H' : Hp} (h : EvD te σ H d) (e : Ex H H') : EvD te σ H' d := fun H2 e2 => h H2 (e.trans e2)
/-- if c: xs.append(d) -/
theorem q_appIf (hT : EvT tt σ H p) (hσ : σ[i]? = some (some (.ref a))) (na : B a = none) (eB : Ex B H) (ha : H a = some (.lst xs)) (dx : DtAll H xs ds) (hz : ds.length < 50000) (ht : tupOnlyAll ds = true) (htd : p = true → tupOnly d = true) (he : p = true → EvD te σ H d)
    (k : ∀ H' xs', Ex B H' → H' a = some (.lst xs') → DtAll H' xs' (ds ++ if p then [d] else []) → tz D σ H') : tSeq (tIfS tt (tDrop (tBM K "list" rAppend (tVar i) (tCons te tNil))) tNext) tz D σ H := by
  refine q_when hT (fun hp H1 e1 => ?_) fun hp H1 e1 => ?_
  · refine s_app (d := d) hσ (e1 _ _ ha) (evd_up (he hp) e1) (by rw [dx.length]; omega) fun v H2 e2 dv => ?_
    have a2 := e2 _ _ (e1 _ _ ha)
    refine k _ (xs ++ [v]) (Ex.mut ((eB.trans e1).trans e2) na) upd_same ?_
    rw [if_pos hp]
    refine ((dx.mono (e1.trans e2)).append (.one dv)).monoT (ext_upd a2) (tupOnlyAll_append ht ?_)
    rw [tupOnlyAll, htd hp]
    rfl
  · refine k H1 xs (eB.trans e1) (e1 _ _ ha) ?_
    rw [if_neg (by rw [hp]; exact Bool.false_ne_true), List.append_nil]
    exact dx.mono e1
end
def leanLd (hw : How) (r : Pl) : Pl → PyData
  | .node h' x y => eP (.node h' x (.node hw y r))
  | _ => .none
def leanRd (hw : How) (l : Pl) : Pl → PyData
  | .node h' x y => eP (.node h' (.node hw l x) y)
  | _ => .none
theorem hows_len (h : How) : (hows.filter fun x => decide (x ≠ h)).length ≤ 2 := by cases h <;> decide

theorem cl__law_changed (G : Gs K mg) (D : Df K mg "_law_changed" s__law_changed) : ∀ n, n ≤ 9 → Cl P w K mg base (n + 1) "_law_changed" (spR (R__law_changed n))
  | 0, _ => cl_false (ps := P__law_changed) D (fun _ _ _ _ _ _ us hl => match us, hl with | [_], _ => rfl) (fun ds d ⟨p, h, _⟩ => absurd h (Nat.not_lt_zero _)) _
  | n + 1, hn => by
    have c__law_changed := cl__law_changed G D n (by omega)
    refine cl_of (k := n + 1) D sc__law_changed (fun _ _ _ _ _ _ us hl => match us, hl with | [_], _ => rfl) (spR_len recOf_len) fun f cdv A outer s H vs Q E hr hsp => ?_
    obtain ⟨ds, d, hR, hk, q⟩ := hsp
    refine ⟨_, (pss_cons (ps_if (pt_not (pt_val (pe_isi (by rfl) G.f_isinstance (by rfl) G.f_tuple bt_tuple (pv 0)))) (pss_one (ps_ret (pe_lst pa_nil))) pss_nil)
      (pss_cons (ps_asg (pv 0) (pg_tup rfl (pgs_cons (pg_name (i := 1) sc__law_changed.nd rfl (by first | exact Or.inl rfl | exact Or.inr rfl)) (pgs_cons (pg_name (i := 2) sc__law_changed.nd rfl (by first | exact Or.inl rfl | exact Or.inr rfl)) (pgs_cons (pg_name (i := 3) sc__law_changed.nd rfl (by first | exact Or.inl rfl | exact Or.inr rfl)) pgs_nil)))))
      (pss_cons (ps_set (i := 4) sc__law_changed.nd rfl (by first | exact Or.inl rfl | exact Or.inr rfl) (pe_op op_cat (pe_lc (own := [("_law_word", 5)]) (g := (gName 5)) rfl sc__law_changed.nd (pi_tup (pe_tup (pa_cons pe_str (pa_cons pe_str (pa_cons pe_str pa_nil))))) (blkOk_by (own := [("_law_word", 5)]) (N := N__law_changed) (sc := defScope s__law_changed) (by decide +kernel)) (fun _ _ _ _ _ => (pg_name (i := 5) sc__law_changed.nd rfl (by first | exact Or.inl rfl | exact Or.inr rfl))) (fun _ _ _ _ _ => (pts_one (pt_cmpR (r := rNeD K) (op_neD hr.units) (pv 5) (pv 1) (nomark _)))) (fun _ _ _ _ _ => (pe_tup (pa_cons (pv 5) (pa_cons (pv 2) (pa_cons (pv 3) pa_nil)))))) (pe_lst (pa_cons (pe_tup (pa_cons (pv 1) (pa_cons (pv 3) (pa_cons (pv 2) pa_nil)))) pa_nil))))
      (pss_cons (ps_if (pt_val (pe_isi (by rfl) G.f_isinstance (by rfl) G.f_tuple bt_tuple (pv 2))) (pss_one (ps_expr (pe_bm PySem.F.plainAttrs_list PySem.F.slot_list_append PySem.F.type_list_append mt_append (pv 4) (pa_cons (pe_tup (pa_cons (pe_ix (r := rIx K) ix_seq (pv 2) pe_int (fun _ _ => rfl)) (pa_cons (pe_ix (r := rIx K) ix_seq (pv 2) pe_int (fun _ _ => rfl)) (pa_cons (pe_tup (pa_cons (pv 1) (pa_cons (pe_ix (r := rIx K) ix_seq (pv 2) pe_int (fun _ _ => rfl)) (pa_cons (pv 3) pa_nil)))) pa_nil)))) pa_nil)))) pss_nil)
      (pss_cons (ps_if (pt_val (pe_isi (by rfl) G.f_isinstance (by rfl) G.f_tuple bt_tuple (pv 3))) (pss_one (ps_expr (pe_bm PySem.F.plainAttrs_list PySem.F.slot_list_append PySem.F.type_list_append mt_append (pv 4) (pa_cons (pe_tup (pa_cons (pe_ix (r := rIx K) ix_seq (pv 3) pe_int (fun _ _ => rfl)) (pa_cons (pe_tup (pa_cons (pv 1) (pa_cons (pv 2) (pa_cons (pe_ix (r := rIx K) ix_seq (pv 3) pe_int (fun _ _ => rfl)) pa_nil)))) (pa_cons (pe_ix (r := rIx K) ix_seq (pv 3) pe_int (fun _ _ => rfl)) pa_nil)))) pa_nil)))) pss_nil)
      (pss_cons (ps_set (i := 4) sc__law_changed.nd rfl (by first | exact Or.inl rfl | exact Or.inr rfl) (pe_op op_cat (pv 4) (pe_lc (own := [("_law_one", 6)]) (g := (gName 6)) (tt := tYes) rfl sc__law_changed.nd (pi_list (pe_u c__law_changed hr (by omega) (by rfl) (pa_cons (pv 2) pa_nil))) (blkOk_by (own := [("_law_one", 6)]) (N := N__law_changed) (sc := defScope s__law_changed) (by decide +kernel)) (fun _ _ _ _ _ => (pg_name (i := 6) sc__law_changed.nd rfl (by first | exact Or.inl rfl | exact Or.inr rfl))) (fun _ _ _ _ _ => pts_nil) (fun _ _ _ _ _ => (pe_tup (pa_cons (pv 1) (pa_cons (pv 6) (pa_cons (pv 3) pa_nil))))))))
      (pss_one (ps_ret (pe_op op_cat (pv 4) (pe_lc (own := [("_law_one", 6)]) (g := (gName 6)) (tt := tYes) rfl sc__law_changed.nd (pi_list (pe_u c__law_changed hr (by omega) (by rfl) (pa_cons (pv 3) pa_nil))) (blkOk_by (own := [("_law_one", 6)]) (N := N__law_changed) (sc := defScope s__law_changed) (by decide +kernel)) (fun _ _ _ _ _ => (pg_name (i := 6) sc__law_changed.nd rfl (by first | exact Or.inl rfl | exact Or.inr rfl))) (fun _ _ _ _ _ => pts_nil) (fun _ _ _ _ _ => (pe_tup (pa_cons (pv 1) (pa_cons (pv 2) (pa_cons (pv 6) pa_nil))))))))))))))), ?_⟩
    obtain ⟨p, hp, rfl, rfl⟩ := hR
    obtain ⟨v1, rfl, h1⟩ := dtAll1 hk
    cases p with
    | tab t =>
      refine q_when (p := true) (et_is (et_not (et_test (evd_isiP (evd_var rfl h1)))) rfl) (fun _ H1 e1 => ?_) fun h => nomatch h
      exact s_ret (d := .list []) (evd_lst ead_nil (by simp)) fun v H2 e2 dv => q v H2 (e1.trans e2) dv
    | node hw l r =>
      refine q_no (et_is (et_not (et_test (evd_isiP (evd_var rfl h1)))) rfl) fun H1 e1 => ?_
      rw [Pl.nn] at hp
      have bl := lawChanged_len l
      have br := lawChanged_len r
      have bh := hows_len hw
      have bL := leanL_len (.node hw l r)
      have bR := leanR_len (.node hw l r)
      refine q_unp3 (evd_var rfl (h1.mono e1)) fun x y z H2 e2 d1 d2 d3 => ?_
      refine q_asgFT (es := (hows.filter fun x => decide (x ≠ hw)).map (fun h' => eP (.node h' l r)) ++ [eP (.node hw r l)]) (evf_cat (xs := (hows.filter fun x => decide (x ≠ hw)).map fun h' => eP (.node h' l r)) (ys := [eP (.node hw r l)]) ?_ (evd_lst (ead_cons (evd_tup (ead_cons (evd_var rfl d1) (ead_cons (evd_var rfl d3) (ead_cons (evd_var rfl d2) ead_nil))) (by simp)) ead_nil) (by simp)) (by rw [List.length_map, List.length_singleton]; omega)) fun a xs H3 e3 na ha dx => ?_
      · refine evd_lct hows (fun h => .str h.str) _ _ (evi_tup (evd_tup (ead_cons evd_cstr (ead_cons evd_cstr (ead_cons evd_cstr ead_nil))) (by decide))) (fun h hh y H3 e3 dy Q' q' => q' _ rfl (et_is (et_B (evd_ne (evd_var rfl dy) (evd_var rfl (d1.mono e3)) (sh_how h) (sh_how hw))) ?_) fun _ => evd_tup (ead_cons (evd_var rfl dy) (ead_cons (evd_var rfl (d2.mono e3)) (ead_cons (evd_var rfl (d3.mono e3)) ead_nil))) (by simp)) (fun h _ _ => eP_tup (.node h l r)) (by decide)
        rw [eqv_how, decide_not]
      have tp : tupOnlyAll ((hows.filter fun x => decide (x ≠ hw)).map (fun h' => eP (.node h' l r)) ++ [eP (.node hw r l)]) = true := tupOnlyAll_of fun d hd => by
        rcases List.mem_append.mp hd with hd | hd
        · obtain ⟨h', _, rfl⟩ := List.mem_map.mp hd
          exact eP_tup (.node h' l r)
        · rw [List.mem_singleton.mp hd]; exact eP_tup _
      have g1 := d1.mono e3
      have g2 := d2.mono e3
      have g3 := d3.mono e3
      have zn : ((hows.filter fun x => decide (x ≠ hw)).map (fun h' => eP (.node h' l r)) ++ [eP (.node hw r l)]).length ≤ 3 := by
        rw [List.length_append, List.length_map, List.length_singleton]
        omega
      have en : ((hows.filter fun x => decide (x ≠ hw)).map (fun h' => eP (.node h' l r)) ++ [eP (.node hw r l)]) = ((hows.filter fun x => decide (x ≠ hw)).map (fun w => Pl.node w l r) ++ [Pl.node hw r l]).map eP := by rw [List.map_append, List.map_map]; rfl
      rw [en] at dx tp zn
      have bb : ((hows.filter fun x => decide (x ≠ hw)).map (fun w => Pl.node w l r) ++ [Pl.node hw r l]).length ≤ 3 := by
        rw [List.length_map] at zn
        exact zn
      have eC : lawChanged (.node hw l r) = ((((hows.filter fun x => decide (x ≠ hw)).map (fun w => Pl.node w l r) ++ [Pl.node hw r l]) ++ (Pl.leanL (.node hw l r) ++ Pl.leanR (.node hw l r))) ++ (lawChanged l).map (fun q => .node hw q r)) ++ (lawChanged r).map (fun q => .node hw l q) := rfl
      generalize ((hows.filter fun x => decide (x ≠ hw)).map (fun w => Pl.node w l r) ++ [Pl.node hw r l]) = ps0 at dx tp bb eC
      clear en zn
      -- near
      refine q_appIf (d := leanLd hw r l) (et_test (evd_isiP (evd_var rfl g2))) rfl na (e3 : Ex H2 H3) ha dx (by rw [List.length_map]; omega) tp (fun hc => ?_) (fun hc => ?_) fun H4 xs4 e4 ha4 dx4 => ?_
      · cases l with
        | tab t => cases hc
        | node h' x' y' => exact eP_tup _
      · cases l with
        | tab t => cases hc
        | node h' x' y' => exact evd_tup (ead_cons (evd_ixT (j := 0) (evd_var rfl g2) rfl) (ead_cons (evd_ixT (j := 1) (evd_var rfl g2) rfl) (ead_cons (evd_tup (ead_cons (evd_var rfl g1) (ead_cons (evd_ixT (j := 2) (evd_var rfl g2) rfl) (ead_cons (evd_var rfl g3) ead_nil))) (by simp)) ead_nil))) (by simp)
      have eN : (ps0.map eP ++ if !l.isT then [leanLd hw r l] else []) = (ps0 ++ Pl.leanL (.node hw l r)).map eP := by
        cases l with
        | tab t => simp [Pl.isT, Pl.leanL, leanLd]
        | node h' x' y' => simp [Pl.isT, Pl.leanL, leanLd]
      rw [eN] at dx4
      have f1 := d1.mono e4
      have f2 := d2.mono e4
      have f3 := d3.mono e4
      refine q_appIf (d := leanRd hw l r) (et_test (evd_isiP (evd_var rfl f3))) rfl na e4 ha4 dx4 (by rw [List.length_map, List.length_append]; omega) (tupOnlyAll_of (eL_tup (ps := ps0 ++ Pl.leanL (.node hw l r)))) (fun hc => ?_) (fun hc => ?_) fun H5 xs5 e5 ha5 dx5 => ?_
      · cases r with
        | tab t => cases hc
        | node h' x' y' => exact eP_tup _
      · cases r with
        | tab t => cases hc
        | node h' x' y' => exact evd_tup (ead_cons (evd_ixT (j := 0) (evd_var rfl f3) rfl) (ead_cons (evd_tup (ead_cons (evd_var rfl f1) (ead_cons (evd_var rfl f2) (ead_cons (evd_ixT (j := 1) (evd_var rfl f3) rfl) ead_nil))) (by simp)) (ead_cons (evd_ixT (j := 2) (evd_var rfl f3) rfl) ead_nil))) (by simp)
      have eN5 : ((ps0 ++ Pl.leanL (.node hw l r)).map eP ++ if !r.isT then [leanRd hw l r] else []) = (ps0 ++ (Pl.leanL (.node hw l r) ++ Pl.leanR (.node hw l r))).map eP := by
        cases r with
        | tab t => simp [Pl.isT, Pl.leanR, leanRd]
        | node h' x' y' => simp [Pl.isT, Pl.leanR, leanRd]
      rw [eN5] at dx5
      have b1 := d1.mono e5
      have b2 := d2.mono e5
      have b3 := d3.mono e5
      refine q_asg (d := .list ((ps0 ++ (Pl.leanL (.node hw l r) ++ Pl.leanR (.node hw l r))).map eP ++ (lawChanged l).map fun q => eP (.node hw q r))) (evd_cat (evd_var rfl (.lst ha5 dx5)) ?_ (by simp only [List.length_append, List.length_map]; omega)) fun v6 H6 e6 dv6 => ?_
      · refine evd_lcy (lawChanged l) eP _ (evi_list (evd_call (ead_cons (evd_var rfl b2) ead_nil) ⟨l, by omega, rfl, rfl⟩)) (fun p hp vx H7 e7 dx Q' q' => q' _ rfl ?_) (fun p _ => eP_tup (.node hw p r)) (by omega)
        exact evd_tup (ead_cons (evd_var rfl (b1.mono e7)) (ead_cons (evd_var rfl dx) (ead_cons (evd_var rfl (b3.mono e7)) ead_nil))) (by simp)
      · have c1 := b1.mono e6
        have c2 := b2.mono e6
        have c3 := b3.mono e6
        refine s_ret (d := eL (lawChanged (.node hw l r))) ?_ fun v H7 e7 dv => q v H7 ((((e1.trans e2).trans e5).trans e6).trans e7) dv
        unfold eL
        rw [eC, List.map_append, List.map_append, List.map_map, List.map_map]
        refine evd_cat (evd_var rfl dv6) ?_ (by simp only [List.length_append, List.length_map]; omega)
        refine evd_lcy (lawChanged r) eP _ (evi_list (evd_call (ead_cons (evd_var rfl c3) ead_nil) ⟨r, by omega, rfl, rfl⟩)) (fun p hp vx H7 e7 dx Q' q' => q' _ rfl ?_) (fun p _ => eP_tup (.node hw l p)) (by omega)
        exact evd_tup (ead_cons (evd_var rfl (c1.mono e7)) (ead_cons (evd_var rfl (c2.mono e7)) (ead_cons (evd_var rfl dx) ead_nil))) (by simp)

end
end Pc
/-! the law: drawn values -/
namespace Pc
open PySem PySem.Spec PyProof.Rows L2
open Evl (Ex EvT)
open StX (tStar pa_star)
section
variable {P : Program} {w : World} {K : PySem.W.Frag} {mg : Str → Option Value} {base : Heap}


/-! ### what draws -/
theorem Em.ex {m g : Addr} {H H1 H2 : Hp} (a : Em m g H H1) (e : Ex H1 H2) : Em m g H H2 := a.trans (.of e)
theorem St.up {m c g : Addr} {B B' : Nat} {H : Hp} (s : St m c g B H) (h : B ≤ B') : St m c g B' H := s.mono (Ex.refl _) h
theorem St.ne_m {m c g a : Addr} {B : Nat} {H : Hp} (s : St m c g B H) (h : H a = none) : a ≠ m ∧ a ≠ c ∧ a ≠ g := by
  obtain ⟨n, cs, gs, h1, h2, h3, h4, h5, h6, h7, h8, h9⟩ := s.ex
  refine ⟨?_, ?_, ?_⟩ <;> rintro rfl
  · rw [h1] at h; cases h
  · rw [h3] at h; cases h
  · rw [h6] at h; cases h
/-- a place outside the state is written -/
theorem St.put {m c g a : Addr} {B : Nat} {H : Hp} {o : HO} (s : St m c g B H) (n : a ≠ m ∧ a ≠ c ∧ a ≠ g) : St m c g B (upd H a o) := by
  obtain ⟨z, cs, gs, h1, h2, h3, h4, h5, h6, h7, h8, h9⟩ := s.ex
  exact ⟨z, cs, gs, by rw [upd_ne n.1.symm]; exact h1, h2, by rw [upd_ne n.2.1.symm]; exact h3, h4, h5, by rw [upd_ne n.2.2.symm]; exact h6, h7, h8, h9⟩
theorem Em.mut {m g a : Addr} {H H' : Hp} {o : HO} (e : Em m g H H') (n : H a = none) : Em m g H (upd H' a o) := fun b u hm hg h => by
  rw [upd_ne]
  · exact e b u hm hg h
  · rintro rfl
    rw [n] at h
    cases h
theorem Em.fresh {m g a : Addr} {H H' : Hp} (e : Em m g H H') (n : H' a = none) (hm : a ≠ m) (hg : a ≠ g) : H a = none := by
  cases h : H a with
  | none => rfl
  | some o => rw [e a o hm hg h] at n; cases n
def EvM (m c g : Addr) (k : Nat) (te : TE) (σ : L2.St) (H : Hp) (Pd : PyData → Prop) : Prop := ∀ H1 B, Em m g H H1 → St m c g B H1 → B + k ≤ 1000000 → ∀ Q : VK,
  (∀ v H2 d, Em m g H1 H2 → St m c g (B + k) H2 → Pd d → tupOnly d = true → Dt H2 v d → Q v H2) → te σ H1 Q
def EvAM (m c g : Addr) (k : Nat) (ta : TA) (σ : L2.St) (H : Hp) (Pd : List PyData → Prop) : Prop := ∀ H1 B, Em m g H H1 → St m c g B H1 → B + k ≤ 1000000 → ∀ Q : List V → Hp → Prop,
  (∀ vs H2 ds, Em m g H1 H2 → St m c g (B + k) H2 → Pd ds → tupOnlyAll ds = true → DtAll H2 vs ds → Q vs H2) → ta σ H1 Q
def intIn (lo hi : Int) (d : PyData) : Prop := ∃ r : Int, d = .int r ∧ lo ≤ r ∧ r < hi
section
variable {m c g : Addr} {k l i : Nat} {ta tb te : TE} {t : TA} {σ : L2.St} {H : Hp} {d : PyData} {Pa Pb Pd : PyData → Prop} {lim : Int}
theorem evm_pure (h : ∀ H1 B, Em m g H H1 → St m c g B H1 → EvD te σ H1 d) (ht : tupOnly d = true) : EvM m c g 0 te σ H (· = d) := fun H1 B e s _ Q q =>
  h H1 B e s H1 (Ex.refl _) _ fun v H2 e2 dv => q v H2 d (.of e2) (s.mono e2 (Nat.le_refl _)) rfl ht dv
theorem evm_int {z : Int} : EvM m c g 0 (tC (.int z)) σ H (· = .int z) := evm_pure (fun _ _ _ _ => evd_cint) rfl
theorem evm_imp (h : EvM m c g k te σ H Pa) (hp : ∀ d, Pa d → Pd d) : EvM m c g k te σ H Pd := fun H1 B e s z Q q => h H1 B e s z Q fun v H2 d e2 s2 p => q v H2 d e2 s2 (hp d p)
theorem evm_draw (hm : σ[i]? = some (some (.ref m))) (hl : ∀ H1 B, Em m g H H1 → St m c g B H1 → EvD te σ H1 (.int lim)) (h : 1 ≤ lim ∧ lim < 1048576) : EvM m c g 1 (tCall sp__law_draw [] E0 (tCons (tVar i) (tCons te tNil))) σ H (intIn 0 lim) := fun H1 B e s z Q q =>
  ⟨_, hm, hl H1 B e s H1 (Ex.refl _) _ fun v H2 e2 dv => by
    rw [dt_int dv]
    exact ⟨m, c, g, B, lim, rfl, h, by omega, s.mono e2 (Nat.le_refl _), fun r H3 e3 s3 l1 l2 => q _ H3 _ ((Em.of e2).trans e3) s3 ⟨r, rfl, l1, l2⟩ rfl (.int _)⟩⟩
theorem evm_op {r : R2} (ha : EvM m c g k ta σ H Pa) (hb : EvM m c g l tb σ H Pb) (hr : ∀ d1 d2, Pa d1 → Pb d2 → ∃ d, Pd d ∧ tupOnly d = true ∧ RD r d1 d2 d) : EvM m c g (k + l) (tOp r ta tb) σ H Pd := fun H1 B e s z Q q =>
  ha H1 B e s (by omega) _ fun x H2 d1 e2 s2 p1 t1 dx => hb H2 (B + k) (e.trans e2) s2 (by omega) _ fun y H3 d2 e3 s3 p2 t2 dy => by
    obtain ⟨d, pd, td, rd⟩ := hr d1 d2 p1 p2
    exact rd H3 x y (dx.monoT (s2.extT e3) t1) dy Q fun v H4 e4 dv => q v H4 d ((e2.trans e3).ex e4) ((s3.mono e4 (Nat.le_refl _)).up (by omega)) pd td dv
theorem evm_add1 (h : EvM m c g k te σ H (intIn 0 lim)) : EvM m c g k (tOp (rI0 fun i j => .int (i + j)) (tC (.int 1)) te) σ H (intIn 1 (1 + lim)) := by
  have := evm_op (Pd := intIn 1 (1 + lim)) (r := rI0 fun i j => .int (i + j)) (evm_int (z := 1)) h fun d1 d2 h1 ⟨r, h2, h3, h4⟩ => ⟨.int (1 + r), ⟨1 + r, rfl, by omega, by omega⟩, rfl, by subst h1 h2; exact rd_I0 fun _ => .int _⟩
  rw [Nat.zero_add] at this
  exact this
theorem eam_nil : EvAM m c g 0 tNil σ H (· = []) := fun H1 B e s _ Q q => q [] H1 [] .refl s rfl rfl .nil
theorem eam_cons {Pt Pz : List PyData → Prop} (h : EvM m c g k te σ H Pa) (ht : EvAM m c g l t σ H Pt) (hp : ∀ d ds, Pa d → Pt ds → Pz (d :: ds)) : EvAM m c g (k + l) (tCons te t) σ H Pz := fun H1 B e s z Q q =>
  h H1 B e s (by omega) _ fun x H2 d e2 s2 p1 t1 dx => ht H2 (B + k) (e.trans e2) s2 (by omega) _ fun xs H3 ds e3 s3 p2 t2 dxs => q _ H3 (d :: ds) (e2.trans e3) (s3.up (by omega)) (hp d ds p1 p2) (by rw [tupOnlyAll, t1, t2]; rfl) (.cons (dx.monoT (s2.extT e3) t1) dxs)
theorem evm_tup {Pt : List PyData → Prop} (h : EvAM m c g k t σ H Pt) (hz : ∀ ds, Pt ds → ds.length ≤ 100000) : EvM m c g k (tTup t) σ H (fun d => ∃ ds, d = .tuple ds ∧ Pt ds) := fun H1 B e s z Q q =>
  h H1 B e s z _ fun xs H2 ds e2 s2 p2 t2 dxs => ⟨sz5 (by rw [dxs.length]; exact hz ds p2), fun p hp => q _ _ (.tuple ds) (e2.ex (ex_new hp)) (s2.mono (ex_new hp) (Nat.le_refl _)) ⟨ds, rfl, p2⟩ t2 (.tup upd_same (dxs.mono (ex_new hp)))⟩
/-- [..][draw] -/
theorem evm_pick {Pt : List PyData → Prop} (h : EvAM m c g k t σ H Pt) (hb : EvM m c g l tb σ H Pb) (hz : ∀ ds, Pt ds → ds.length ≤ 100000) (hr : ∀ ds d, Pt ds → Pb d → ∃ (j : Nat) (e : PyData), d = .int (j : Int) ∧ ds[j]? = some e ∧ Pd e ∧ tupOnly e = true) : EvM m c g (k + l) (tOp (rIx K) (tLst t) tb) σ H Pd := fun H1 B e s z Q q =>
  h H1 B e s (by omega) _ fun xs H2 ds e2 s2 p2 t2 dxs => ⟨sz5 (by rw [dxs.length]; exact hz ds p2), fun p hp => by
    have np := s2.ne_m hp
    have e3 : Em m g H1 (upd H2 p (.lst xs)) := e2.ex (ex_new hp)
    have s3 : St m c g (B + k) (upd H2 p (.lst xs)) := s2.mono (ex_new hp) (Nat.le_refl _)
    refine hb _ (B + k) (e.trans e3) s3 (by omega) _ fun y H3 d' e4 s4 p4 t4 dy => ?_
    obtain ⟨j, e', rfl, hj, pe, te'⟩ := hr ds d' p2 p4
    have dl : Dt H3 (.ref p) (.list ds) := .lst (e4 p _ np.1 np.2.2 upd_same) ((dxs.mono (ex_new hp)).monoT (s3.extT e4) t2)
    exact rd_ixL hj H3 _ y dl dy Q fun v H5 e5 dv => q v H5 e' ((e3.trans e4).ex e5) ((s4.mono e5 (Nat.le_refl _)).up (by omega)) pe te' dv⟩
theorem q_asgM {B : Nat} {tz : TS} {D : Ends} (h : EvM m c g k te σ H Pd) (s : St m c g B H) (hz : B + k ≤ 1000000) (q : ∀ v H1 d, Em m g H H1 → St m c g (B + k) H1 → Pd d → tupOnly d = true → Dt H1 v d → tz D (σ.set i (some v)) H1) : tSeq (tAsg te (gName i)) tz D σ H :=
  h H B .refl s hz _ q
theorem s_retM {B : Nat} {D : Ends} (h : EvM m c g k te σ H Pd) (s : St m c g B H) (hz : B + k ≤ 1000000) (q : ∀ v H1 d, Em m g H H1 → St m c g (B + k) H1 → Pd d → tupOnly d = true → Dt H1 v d → D.rt v H1) : tRet te D σ H :=
  h H B .refl s hz _ q
end
/-! ### drawn rows -/
def rowOf (most : Nat) (d : PyData) : Prop := ∃ row : List Nat, d = eRow row ∧ RowOk most row
/-- some numbers, ascending -/
theorem rising_of : ∀ {row : List Nat}, row.Pairwise (· < ·) → rising row = true
  | [], _ => rfl
  | [_], _ => rfl
  | x :: y :: r, h => by
    have h' := List.pairwise_cons.mp h
    show (decide (x < y) && rising (y :: r)) = true
    rw [rising_of h'.2, decide_eq_true (h'.1 y (List.mem_cons_self ..))]
    rfl
theorem row_of {ns ms : List Int} {most : Nat} (h1 : ns ≠ []) (h3 : ns.length ≤ 3) (hr : ∀ x ∈ ns, 1 ≤ x ∧ x < 1 + (most : Int)) (hs : ms.Pairwise (· < ·)) (hm : ∀ k : Int, k ∈ ms ↔ decide (k ∈ ns) = true) (hl : ms.length ≤ ns.length) : RowOk most (ms.map Int.toNat) ∧ ms.map PyData.int = eNs (ms.map Int.toNat) := by
  have pos : ∀ x ∈ ms, 1 ≤ x ∧ x < 1 + (most : Int) := fun x hx => hr x (of_decide_eq_true ((hm x).mp hx))
  refine ⟨⟨⟨?_, ?_⟩, fun x hx => ?_, rising_of ?_⟩, ?_⟩
  · rw [List.length_map]
    cases ns with
    | nil => exact absurd rfl h1
    | cons x r => exact List.length_pos_of_mem ((hm x).mpr (decide_eq_true (List.mem_cons_self ..)))
  · rw [List.length_map]
    omega
  · obtain ⟨z, hz, rfl⟩ := List.mem_map.mp hx
    have := pos z hz
    omega
  · rw [List.pairwise_map]
    refine List.Pairwise.imp_of_mem (fun {a b} ha hb h => ?_) hs
    have := pos a ha
    have := pos b hb
    omega
  · unfold eNs
    rw [List.map_map]
    refine List.map_congr_left fun z hz => ?_
    have := pos z hz
    show PyData.int z = PyData.int ((z.toNat : Nat) : Int)
    congr 1
    omega
def sp__law_values : Sp := fun vs H Q _ => ∃ (m c g : Addr) (B : Nat) (most : Nat), vs = [.ref m, .int (most : Int)] ∧ (1 ≤ most ∧ most < 1000000) ∧ B + 4 ≤ 1000000 ∧ St m c g B H ∧
  ∀ v H' row, Em m g H H' → St m c g (B + 4) H' → RowOk most row → Dt H' v (eRow row) → Q v H'


theorem cl__law_values (G : Gs K mg) (D : Df K mg "_law_values" s__law_values) (c__law_draw : Cl P w K mg base 2 "_law_draw" sp__law_draw) : Cl P w K mg base 3 "_law_values" sp__law_values := by
  refine cl_of (k := 2) D sc__law_values (fun _ _ _ _ _ _ us hl => match us, hl with | [_, _], _ => rfl) (fun vs H Q E ⟨m, c, g, B, lim, h, _⟩ => by rw [h]; rfl) fun f cdv A outer s H vs Q E hr hsp => ?_
  obtain ⟨m, c, g, B, most, rfl, hmost, hB, S, q⟩ := hsp
  refine ⟨_, (pss_one (ps_ret (pe_callTy (r := rTupA K) call_tuple_of (by rfl) G.f_tuple bt_tuple (pa_cons (pe_callB (r := rSortedSet w) (cr_sortedSet rfl) (by rfl) G.f_sorted bt_sorted (pa_cons (pe_callTy (r := rSetOfL K w) (cr_setL rfl) (by rfl) G.f_set bt_set (pa_cons (pe_lc (own := [("_law_k", 2)]) (g := (gName 2)) (tt := tYes) rfl sc__law_values.nd (pi_range1 (by rfl) G.f_range (pa_cons (pe_op op_add pe_int (pe_u c__law_draw hr (by omega) (by rfl) (pa_cons (pv 0) (pa_cons pe_int pa_nil)))) pa_nil)) (blkOk_by (own := [("_law_k", 2)]) (N := N__law_values) (sc := defScope s__law_values) (by decide +kernel)) (fun _ _ _ _ _ => (pg_name (i := 2) sc__law_values.nd rfl (by first | exact Or.inl rfl | exact Or.inr rfl))) (fun _ _ _ _ _ => pts_nil) (fun _ _ _ _ _ => (pe_op op_add pe_int (pe_u c__law_draw hr (by omega) (by rfl) (pa_cons (pv 0) (pa_cons (pv 1) pa_nil)))))) pa_nil)) pa_nil)) pa_nil)))), ?_⟩
  have many : EvM m c g 1 (tOp (rI0 fun i j => .int (i + j)) (tC (.int 1)) (tCall sp__law_draw [] E0 (tCons (tVar 0) (tCons (tC (.int 3)) tNil)))) (start N__law_values [V.ref m, .int (most : Int)]) H (intIn 1 (1 + 3)) := evm_add1 (evm_draw rfl (fun _ _ _ _ => evd_cint) (by omega))
  refine many H B .refl S (by omega) _ fun v H1 d e1 s1 ⟨n, hd, n1, n2⟩ _ dv => ?_
  subst hd
  obtain rfl := dt_int dv
  refine ⟨n, rfl, by omega, by omega, fun L nL => ?_⟩
  have nLm := s1.ne_m nL
  refine lc_it (walk_range (lo := 0) (n := n.toNat)) (fun i H' => Em m g H1 H' ∧ St m c g (B + 1 + i) H' ∧ ∃ zs : List Int, H' L = some (.lst (zs.map V.int)) ∧ zs.length = i ∧ ∀ x ∈ zs, 1 ≤ x ∧ x < 1 + (most : Int)) ⟨.of (ex_new nL), s1.mono (ex_new nL) (Nat.le_refl _), [], upd_same, rfl, fun _ h => nomatch h⟩
    (fun i H' _ _ => True.intro) (fun i x H' H'' hi ⟨em, st, zs, hL, lz, rz⟩ yv => ?_) (fun H' ⟨em, st, zs, hL, lz, rz⟩ => ?_)
  · obtain ⟨rfl, rfl⟩ := yv
    refine ⟨rfl, ?_⟩
    have one : EvM m c g 1 (tOp (rI0 fun i j => .int (i + j)) (tC (.int 1)) (tCall sp__law_draw [] E0 (tCons (tVar 0) (tCons (tVar 1) tNil)))) [some (V.ref m), some (.int (most : Int)), some (.int (0 + (i : Int)))] H1 (intIn 1 (1 + (most : Int))) := evm_add1 (evm_draw rfl (fun _ _ _ _ => evd_var rfl (.int _)) (by omega))
    refine one H'' (B + 1 + i) em st (by omega) _ fun y H3 d e3 s3 ⟨z, hz, z1, z2⟩ _ dy => ?_
    subst hz
    obtain rfl := dt_int dy
    have hL3 := e3 L _ nLm.1 nLm.2.2 hL
    refine ⟨_, hL3, Evl.sz_lt (by rw [List.length_map]; omega), (em.trans e3).mut nL, s3.put nLm, zs ++ [z], by rw [upd_same, List.map_append]; rfl, by rw [List.length_append, lz]; rfl, fun x hx => ?_⟩
    rcases List.mem_append.mp hx with hx | hx
    · exact rz x hx
    · rw [List.mem_singleton.mp hx]; exact ⟨z1, z2⟩
  · refine ⟨L, zs, rfl, SqL.of hL, by omega, fun p k hp hk => ?_⟩
    refine ⟨p, _, k, rfl, upd_same, by omega, fun ms r hs hm hl hr' => ?_⟩
    have e3 := ex_new (o := SetO w p (fun j => decide (j ∈ zs)) k) hp
    have e4 := ex_new (o := .lst (ms.map V.int)) hr'
    refine ⟨r, ms.map V.int, rfl, .inl ⟨SqL.of upd_same, fun t ht => ?_⟩⟩
    obtain ⟨ok, eq⟩ := row_of (ns := zs) (ms := ms) (most := most) (by rintro rfl; simp at lz; omega) (by omega) rz hs hm (by omega)
    refine q _ _ (ms.map Int.toNat) (((e1.trans em).ex (e3.trans e4)).ex (ex_new ht)) (((st.mono (e3.trans e4) (Nat.le_refl _)).mono (ex_new ht) (Nat.le_refl _)).up (by omega)) ok ?_
    unfold eRow
    rw [← eq]
    exact .tup upd_same dtAll_of_ints

end
end Pc
/-! the law: drawn queries -/
namespace Pc
open PySem PySem.Spec PyProof.Rows L2
open Evl (Ex EvT)
open StX (tStar pa_star)
section
variable {P : Program} {w : World} {K : PySem.W.Frag} {mg : Str → Option Value} {base : Heap}


theorem app_em {m c g a : Addr} {B : Nat} {H H' H4 : Hp} {xs : List V} {ds : List PyData} {v : V} {d : PyData} (em : Em m g H H') (st : St m c g B H') (ha : H' a = some (.lst xs)) (na : H a = none) (ne : a ≠ m ∧ a ≠ c ∧ a ≠ g) (dx : DtAll H' xs ds) (tp : tupOnlyAll ds = true) (e4 : Ex H' H4) (dv : Dt H4 v d) (td : tupOnly d = true) :
    Em m g H (upd H4 a (.lst (xs ++ [v]))) ∧ St m c g B (upd H4 a (.lst (xs ++ [v]))) ∧ upd H4 a (.lst (xs ++ [v])) a = some (.lst (xs ++ [v])) ∧ DtAll (upd H4 a (.lst (xs ++ [v]))) (xs ++ [v]) (ds ++ [d]) ∧ ExT H' (upd H4 a (.lst (xs ++ [v]))) ∧ ∀ b u, b ≠ a → H' b = some u → upd H4 a (.lst (xs ++ [v])) b = some u := by
  have a4 := e4 _ _ ha
  refine ⟨(em.ex e4).mut na, (st.mono e4 (Nat.le_refl _)).put ne, upd_same, ?_, fun b us h => ext_upd a4 b us (e4 _ _ h), fun b u hb h => by rw [upd_ne hb]; exact e4 _ _ h⟩
  refine ((dx.mono e4).append (.one dv)).monoT (ext_upd a4) (tupOnlyAll_append tp ?_)
  rw [tupOnlyAll, td]
  rfl
def cutR (z : Int) (row : List Nat) : List Nat := if 0 < z then row else row.take 1
theorem eRow_tup (row : List Nat) : tupOnly (eRow row) = true := tupOnlyAll_of fun d hd => by
  obtain ⟨x, _, rfl⟩ := List.mem_map.mp hd
  rfl
theorem eLink_tup (l : Nat × Nat × List Nat) : tupOnly (eLink l) = true := by
  show tupOnlyAll [_, _, eRow l.2.2] = true
  rw [tupOnlyAll, tupOnlyAll, tupOnlyAll, eRow_tup]
  rfl
theorem RowOk.cut {m : Nat} {row : List Nat} (h : RowOk m row) (z : Int) : RowOk m (cutR z row) := by
  unfold cutR
  split
  · exact h
  · cases row with
    | nil => exact absurd h.len.1 (by simp)
    | cons x r => exact ⟨⟨Nat.le_refl _, (by simp)⟩, fun y hy => h.lo y (by simp at hy; subst hy; exact List.mem_cons_self ..), rfl⟩
theorem RowOk.up' {m n : Nat} {row : List Nat} (h : RowOk m row) (e : m ≤ n) : RowOk n row := ⟨h.len, fun x hx => ⟨(h.lo x hx).1, Nat.le_trans (h.lo x hx).2 e⟩, h.up⟩
theorem cutR_one {z : Int} {row : List Nat} (h : 1 < (cutR z row).length) : 0 < z := by
  unfold cutR at h
  split at h
  · assumption
  · rw [List.length_take] at h
    omega
def unk (rows : List (List Nat)) : Nat := (rows.filter fun r => decide (1 < r.length)).length
theorem unk_add (rows : List (List Nat)) (r : List Nat) : unk (rows ++ [r]) = unk rows + if 1 < r.length then 1 else 0 := by
  unfold unk
  rw [List.filter_append, List.length_append, List.filter_cons]
  by_cases h : 1 < r.length
  · rw [if_pos (decide_eq_true h), if_pos h]; rfl
  · rw [if_neg (by rw [decide_eq_false h]; exact Bool.false_ne_true), if_neg h]; rfl
section
variable {σ : L2.St} {H : Hp} {tl tr : TE} {z : Int} {row : List Nat}
theorem evd_cutR (hl : EvD tl σ H (.int z)) (hr : EvD tr σ H (eRow row)) : EvD (tIf (tTest (tOp (rI0 fun i j => .bl (decide (j < i))) tl (tC (.int 0)))) tr (tSl (rSlA K) tr tNoPart (tPart (tC (.int 1))))) σ H (eRow (cutR z row)) := by
  refine evd_if (et_test (evd_gt hl evd_cint)) (fun h => ?_) (fun h => ?_)
  · unfold cutR
    rw [if_pos (of_decide_eq_true h)]
    exact hr
  · unfold cutR
    rw [if_neg (of_decide_eq_false h)]
    refine evd_is (evd_to (j := 1) hr) ?_
    unfold eRow eNs
    rw [List.map_take]
theorem evd_less {tq : TE} (hl : EvD tl σ H (.int z)) (hr : EvD tr σ H (eRow row)) : EvD (tOp (rI0 fun i j => .int (i - j)) tl (tCB rInt1 (tCons (tOp (rI0 fun i j => .bl (decide (j < i))) (tCB (rLenA K) (tCons tr tNil)) (tC (.int 1))) tNil))) σ H (.int (z - ((if 1 < row.length then 1 else 0 : Nat) : Int))) := by
  refine evd_is (evd_sub hl (evd_intB (evd_gt (evd_lenT hr) evd_cint))) ?_
  congr 2
  rw [eNs_length]
  by_cases h : 1 < row.length
  · rw [if_pos (decide_eq_true (by omega)), if_pos h]; rfl
  · rw [if_neg (by rw [decide_eq_false (by omega)]; exact Bool.false_ne_true), if_neg h]; rfl
theorem last_app {α : Type} (ds : List α) (d : α) : (ds ++ [d])[(ds ++ [d]).length - 1]? = some d := by simp
end
section
variable {σ : L2.St} {H : Hp} {t : TA} {g : TG} {tb tz : TS} {D : Ends} {lo z : Int}
theorem s_forR1 (h : EvAD t σ H [.int z]) (hz : 0 ≤ z ∧ z < 1000000) (Pv : Nat → L2.St → Hp → Prop) (h0 : ∀ H1, Ex H H1 → Pv 0 σ H1)
    (hs : ∀ i σ' H', i < z.toNat → Pv i σ' H' → g (.int (0 + (i : Int))) σ' H' fun σ2 H2 => tb { D with nx := Pv (i + 1), ct := Pv (i + 1), bk := D.nx } σ2 H2) (hd : ∀ σ' H', Pv z.toNat σ' H' → D.nx σ' H') : tFor (iRng1 t) g tb D σ H :=
  h H (Ex.refl _) _ fun vs H2 e2 dv => by
    obtain ⟨v, rfl, d1⟩ := dtAll1 dv
    obtain rfl := dt_int d1
    refine ⟨z, rfl, by omega, by omega, ?_⟩
    refine for_it (walk_range (lo := 0) (n := z.toNat)) Pv (h0 H2 e2) (fun _ _ _ _ _ => True.intro) (fun i x σ' H' H'' hi p yv => ?_) hd
    obtain ⟨rfl, rfl⟩ := yv
    exact hs i σ' _ hi p
theorem q_forR1 (h : EvAD t σ H [.int z]) (hz : 0 ≤ z ∧ z < 1000000) (Pv : Nat → L2.St → Hp → Prop) (h0 : ∀ H1, Ex H H1 → Pv 0 σ H1)
    (hs : ∀ i σ' H', i < z.toNat → Pv i σ' H' → g (.int (0 + (i : Int))) σ' H' fun σ2 H2 => tb { D with nx := Pv (i + 1), ct := Pv (i + 1), bk := tz D } σ2 H2) (hd : ∀ σ' H', Pv z.toNat σ' H' → tz D σ' H') : tSeq (tFor (iRng1 t) g tb) tz D σ H := s_forR1 (D := { D with nx := tz D }) h hz Pv h0 hs hd
theorem s_forR2 (h : EvAD t σ H [.int lo, .int z]) (hl : 0 ≤ lo ∧ lo < 1000000) (hz : 0 ≤ z ∧ z < 1000000) (Pv : Nat → L2.St → Hp → Prop) (h0 : ∀ H1, Ex H H1 → Pv 0 σ H1)
    (hs : ∀ i σ' H', i < (z - lo).toNat → Pv i σ' H' → g (.int (lo + (i : Int))) σ' H' fun σ2 H2 => tb { D with nx := Pv (i + 1), ct := Pv (i + 1), bk := D.nx } σ2 H2) (hd : ∀ σ' H', Pv (z - lo).toNat σ' H' → D.nx σ' H') : tFor (iRng2 t) g tb D σ H :=
  h H (Ex.refl _) _ fun vs H2 e2 dv => by
    obtain ⟨v, u, rfl, d1, d2⟩ := dtAll2 dv
    obtain rfl := dt_int d1
    obtain rfl := dt_int d2
    refine ⟨lo, z, rfl, ⟨by omega, by omega, by omega, by omega⟩, ?_⟩
    refine for_it (walk_range (lo := lo) (n := (z - lo).toNat)) Pv (h0 H2 e2) (fun _ _ _ _ _ => True.intro) (fun i x σ' H' H'' hi p yv => ?_) hd
    obtain ⟨rfl, rfl⟩ := yv
    exact hs i σ' _ hi p
end
structure Lks (n k j : Nat) (ls : List (Nat × Nat × List Nat)) : Prop where
  few : ls.length ≤ 6
  ok : ∀ l ∈ ls, l.1 < l.2.1 ∧ l.2.1 < n ∧ RowOk 100 l.2.2
  bd : ∀ l ∈ ls, l.1 < k ∨ (l.1 = k ∧ l.2.1 < j)
  up : risingL ls = true
theorem risingL_add : ∀ {ls : List (Nat × Nat × List Nat)} {x : Nat × Nat × List Nat}, risingL ls = true → (∀ l ∈ ls, l.1 < x.1 ∨ (l.1 = x.1 ∧ l.2.1 < x.2.1)) → risingL (ls ++ [x]) = true
  | [], _, _, _ => rfl
  | [y], x, _, h => by
    have := h y (List.mem_cons_self ..)
    show ((decide (y.1 < x.1) || (decide (y.1 = x.1) && decide (y.2.1 < x.2.1))) && true) = true
    rw [Bool.and_true, ← Bool.decide_and, ← Bool.decide_or]
    exact decide_eq_true this
  | y :: z :: r, x, h, k => by
    have h' : ((decide (y.1 < z.1) || (decide (y.1 = z.1) && decide (y.2.1 < z.2.1))) && risingL (z :: r)) = true := h
    rw [Bool.and_eq_true] at h'
    show ((decide (y.1 < z.1) || (decide (y.1 = z.1) && decide (y.2.1 < z.2.1))) && risingL ((z :: r) ++ [x])) = true
    rw [h'.1, risingL_add h'.2 fun l hl => k l (List.mem_cons_of_mem _ hl)]
    rfl
theorem Lks.next {n k j : Nat} {ls} (h : Lks n k j ls) : Lks n k (j + 1) ls := ⟨h.few, h.ok, fun l hl => (h.bd l hl).imp id fun ⟨a, b⟩ => ⟨a, Nat.lt_succ_of_lt b⟩, h.up⟩
theorem Lks.row {n k j j' : Nat} {ls} (h : Lks n k j ls) : Lks n (k + 1) j' ls := ⟨h.few, h.ok, fun l hl => .inl (by have := h.bd l hl; omega), h.up⟩
theorem Lks.add {n k j : Nat} {ls} {r : List Nat} (h : Lks n k j ls) (hz : ls.length < 6) (hk : k < j) (hj : j < n) (ok : RowOk 100 r) : Lks n k (j + 1) (ls ++ [(k, j, r)]) := by
  refine ⟨by rw [List.length_append, List.length_singleton]; omega, fun l hl => ?_, fun l hl => ?_, risingL_add h.up h.bd⟩
  · rcases List.mem_append.mp hl with hl | hl
    · exact h.ok l hl
    · rw [List.mem_singleton.mp hl]; exact ⟨hk, hj, ok⟩
  · rcases List.mem_append.mp hl with hl | hl
    · exact h.next.bd l hl
    · rw [List.mem_singleton.mp hl]; exact .inr ⟨rfl, Nat.lt_succ_self _⟩
def sp__law_asked : Sp := fun vs H Q _ => ∃ (m c g : Addr) (B : Nat), vs = [.ref m, .int 4, .int 9, .int 100, .int 2] ∧ B + 200 ≤ 1000000 ∧ St m c g B H ∧
  ∀ v H' y, Em m g H H' → St m c g (B + 200) H' → Qok y → Dt H' v (eQ y) → Q v H'


theorem cl__law_asked (G : Gs K mg) (D : Df K mg "_law_asked" s__law_asked) (c__law_draw : Cl P w K mg base 2 "_law_draw" sp__law_draw) (c__law_values : Cl P w K mg base 3 "_law_values" sp__law_values) : Cl P w K mg base 4 "_law_asked" sp__law_asked := by
  refine cl_of (k := 3) D sc__law_asked (fun _ _ _ _ _ _ us hl => match us, hl with | [_, _, _, _, _], _ => rfl) (fun vs H Q E ⟨m, c, g, B, h, _⟩ => by rw [h]; rfl) fun f cdv A outer s H vs Q E hr hsp => ?_
  obtain ⟨m, c, g, B, rfl, hB, S, q⟩ := hsp
  refine ⟨_, (pss_cons (ps_par3 (i := 5) (j := 6) (l := 7) rfl sc__law_asked.nd rfl rfl rfl (by decide) (by decide) (by decide) rfl rfl rfl (pa_cons (pv 4) (pa_cons (pe_lst pa_nil) (pa_cons (pe_lst pa_nil) pa_nil))) (by rfl))
      (pss_cons (ps_for PassesOwn.never rfl (pi_range1 (by rfl) G.f_range (pa_cons (pe_op op_add pe_int (pe_u c__law_draw hr (by omega) (by rfl) (pa_cons (pv 0) (pa_cons (pv 1) pa_nil)))) pa_nil)) (pg_name (i := 8) sc__law_asked.nd rfl (by first | exact Or.inl rfl | exact Or.inr rfl)) (pss_cons (ps_set (i := 9) sc__law_asked.nd rfl (by first | exact Or.inl rfl | exact Or.inr rfl) (pe_u c__law_values hr (by omega) (by rfl) (pa_cons (pv 0) (pa_cons (pv 2) pa_nil))))
      (pss_cons (ps_expr (pe_bm PySem.F.plainAttrs_list PySem.F.slot_list_append PySem.F.type_list_append mt_append (pv 6) (pa_cons (pe_ifExp (pt_cmpR op_gt (pv 5) pe_int (nomark _)) (pv 9) (pe_slice (r := rSlA K) sl_tupA (pv 9) po_none (po_some pe_int))) pa_nil)))
      (pss_one (ps_set (i := 5) sc__law_asked.nd rfl (by first | exact Or.inl rfl | exact Or.inr rfl) (pe_op op_sub (pv 5) (pe_callTy (r := rInt1) call_int1 (by rfl) G.f_int bt_int (pa_cons (pe_cmpR op_gt (pe_callB (r := rLenA K) call_len_seq (by rfl) G.f_len bt_len (pa_cons (pe_ix (r := rIx K) ix_seq (pv 6) (pe_un un_neg pe_int) (fun _ _ => rfl)) pa_nil)) pe_int (nomark _)) pa_nil))))))))
      (pss_cons (ps_for PassesOwn.never rfl (pi_range1 (by rfl) G.f_range (pa_cons (pe_callB (r := rLenA K) call_len_seq (by rfl) G.f_len bt_len (pa_cons (pv 6) pa_nil)) pa_nil)) (pg_name (i := 8) sc__law_asked.nd rfl (by first | exact Or.inl rfl | exact Or.inr rfl)) (pss_one (ps_for PassesOwn.never rfl (pi_range2 (by rfl) G.f_range (pa_cons (pe_op op_add (pv 8) pe_int) (pa_cons (pe_callB (r := rLenA K) call_len_seq (by rfl) G.f_len bt_len (pa_cons (pv 6) pa_nil)) pa_nil))) (pg_name (i := 10) sc__law_asked.nd rfl (by first | exact Or.inl rfl | exact Or.inr rfl)) (pss_one (ps_if (PW.pt (pw_and (pt_cmpR op_gt (pe_u c__law_draw hr (by omega) (by rfl) (pa_cons (pv 0) (pa_cons pe_int pa_nil))) pe_int (nomark _)) (pw_and1 (pt_cmpR op_lt (pe_callB (r := rLenA K) call_len_seq (by rfl) G.f_len bt_len (pa_cons (pv 7) pa_nil)) pe_int (nomark _))))) (pss_cons (ps_set (i := 9) sc__law_asked.nd rfl (by first | exact Or.inl rfl | exact Or.inr rfl) (pe_u c__law_values hr (by omega) (by rfl) (pa_cons (pv 0) (pa_cons (pe_ix (r := rIx K) ix_seq (pe_lst (pa_cons (pv 3) (pa_cons pe_int pa_nil))) (pe_u c__law_draw hr (by omega) (by rfl) (pa_cons (pv 0) (pa_cons pe_int pa_nil))) (fun _ _ => rfl)) pa_nil))))
      (pss_cons (ps_expr (pe_bm PySem.F.plainAttrs_list PySem.F.slot_list_append PySem.F.type_list_append mt_append (pv 7) (pa_cons (pe_tup (pa_cons (pv 8) (pa_cons (pv 10) (pa_cons (pe_ifExp (pt_cmpR op_gt (pv 5) pe_int (nomark _)) (pv 9) (pe_slice (r := rSlA K) sl_tupA (pv 9) po_none (po_some pe_int))) pa_nil)))) pa_nil)))
      (pss_one (ps_set (i := 5) sc__law_asked.nd rfl (by first | exact Or.inl rfl | exact Or.inr rfl) (pe_op op_sub (pv 5) (pe_callTy (r := rInt1) call_int1 (by rfl) G.f_int bt_int (pa_cons (pe_cmpR op_gt (pe_callB (r := rLenA K) call_len_seq (by rfl) G.f_len bt_len (pa_cons (pe_ix (r := rIx K) ix_seq (pe_ix (r := rIx K) ix_seq (pv 7) (pe_un un_neg pe_int) (fun _ _ => rfl)) pe_int (fun _ _ => rfl)) pa_nil)) pe_int (nomark _)) pa_nil))))))) pss_nil)))))
      (pss_cons (ps_set (i := 11) sc__law_asked.nd rfl (by first | exact Or.inl rfl | exact Or.inr rfl) (pe_tup (pa_cons (pe_op op_add pe_int (pe_u c__law_draw hr (by omega) (by rfl) (pa_cons (pv 0) (pa_cons pe_int pa_nil)))) (pa_cons (pe_op op_add pe_int (pe_u c__law_draw hr (by omega) (by rfl) (pa_cons (pv 0) (pa_cons pe_int pa_nil)))) (pa_cons (pe_ix (r := rIx K) ix_seq (pe_lst (pa_cons pe_int (pa_cons (pe_u c__law_draw hr (by omega) (by rfl) (pa_cons (pv 0) (pa_cons pe_int pa_nil))) pa_nil))) (pe_u c__law_draw hr (by omega) (by rfl) (pa_cons (pv 0) (pa_cons pe_int pa_nil))) (fun _ _ => rfl)) pa_nil)))))
      (pss_one (ps_ret (pe_tup (pa_cons (pe_callTy (r := rTupA K) call_tuple_of (by rfl) G.f_tuple bt_tuple (pa_cons (pv 6) pa_nil)) (pa_cons (pe_callTy (r := rTupA K) call_tuple_of (by rfl) G.f_tuple bt_tuple (pa_cons (pv 7) pa_nil)) (pa_cons (pv 11) pa_nil)))))))))), ?_⟩
  refine ⟨_, rfl, (show 0 ≤ sizeLine from Nat.zero_le _), fun a na => ⟨(show 0 ≤ sizeLine from Nat.zero_le _), fun b nb => ⟨.int 2, .ref a, .ref b, rfl, ?_⟩⟩⟩
  have eab : Ex H (upd (upd H a (.lst [])) b (.lst [])) := (ex_new na).trans (ex_new nb)
  have nHb : H b = none := fresh_of (ex_new na) nb
  have hab : a ≠ b := by rintro rfl; rw [upd_same] at nb; cases nb
  have ha0 : upd (upd H a (.lst [])) b (.lst []) a = some (.lst []) := by rw [upd_ne hab]; exact upd_same
  have hb0 : upd (upd H a (.lst [])) b (.lst []) b = some (.lst []) := upd_same
  have nea := S.ne_m na
  have neb := S.ne_m nHb
  have S0 := S.mono eab (Nat.le_refl _)
  generalize upd (upd H a (.lst [])) b (.lst []) = H0 at eab ha0 hb0 S0
  have many : EvM m c g 1 (tOp (rI0 fun i j => .int (i + j)) (tC (.int 1)) (tCall sp__law_draw [] E0 (tCons (tVar 0) (tCons (tVar 1) tNil)))) [some (.ref m), some (.int 4), some (.int 9), some (.int 100), some (.int 2), some (.int 2), some (.ref a), some (.ref b), none, none, none, none] H0 (intIn 1 (1 + 4)) := evm_add1 (evm_draw rfl (fun _ _ _ _ => evd_var rfl (.int _)) (by omega))
  refine many H0 B .refl S0 (by omega) _ fun v H1 d e1 s1 ⟨n, hd, n1, n2⟩ _ dv => ?_
  subst hd
  obtain rfl := dt_int dv
  have ha1 := e1 a _ nea.1 nea.2.2 ha0
  have hb1 := e1 b _ neb.1 neb.2.2 hb0
  have em1 : Em m g H H1 := (Em.of eab).trans e1
  refine ⟨n, rfl, by omega, by omega, ?_⟩
  refine for_it (walk_range (lo := 0) (n := n.toNat)) (fun i σ' H' => ∃ z o8 o9 xs rows, σ' = [some (.ref m), some (.int 4), some (.int 9), some (.int 100), some (.int 2), some (.int z), some (.ref a), some (.ref b), o8, o9, none, none] ∧ Em m g H H' ∧ St m c g (B + 1 + 4 * i) H' ∧ H' a = some (.lst xs) ∧ H' b = some (.lst []) ∧ DtAll H' xs (rows.map eRow) ∧ rows.length = i ∧ (∀ r ∈ rows, RowOk 9 r) ∧ 0 ≤ z ∧ z + (unk rows : Int) = 2)
    ⟨2, none, none, [], [], rfl, em1, s1, ha1, hb1, .nil, rfl, (fun _ h => nomatch h), by omega, rfl⟩ (fun i σ' H' _ _ => True.intro)
    (fun i x σ' H' H'' hi ⟨z, o8, o9, xs, rows, g1, em, st, ha, hb, dx, lr, okr, z0, zu⟩ yv => ?_) (fun σ' H' ⟨z, o8, o9, xs, rows, g1, em, st, ha, hb, dx, lr, okr, z0, zu⟩ => ?_)
  · subst g1
    obtain ⟨rfl, rfl⟩ := yv
    refine ⟨_, rfl, _, rfl, m, c, g, B + 1 + 4 * i, 9, rfl, by omega, by omega, st, fun v3 H3 row em3 st3 ok dv3 => ?_⟩
    have xt := st.extT em3
    have tp : tupOnlyAll (rows.map eRow) = true := tupOnlyAll_of fun d hd => by
      obtain ⟨r, _, rfl⟩ := List.mem_map.mp hd
      exact eRow_tup r
    have ha3 := em3 a _ nea.1 nea.2.2 ha
    have dx3 := dx.monoT xt tp
    have lxs := dx.length
    rw [List.length_map] at lxs
    refine q_app (d := eRow (cutR z row)) rfl ha3 (evd_cutR (z := z) (evd_var rfl (.int _)) (evd_var rfl dv3)) (by omega) fun v4 H4 e4 dv4 => ?_
    obtain ⟨em5, st5, ha5, dx5, xt5, oth5⟩ := app_em (em.trans em3) st3 ha3 na nea dx3 tp e4 dv4 (eRow_tup _)
    have hb5 := oth5 b _ hab.symm (em3 b _ neb.1 neb.2.2 hb)
    generalize upd H4 a (.lst (xs ++ [v4])) = H5 at em5 st5 ha5 dx5 hb5
    have hl : EvD (tOp (rIx K) (tVar 6) (tUn (rU fun i => .int (-i)) (tC (.int 1)))) [some (.ref m), some (.int 4), some (.int 9), some (.int 100), some (.int 2), some (.int z), some (.ref a), some (.ref b), some (.int (0 + (i : Int))), some v3, none, none] H5 (eRow (cutR z row)) := evd_last (evd_var rfl (.lst ha5 dx5)) (last_app _ _)
    refine (evd_less (tq := tVar 6) (z := z) (evd_var rfl (.int _)) hl : EvD _ _ H5 _) H5 (Ex.refl _) _ fun v6 H6 e6 dv6 => ?_
    obtain rfl := dt_int dv6
    refine ⟨_, _, _, xs ++ [v4], rows ++ [cutR z row], rfl, em5.ex e6, (st5.mono e6 (Nat.le_refl _)).up (by omega), e6 _ _ ha5, e6 _ _ hb5, by rw [List.map_append]; exact dx5.mono e6, by rw [List.length_append, lr]; rfl, fun r hr' => ?_, ?_, ?_⟩
    · rcases List.mem_append.mp hr' with hr' | hr'
      · exact okr r hr'
      · rw [List.mem_singleton.mp hr']; exact ok.cut z
    · split
      · have := cutR_one (z := z) (row := row) (by assumption)
        omega
      · omega
    · rw [unk_add]
      omega
  · subst g1
    have lxs := dx.length
    rw [List.length_map] at lxs
    have tp : tupOnlyAll (rows.map eRow) = true := tupOnlyAll_of fun d hd => by
      obtain ⟨r, _, rfl⟩ := List.mem_map.mp hd
      exact eRow_tup r
    have hn4 : 1 ≤ rows.length ∧ rows.length ≤ 4 := by omega
    have st1 : St m c g (B + 17) H' := st.up (by omega)
    clear st em1 s1 e1 ha1 hb1 many
    refine q_forR1 (z := ((rows.map eRow).length : Int)) (ead_cons (evd_lenL (evd_var rfl (.lst ha dx))) ead_nil) (by rw [List.length_map]; omega) (fun i σ' H' => ∃ z o8 o9 o10 ys ls, σ' = [some (.ref m), some (.int 4), some (.int 9), some (.int 100), some (.int 2), some (.int z), some (.ref a), some (.ref b), o8, o9, o10, none] ∧ Em m g H H' ∧ St m c g (B + 17 + 24 * i) H' ∧ H' a = some (.lst xs) ∧ H' b = some (.lst ys) ∧ DtAll H' xs (rows.map eRow) ∧ DtAll H' ys (ls.map eLink) ∧ Lks rows.length i 0 ls ∧ 0 ≤ z ∧ z + (unk rows : Int) + (unk (ls.map (·.2.2)) : Int) = 2)
      (fun H2 e2 => ⟨z, _, _, _, [], [], rfl, em.ex e2, st1.mono e2 (Nat.le_refl _), e2 _ _ ha, e2 _ _ hb, dx.mono e2, .nil, ⟨by simp, (fun _ h => nomatch h), (fun _ h => nomatch h), rfl⟩, z0, by show z + (unk rows : Int) + ((0 : Nat) : Int) = 2; omega⟩)
      (fun i σ' H'' hi ⟨z, o8, o9, o10, ys, ls, g1, em, st, ha, hb, dx, dy, lk, z0, zu⟩ => ?_) (fun σ' H' ⟨z, o8, o9, o10, ys, ls, g1, em, st, ha, hb, dx, dy, lk, z0, zu⟩ => ?_)
    · subst g1
      have hi4 : i < rows.length := by rw [List.length_map] at hi; omega
      have ej : ∀ j, j < (((rows.map eRow).length : Int) - (0 + (i : Int) + 1)).toNat → i + 1 + j < rows.length := fun j h => by rw [List.length_map] at h; omega
      refine s_forR2 (lo := 0 + (i : Int) + 1) (z := ((rows.map eRow).length : Int)) (ead_cons (evd_add (evd_var (d := .int (0 + (i : Int))) rfl (.int _)) evd_cint) (ead_cons (evd_lenL (evd_var rfl (.lst ha dx))) ead_nil)) (by omega) (by rw [List.length_map]; omega) (fun j σ' H' => ∃ z o9 o10 ys ls, σ' = [some (.ref m), some (.int 4), some (.int 9), some (.int 100), some (.int 2), some (.int z), some (.ref a), some (.ref b), some (.int (0 + (i : Int))), o9, o10, none] ∧ Em m g H H' ∧ St m c g (B + 17 + 24 * i + 6 * j) H' ∧ H' a = some (.lst xs) ∧ H' b = some (.lst ys) ∧ DtAll H' xs (rows.map eRow) ∧ DtAll H' ys (ls.map eLink) ∧ Lks rows.length i (i + 1 + j) ls ∧ 0 ≤ z ∧ z + (unk rows : Int) + (unk (ls.map (·.2.2)) : Int) = 2)
        (fun H3 e3 => ⟨z, _, _, ys, ls, rfl, em.ex e3, st.mono e3 (Nat.le_refl _), e3 _ _ ha, e3 _ _ hb, dx.mono e3, dy.mono e3, ⟨lk.few, lk.ok, fun l hl => by have := lk.bd l hl; omega, lk.up⟩, z0, zu⟩)
        (fun j σ' H'' hj ⟨z, o9, o10, ys, ls, g1, em, st, ha, hb, dx, dy, lk, z0, zu⟩ => ?_) (fun σ' H' ⟨z, o9, o10, ys, ls, g1, em, st, ha, hb, dx, dy, lk, z0, zu⟩ => ?_)
      · subst g1
        have hj4 := ej j hj
        have tpl : tupOnlyAll (ls.map eLink) = true := tupOnlyAll_of fun d hd => by
          obtain ⟨r, _, rfl⟩ := List.mem_map.mp hd
          exact eLink_tup r
        have lys := dy.length
        rw [List.length_map] at lys
        have dr : EvM m c g 1 (tCall sp__law_draw [] E0 (tCons (tVar 0) (tCons (tC (.int 3)) tNil))) [some (.ref m), some (.int 4), some (.int 9), some (.int 100), some (.int 2), some (.int z), some (.ref a), some (.ref b), some (.int (0 + (i : Int))), o9, some (.int (0 + (i : Int) + 1 + (j : Int))), none] H'' (intIn 0 3) := evm_draw rfl (fun _ _ _ _ => evd_cint) (by omega)
        refine dr H'' _ .refl st (by omega) _ fun v5 H5 d5 e5 s5 ⟨r, hd, r1, r2⟩ _ dv5 => ?_
        subst hd
        obtain rfl := dt_int dv5
        have em5 := em.trans e5
        have xt5 := st.extT e5
        have ha5 := e5 a _ nea.1 nea.2.2 ha
        have hb5 := e5 b _ neb.1 neb.2.2 hb
        have dx5 := dx.monoT xt5 tp
        have dy5 := dy.monoT xt5 tpl
        refine ⟨r, 0, rfl, rfl, _, rfl, ?_⟩
        cases hr0 : decide (0 < r) with
        | false =>
          exact ⟨z, _, _, ys, ls, rfl, em5, s5.up (by omega), ha5, hb5, dx5, dy5, lk.next, z0, zu⟩
        | true =>
          refine et_test (evd_lt (evd_lenL (evd_var rfl (.lst hb5 dy5))) (evd_cint (i := 6))) H5 (Ex.refl _) _ fun H6 e6 => ?_
          have em6 := em5.ex e6
          have s6 := s5.mono e6 (Nat.le_refl _)
          have ha6 := e6 _ _ ha5
          have hb6 := e6 _ _ hb5
          have dx6 := dx5.mono e6
          have dy6 := dy5.mono e6
          cases hr6 : decide ((((ls.map eLink).length : Nat) : Int) < 6) with
          | false => exact ⟨z, _, _, ys, ls, rfl, em6, s6.up (by omega), ha6, hb6, dx6, dy6, lk.next, z0, zu⟩
          | true =>
            have few : ls.length < 6 := by
              have := of_decide_eq_true hr6
              rw [List.length_map] at this
              omega
            have pk : EvM m c g (0 + (0 + 0) + 1) (tOp (rIx K) (tLst (tCons (tVar 3) (tCons (tC (.int 6)) tNil))) (tCall sp__law_draw [] E0 (tCons (tVar 0) (tCons (tC (.int 2)) tNil)))) [some (.ref m), some (.int 4), some (.int 9), some (.int 100), some (.int 2), some (.int z), some (.ref a), some (.ref b), some (.int (0 + (i : Int))), o9, some (.int (0 + (i : Int) + 1 + (j : Int))), none] H6 (fun d => ∃ n : Nat, d = .int (n : Int) ∧ 1 ≤ n ∧ n ≤ 100) := by
              refine evm_pick (Pt := (· = [.int 100, .int 6])) (Pb := intIn 0 2) (eam_cons (Pa := (· = .int 100)) (Pt := (· = [.int 6])) (evm_pure (fun _ _ _ _ => evd_var rfl (.int _)) rfl) (eam_cons (Pa := (· = .int 6)) (Pt := (· = [])) evm_int eam_nil fun d ds h1 h2 => by rw [h1, h2]) fun d ds h1 h2 => by rw [h1, h2]) (evm_draw rfl (fun _ _ _ _ => evd_cint) (by omega)) (fun ds h => by rw [h]; decide) fun ds d h1 ⟨r, h2, h3, h4⟩ => ?_
              subst h1 h2
              have : r = 0 ∨ r = 1 := by omega
              rcases this with rfl | rfl
              · exact ⟨0, .int 100, rfl, rfl, ⟨100, rfl, by omega, by omega⟩, rfl⟩
              · exact ⟨1, .int 6, rfl, rfl, ⟨6, rfl, by omega, by omega⟩, rfl⟩
            refine ⟨_, rfl, ?_⟩
            refine pk H6 _ .refl s6 (by omega) _ fun v7 H7 d7 e7 s7 ⟨n7, hd7, l7, u7⟩ _ dv7 => ?_
            subst hd7
            obtain rfl := dt_int dv7
            refine ⟨m, c, g, _, n7, rfl, by omega, by omega, s7, fun v8 H8 row e8 s8 ok dv8 => ?_⟩
            have e78 := e7.trans e8
            have xt8 := s6.extT e78
            have ha8 := e78 a _ nea.1 nea.2.2 ha6
            have hb8 := e78 b _ neb.1 neb.2.2 hb6
            have dx8 := dx6.monoT xt8 tp
            have dy8 := dy6.monoT xt8 tpl
            have okc := (ok.up' u7).cut z
            refine q_app (d := eLink (i, i + 1 + j, cutR z row)) rfl hb8 (evd_tup (ead_cons (evd_var (d := .int (i : Int)) rfl (by rw [Int.zero_add]; exact .int _)) (ead_cons (evd_var (d := .int ((i + 1 + j : Nat) : Int)) rfl (by rw [show (0 + (i : Int) + 1 + (j : Int)) = ((i + 1 + j : Nat) : Int) by omega]; exact .int _)) (ead_cons (evd_cutR (z := z) (evd_var rfl (.int _)) (evd_var rfl dv8)) ead_nil))) (by simp)) (by omega) fun v9 H9 e9 dv9 => ?_
            obtain ⟨em10, st10, hb10, dy10, xt10, oth10⟩ := app_em (em6.trans e78) s8 hb8 nHb neb dy8 tpl e9 dv9 (eLink_tup _)
            have ha10 := oth10 a _ hab ha8
            have dx10 := dx8.monoT xt10 tp
            generalize upd H9 b (.lst (ys ++ [v9])) = H10 at em10 st10 ha10 hb10 dx10 dy10
            have hl : EvD (tOp (rIx K) (tOp (rIx K) (tVar 7) (tUn (rU fun i => .int (-i)) (tC (.int 1)))) (tC (.int 2))) [some (.ref m), some (.int 4), some (.int 9), some (.int 100), some (.int 2), some (.int z), some (.ref a), some (.ref b), some (.int (0 + (i : Int))), some v8, some (.int (0 + (i : Int) + 1 + (j : Int))), none] H10 (eRow (cutR z row)) := evd_ixT (j := 2) (evd_last (evd_var rfl (.lst hb10 dy10)) (last_app _ _)) rfl
            refine (evd_less (tq := tVar 6) (z := z) (evd_var rfl (.int _)) hl : EvD _ _ H10 _) H10 (Ex.refl _) _ fun v11 H11 e11 dv11 => ?_
            obtain rfl := dt_int dv11
            refine ⟨_, _, _, ys ++ [v9], ls ++ [(i, i + 1 + j, cutR z row)], rfl, em10.ex e11, (st10.mono e11 (Nat.le_refl _)).up (by omega), e11 _ _ ha10, e11 _ _ hb10, dx10.mono e11, by rw [List.map_append]; exact dy10.mono e11, lk.add few (by omega) (by omega) okc, ?_, ?_⟩
            · split
              · have := cutR_one (z := z) (row := row) (by assumption)
                omega
              · omega
            · rw [List.map_append]
              show _ + _ + ((unk (ls.map (·.2.2) ++ [cutR z row]) : Nat) : Int) = 2
              rw [unk_add]
              omega
      · subst g1
        exact ⟨z, _, _, _, ys, ls, rfl, em, st.up (by rw [List.length_map]; omega), ha, hb, dx, dy, lk.row, z0, zu⟩
    · subst g1
      have hl4 : (((rows.map eRow).length : Nat) : Int).toNat ≤ 4 := by rw [List.length_map]; omega
      generalize (((rows.map eRow).length : Nat) : Int).toNat = ll at st lk hl4
      have tpl : tupOnlyAll (ls.map eLink) = true := tupOnlyAll_of fun d hd => by
        obtain ⟨r, _, rfl⟩ := List.mem_map.mp hd
        exact eLink_tup r
      have d9 : EvM m c g 1 (tCall sp__law_draw [] E0 (tCons (tVar 0) (tCons (tC (.int 9)) tNil))) [some (.ref m), some (.int 4), some (.int 9), some (.int 100), some (.int 2), some (.int z), some (.ref a), some (.ref b), o8, o9, o10, none] H' (intIn 0 9) := evm_draw rfl (fun _ _ _ _ => evd_cint) (by omega)
      have pr : EvM m c g (1 + (1 + (0 + (1 + 0) + 1 + 0))) (tTup (tCons (tOp (rI0 fun i j => .int (i + j)) (tC (.int 1)) (tCall sp__law_draw [] E0 (tCons (tVar 0) (tCons (tC (.int 9)) tNil)))) (tCons (tOp (rI0 fun i j => .int (i + j)) (tC (.int 1)) (tCall sp__law_draw [] E0 (tCons (tVar 0) (tCons (tC (.int 9)) tNil)))) (tCons (tOp (rIx K) (tLst (tCons (tC (.int 0)) (tCons (tCall sp__law_draw [] E0 (tCons (tVar 0) (tCons (tC (.int 9)) tNil))) tNil))) (tCall sp__law_draw [] E0 (tCons (tVar 0) (tCons (tC (.int 2)) tNil)))) tNil)))) [some (.ref m), some (.int 4), some (.int 9), some (.int 100), some (.int 2), some (.int z), some (.ref a), some (.ref b), o8, o9, o10, none] H' (fun d => ∃ ds, d = .tuple ds ∧ ∃ x y z : Nat, ds = [.int (x : Int), .int (y : Int), .int (z : Int)] ∧ (1 ≤ x ∧ x ≤ 100) ∧ (1 ≤ y ∧ y ≤ 100) ∧ z ≤ 100) := by
        refine evm_tup (eam_cons (Pa := intIn 1 (1 + 9)) (Pt := fun ds => ∃ y z : Nat, ds = [.int (y : Int), .int (z : Int)] ∧ (1 ≤ y ∧ y ≤ 100) ∧ z ≤ 100) (evm_add1 d9) (eam_cons (Pa := intIn 1 (1 + 9)) (Pt := fun ds => ∃ z : Nat, ds = [.int (z : Int)] ∧ z ≤ 100) (evm_add1 d9) (eam_cons (Pa := fun d => ∃ z : Nat, d = .int (z : Int) ∧ z ≤ 100) (Pt := (· = [])) (evm_pick (Pt := fun ds => ∃ d, intIn 0 9 d ∧ ds = [.int 0, d]) (Pb := intIn 0 2) (eam_cons (Pa := (· = .int 0)) (Pt := fun ds => ∃ d, intIn 0 9 d ∧ ds = [d]) evm_int (eam_cons (Pa := intIn 0 9) (Pt := (· = [])) d9 eam_nil fun d ds h1 h2 => ⟨d, h1, by rw [h2]⟩) fun d ds h1 ⟨d', h2, h3⟩ => ⟨d', h2, by rw [h1, h3]⟩) (evm_draw rfl (fun _ _ _ _ => evd_cint) (by omega)) (fun ds ⟨d, _, h⟩ => by rw [h]; simp) fun ds d ⟨d', ⟨r', h3, h4, h5⟩, h1⟩ ⟨r, h2, h6, h7⟩ => ?_) eam_nil fun d ds ⟨z, h1, h3⟩ h2 => ⟨z, by rw [h1, h2], h3⟩) fun d ds ⟨y, h1, h2, h3⟩ ⟨z, h4, h5⟩ => ⟨y.toNat, z, by rw [h1, h4, Int.toNat_of_nonneg (by omega)], by omega, h5⟩) fun d ds ⟨x, h1, h2, h3⟩ ⟨y, z, h4, h5, h6⟩ => ⟨x.toNat, y, z, by rw [h1, h4, Int.toNat_of_nonneg (by omega)], by omega, h5, h6⟩) fun ds ⟨x, y, z, h, _⟩ => by rw [h]; simp
        subst h1 h2 h3
        have : r = 0 ∨ r = 1 := by omega
        rcases this with rfl | rfl
        · exact ⟨0, .int 0, rfl, rfl, ⟨0, rfl, by omega⟩, rfl⟩
        · exact ⟨1, .int r', rfl, rfl, ⟨r'.toNat, by rw [Int.toNat_of_nonneg h4], by omega⟩, rfl⟩
      refine q_asgM pr st (by omega) fun v3 H3 d3 e3 s3 ⟨ds, hd, p1, p2, p3, hds, k1, k2, k3⟩ _ dv3 => ?_
      subst hd hds
      have xt3 := st.extT e3
      have ha3 := e3 a _ nea.1 nea.2.2 ha
      have hb3 := e3 b _ neb.1 neb.2.2 hb
      have dx3 := dx.monoT xt3 tp
      have dy3 := dy.monoT xt3 tpl
      refine s_ret (d := eQ ⟨rows, ls, (p1, p2, p3)⟩) (evd_tup (ead_cons (evd_tupL (evd_var rfl (.lst ha3 dx3))) (ead_cons (evd_tupL (evd_var rfl (.lst hb3 dy3))) (ead_cons (evd_var rfl dv3) ead_nil))) (by simp)) fun v4 H4 e4 dv4 => ?_
      refine q v4 H4 ⟨rows, ls, (p1, p2, p3)⟩ ((em.trans e3).ex e4) ((s3.mono e4 (Nat.le_refl _)).up (by omega)) ⟨hn4, fun r hr' => (okr r hr').up' (by omega), lk.few, lk.ok, lk.up, ⟨k1, k2, k3⟩, ?_⟩ dv4
      rw [List.filter_append, List.length_append]
      show unk rows + unk (ls.map (·.2.2)) ≤ 6
      omega

end
end Pc
/-! the law: drawn plans -/
namespace Pc
open PySem PySem.Spec PyProof.Rows L2
open Evl (Ex EvT)
open StX (tStar pa_star)
section
variable {P : Program} {w : World} {K : PySem.W.Frag} {mg : Str → Option Value} {base : Heap}


abbrev vN (L : List Nat) : List V := L.map fun t : Nat => V.int (t : Int)
theorem dtN {H : Hp} : ∀ {L : List Nat}, DtAll H (vN L) (eNs L)
  | [] => .nil
  | t :: L => .cons (.int _) dtN
theorem vN_add (L : List Nat) (x : Nat) : vN L ++ [V.int (x : Int)] = vN (L ++ [x]) := by
  show _ = List.map _ (L ++ [x])
  rw [List.map_append]
  rfl
theorem vN_erase : ∀ (L : List Nat) (k : Nat), (vN L).eraseIdx k = vN (L.eraseIdx k)
  | [], _ => rfl
  | _ :: _, 0 => rfl
  | x :: L, k + 1 => congrArg (V.int (x : Int) :: ·) (vN_erase L k)
theorem erase_perm : ∀ (L : List Nat) (k : Nat) (h : k < L.length), (L[k] :: L.eraseIdx k).Perm L
  | _ :: _, 0, _ => .refl _
  | x :: L, k + 1, h => (List.Perm.swap x _ _).trans (List.Perm.cons x (erase_perm L k (by simpa using h)))
def planOf (L : List Nat) (d : PyData) : Prop := ∃ p : Pl, d = eP p ∧ p.leaves.Perm L ∧ p.good = true
def sp__law_scheme (n : Nat) : Sp := fun vs H Q _ => ∃ (m c g a : Addr) (B : Nat) (L : List Nat), vs = [.ref m, .ref a] ∧ H a = some (.lst (vN L)) ∧ (a ≠ m ∧ a ≠ c ∧ a ≠ g) ∧ (1 ≤ L.length ∧ L.length ≤ n) ∧ B + 10 * (L.length - 1) ≤ 1000000 ∧ St m c g B H ∧
  ∀ v H' p, Em m g H H' → St m c g (B + 10 * (L.length - 1)) H' → p.leaves.Perm L → p.good = true → Dt H' v (eP p) → Q v H'
theorem cl_none {P : Program} {w : World} {K : PySem.W.Frag} {mg : Str → Option Value} {base : Heap} {x : Str} {st : Stmt} {ps : List Str} (D : Df K mg x st)
    (hb : ∀ (kV doc pm : Value) (an : Option Addr) (cdv ct : Value) (us : List Value), us.length = ps.length → bindArgs (PySem.W.fnOf x x (defArgs st) (defBody st) (defScope st) .none kV doc pm an cdv ct) ⟨us, []⟩ = pure (ps.zip us))
    {sp : Sp} (hR : ∀ vs H Q E, ¬ sp vs H Q E) (k : Nat) : Cl P w K mg base k x sp := by
  obtain ⟨f, fd, F, m⟩ := D.ex
  exact ⟨f, fd, ps, ⟨fun vs H Q E h => (hR vs H Q E h).elim, fun A outer s H args us vs Q E _ _ _ _ h => (hR vs H Q E h).elim⟩, m, F.kp, F.bindsN hb⟩
section
variable {m c g x : Addr} {n i : Nat} {σ : L2.St} {H : Hp} {L : List Nat}
theorem evm_scheme (hm : σ[0]? = some (some (.ref m))) (hx : σ[i]? = some (some (.ref x))) (hl : H x = some (.lst (vN L))) (ne : x ≠ m ∧ x ≠ c ∧ x ≠ g) (hz : 1 ≤ L.length ∧ L.length ≤ n) : EvM m c g (10 * (L.length - 1)) (tCall (sp__law_scheme n) [] E0 (tCons (tVar 0) (tCons (tVar i) tNil))) σ H (planOf L) := fun H1 B e s z Q q =>
  ⟨_, hm, _, hx, m, c, g, x, B, L, rfl, e _ _ ne.1 ne.2.2 hl, ne, hz, z, s, fun v H2 p e2 s2 pp gg dv => q v H2 _ e2 s2 ⟨p, rfl, pp, gg⟩ (eP_tup p) dv⟩
end
theorem q_ifI {σ : L2.St} {H : Hp} {tt : TT} {t1 tz : TS} {D : Ends} {p : Bool} (I : L2.St → Hp → Prop) (h : EvT tt σ H p) (h1 : p = true → ∀ H1, Ex H H1 → ∀ N : L2.St → Hp → Prop, (∀ σ' H', I σ' H' → N σ' H') → t1 { D with nx := N } σ H1) (h2 : p = false → ∀ H1, Ex H H1 → I σ H1) (k : ∀ σ' H', I σ' H' → tz D σ' H') :
    tSeq (tIfS tt t1 tNext) tz D σ H := q_if h (fun hp H1 e1 => h1 hp H1 e1 _ k) fun hp H1 e1 => k _ _ (h2 hp H1 e1)
theorem isT_one {p : Pl} {L : List Nat} (h : p.leaves.Perm L) (hz : L.length = 1) : p.isT = true := by
  have e := h.length_eq
  rw [p.leaves_len, hz] at e
  cases p with
  | tab t => rfl
  | node h l r => rw [Pl.nn] at e; omega


theorem cl__law_scheme (G : Gs K mg) (D : Df K mg "_law_scheme" s__law_scheme) (c__law_draw : Cl P w K mg base 2 "_law_draw" sp__law_draw) : ∀ n, n ≤ 9 → Cl P w K mg base (n + 3) "_law_scheme" (sp__law_scheme n)
  | 0, _ => cl_none (ps := P__law_scheme) D (fun _ _ _ _ _ _ us hl => match us, hl with | [_, _], _ => rfl) (fun vs H Q E ⟨m, c, g, a, B, L, _, _, _, h, _⟩ => by omega) _
  | n + 1, hn => by
    have c__law_scheme := cl__law_scheme G D c__law_draw n (by omega)
    refine cl_of (k := n + 3) D sc__law_scheme (fun _ _ _ _ _ _ us hl => match us, hl with | [_, _], _ => rfl) (fun vs H Q E ⟨m, c, g, a, B, L, h, _⟩ => by rw [h]; rfl) fun f cdv A outer s H vs Q E hr hsp => ?_
    obtain ⟨m, c, g, a, B, L, rfl, ha, nea, hz, hB, S, q⟩ := hsp
    refine ⟨_, (pss_cons (ps_if (pt_cmpR (r := rEqD K) (op_eqD hr.units) (pe_callB (r := rLenA K) call_len_seq (by rfl) G.f_len bt_len (pa_cons (pv 1) pa_nil)) pe_int (nomark _)) (pss_one (ps_ret (pe_ix (r := rIx K) ix_seq (pv 1) pe_int (fun _ _ => rfl)))) pss_nil)
      (pss_cons (ps_par (i := 2) (j := 3) rfl sc__law_scheme.nd rfl rfl (by decide) rfl rfl (pa_cons (pe_lst pa_nil) (pa_cons (pe_callTy (r := rListA K) call_list_of (by rfl) G.f_list bt_list (pa_cons (pv 1) pa_nil)) pa_nil)) (by rfl))
      (pss_cons (ps_for PassesOwn.never rfl (pi_range1 (by rfl) G.f_range (pa_cons (pe_op op_add pe_int (pe_u c__law_draw hr (by omega) (by rfl) (pa_cons (pv 0) (pa_cons (pe_op op_sub (pe_callB (r := rLenA K) call_len_seq (by rfl) G.f_len bt_len (pa_cons (pv 1) pa_nil)) pe_int) pa_nil)))) pa_nil)) (pg_name (i := 4) sc__law_scheme.nd rfl (by first | exact Or.inl rfl | exact Or.inr rfl)) (pss_one (ps_expr (pe_bm PySem.F.plainAttrs_list PySem.F.slot_list_append PySem.F.type_list_append mt_append (pv 2) (pa_cons (pe_bm PySem.F.plainAttrs_list PySem.F.slot_list_pop PySem.F.type_list_pop mt_popAt (pv 3) (pa_cons (pe_u c__law_draw hr (by omega) (by rfl) (pa_cons (pv 0) (pa_cons (pe_callB (r := rLenA K) call_len_seq (by rfl) G.f_len bt_len (pa_cons (pv 3) pa_nil)) pa_nil))) pa_nil)) pa_nil)))))
      (pss_cons (ps_set (i := 5) sc__law_scheme.nd rfl (by first | exact Or.inl rfl | exact Or.inr rfl) (pe_ix (r := rIx K) ix_seq (pe_lst (pa_cons pe_str (pa_cons pe_str (pa_cons pe_str pa_nil)))) (pe_u c__law_draw hr (by omega) (by rfl) (pa_cons (pv 0) (pa_cons pe_int pa_nil))) (fun _ _ => rfl)))
      (pss_cons (ps_if (PW.pt (pw_and (pt_cmpR (r := rEqD K) (op_eqD hr.units) (pv 5) pe_str (nomark _)) (pw_and1 (pt_cmpR op_gt (pe_callB (r := rLenA K) call_len_seq (by rfl) G.f_len bt_len (pa_cons (pv 3) pa_nil)) pe_int (nomark _))))) (pss_one (ps_asg (pe_ix (r := rIx K) ix_seq (pe_lst (pa_cons (pe_tup (pa_cons pe_str (pa_cons (pv 3) (pa_cons (pv 2) pa_nil)))) (pa_cons (pe_tup (pa_cons pe_str (pa_cons (pv 2) (pa_cons (pv 3) pa_nil)))) pa_nil))) (pe_callTy (r := rInt1) call_int1 (by rfl) G.f_int bt_int (pa_cons (pe_cmpR op_gt (pe_callB (r := rLenA K) call_len_seq (by rfl) G.f_len bt_len (pa_cons (pv 2) pa_nil)) pe_int (nomark _)) pa_nil)) (fun _ _ => rfl)) (pg_tup rfl (pgs_cons (pg_name (i := 5) sc__law_scheme.nd rfl (by first | exact Or.inl rfl | exact Or.inr rfl)) (pgs_cons (pg_name (i := 2) sc__law_scheme.nd rfl (by first | exact Or.inl rfl | exact Or.inr rfl)) (pgs_cons (pg_name (i := 3) sc__law_scheme.nd rfl (by first | exact Or.inl rfl | exact Or.inr rfl)) pgs_nil)))))) pss_nil)
      (pss_one (ps_ret (pe_tup (pa_cons (pv 5) (pa_cons (pe_u c__law_scheme hr (by omega) (by rfl) (pa_cons (pv 0) (pa_cons (pv 2) pa_nil))) (pa_cons (pe_u c__law_scheme hr (by omega) (by rfl) (pa_cons (pv 0) (pa_cons (pv 3) pa_nil))) pa_nil))))))))))), ?_⟩
    refine q_when (et_test (evd_eq (evd_lenL (evd_var rfl (.lst ha dtN))) (evd_cint (i := 1)))) (fun h1 H1 e1 => ?_) fun h1 H1 e1 => ?_
    · have h1' : L.length = 1 := by
        have z : ((eNs L).length : Int) = 1 := by simpa [PyData.eqv] using h1
        rw [eNs_length] at z
        omega
      obtain ⟨t, rfl⟩ := List.length_eq_one_iff.mp h1'
      exact s_ret (d := .int (t : Int)) (evd_op (evd_var rfl (.lst (e1 _ _ ha) dtN)) (evd_cint (i := ((0 : Nat) : Int))) (rd_ixL rfl)) fun v H2 e2 dv => q v H2 (.tab t) (.of (e1.trans e2)) (S.mono (e1.trans e2) (by omega)) (.refl _) rfl dv
    have h1' : L.length ≠ 1 := fun z => by
      have : PyData.eqv (.int ((eNs L).length : Int)) (.int 1) = true := by rw [eNs_length, z]; rfl
      rw [this] at h1
      cases h1
    have ha1 := e1 _ _ ha
    have S1 := S.mono e1 (Nat.le_refl _)
    -- near, far
    refine ⟨(show 0 ≤ sizeLine from Nat.zero_le _), fun nA hnA => ⟨_, rfl, a, vN L, rfl, .inl (SqL.of ((ex_new hnA) _ _ ha1)), fun fA hfA => ⟨.ref nA, .ref fA, rfl, ?_⟩⟩⟩
    have e2 : Ex H1 (upd (upd H1 nA (.lst [])) fA (.lst (vN L))) := (ex_new hnA).trans (ex_new hfA)
    have hfA1 : H1 fA = none := fresh_of (ex_new hnA) hfA
    have nf : nA ≠ fA := by rintro rfl; rw [upd_same] at hfA; cases hfA
    have haN : upd (upd H1 nA (.lst [])) fA (.lst (vN L)) nA = some (.lst (vN [])) := by rw [upd_ne nf]; exact upd_same
    have haF : upd (upd H1 nA (.lst [])) fA (.lst (vN L)) fA = some (.lst (vN L)) := upd_same
    have S2 := S1.mono e2 (Nat.le_refl _)
    have neN := S1.ne_m hnA
    have neF := S1.ne_m hfA1
    have ha2 := e2 _ _ ha1
    generalize upd (upd H1 nA (.lst [])) fA (.lst (vN L)) = H2 at e2 haN haF S2 ha2
    have naN := hnA
    have many : EvM m c g 1 (tOp (rI0 fun i j => .int (i + j)) (tC (.int 1)) (tCall sp__law_draw [] E0 (tCons (tVar 0) (tCons (tOp (rI0 fun i j => .int (i - j)) (tCB (rLenA K) (tCons (tVar 1) tNil)) (tC (.int 1))) tNil)))) [some (.ref m), some (.ref a), some (.ref nA), some (.ref fA), none, none] H2 (intIn 1 (1 + (((eNs L).length : Int) - 1))) := evm_add1 (evm_draw rfl (fun H3 B3 e3 s3 => evd_sub (evd_lenL (evd_var rfl (.lst (e3 _ _ nea.1 nea.2.2 ha2) dtN))) evd_cint) (by rw [eNs_length]; omega))
    refine many H2 B .refl S2 (by omega) _ fun v3 H3 d3 e3 s3 ⟨k, hd, k1, k2⟩ _ dv3 => ?_
    subst hd
    obtain rfl := dt_int dv3
    rw [eNs_length] at k2
    refine ⟨k, rfl, by omega, by omega, ?_⟩
    have em3 : Em m g H1 H3 := (Em.of e2).trans e3
    refine for_it (walk_range (lo := 0) (n := k.toNat)) (fun i σ' H' => ∃ o4 N F, σ' = [some (.ref m), some (.ref a), some (.ref nA), some (.ref fA), o4, none] ∧ Em m g H1 H' ∧ St m c g (B + 1 + i) H' ∧ H' nA = some (.lst (vN N)) ∧ H' fA = some (.lst (vN F)) ∧ N.length = i ∧ (N ++ F).Perm L)
      ⟨none, [], L, rfl, em3, s3, e3 _ _ neN.1 neN.2.2 haN, e3 _ _ neF.1 neF.2.2 haF, rfl, .refl _⟩ (fun i σ' H' _ _ => True.intro) (fun i x σ' H' H'' hi ⟨o4, N, F, g1, em, st, hN, hF, lN, pm⟩ yv => ?_) (fun σ' H' ⟨o4, N, F, g1, em, st, hN, hF, lN, pm⟩ => ?_)
    · subst g1
      obtain ⟨rfl, rfl⟩ := yv
      have lF := pm.length_eq
      rw [List.length_append] at lF
      refine ⟨_, rfl, ty_lst hN, _, rfl, ty_lst hF, ?_⟩
      have dr : EvM m c g 1 (tCall sp__law_draw [] E0 (tCons (tVar 0) (tCons (tCB (rLenA K) (tCons (tVar 3) tNil)) tNil))) [some (.ref m), some (.ref a), some (.ref nA), some (.ref fA), some (.int (0 + (i : Int))), none] H'' (intIn 0 ((eNs F).length : Int)) := evm_draw rfl (fun H5 B5 e5 s5 => evd_lenL (evd_var rfl (.lst (e5 _ _ neF.1 neF.2.2 hF) dtN))) (by rw [eNs_length]; omega)
      refine dr H'' _ .refl st (by omega) _ fun v5 H5 d5 e5 s5 ⟨r, hd, r1, r2⟩ _ dv5 => ?_
      subst hd
      obtain rfl := dt_int dv5
      rw [eNs_length] at r2
      have hr2 : r.toNat < F.length := by omega
      refine ⟨fA, vN F, r, r.toNat, V.int (F[r.toNat] : Int), rfl, rfl, e5 _ _ neF.1 neF.2.2 hF, by omega, by omega, seqIndex_of r1 (by rw [List.length_map]; omega), by rw [List.getElem?_map, List.getElem?_eq_getElem hr2]; rfl, ?_⟩
      have hN5 : upd H5 fA (.lst ((vN F).eraseIdx r.toNat)) nA = some (.lst (vN N)) := by rw [upd_ne nf]; exact e5 _ _ neN.1 neN.2.2 hN
      refine ⟨nA, vN N, _, rfl, rfl, hN5, Evl.sz_lt (by rw [List.length_map]; omega), ?_⟩
      refine ⟨_, N ++ [F[r.toNat]], F.eraseIdx r.toNat, rfl, ((em.trans e5).mut hfA1).mut hnA, (s5.put neF).put neN, ?_, ?_, by rw [List.length_append, lN]; rfl, ?_⟩
      · rw [upd_same, vN_add]
      · rw [upd_ne nf.symm, upd_same, vN_erase]
      · refine List.Perm.trans ?_ pm
        rw [List.append_assoc]
        exact List.Perm.append_left N (erase_perm F _ hr2)
    · subst g1
      have lF := pm.length_eq
      rw [List.length_append] at lF
      have pk : EvM m c g (0 + (0 + (0 + 0)) + 1) (tOp (rIx K) (tLst (tCons (tC (.str "nested")) (tCons (tC (.str "hashed")) (tCons (tC (.str "probed")) tNil)))) (tCall sp__law_draw [] E0 (tCons (tVar 0) (tCons (tC (.int 3)) tNil)))) [some (.ref m), some (.ref a), some (.ref nA), some (.ref fA), o4, none] H' (fun d => ∃ h : How, d = .str h.str) := by
        have st1 : ∀ z : Str, EvM m c g 0 (tC (.str z)) [some (.ref m), some (.ref a), some (.ref nA), some (.ref fA), o4, none] H' (· = .str z) := fun z => evm_pure (fun _ _ _ _ => evd_cstr) rfl
        refine evm_pick (Pt := (· = [.str How.nested.str, .str How.hashed.str, .str How.probed.str])) (Pb := intIn 0 3) (eam_cons (Pt := (· = [.str How.hashed.str, .str How.probed.str])) (st1 _) (eam_cons (Pt := (· = [.str How.probed.str])) (st1 _) (eam_cons (Pt := (· = [])) (st1 _) eam_nil fun d ds h1 h2 => by rw [h1, h2]; rfl) fun d ds h1 h2 => by rw [h1, h2]; rfl) fun d ds h1 h2 => by rw [h1, h2]; rfl) (evm_draw rfl (fun _ _ _ _ => evd_cint) (by omega)) (fun ds h => by rw [h]; simp) fun ds d h1 ⟨r, h2, h3, h4⟩ => ?_
        subst h1 h2
        have : r = 0 ∨ r = 1 ∨ r = 2 := by omega
        rcases this with rfl | rfl | rfl
        · exact ⟨0, _, rfl, rfl, ⟨.nested, rfl⟩, rfl⟩
        · exact ⟨1, _, rfl, rfl, ⟨.hashed, rfl⟩, rfl⟩
        · exact ⟨2, _, rfl, rfl, ⟨.probed, rfl⟩, rfl⟩
      refine q_asgM pk st (by omega) fun v4 H4 d4 e4 s4 ⟨h, hd⟩ _ dv4 => ?_
      subst hd
      have hN4 := e4 _ _ neN.1 neN.2.2 hN
      have hF4 := e4 _ _ neF.1 neF.2.2 hF
      have em4 := em.trans e4
      refine q_ifI (fun σ' H' => ∃ (h' : How) (x2 x3 : Addr) (N2 F2 : List Nat) (v5 : V), σ' = [some (.ref m), some (.ref a), some (.ref x2), some (.ref x3), o4, some v5] ∧ Ex H4 H' ∧ Dt H' v5 (.str h'.str) ∧ H' x2 = some (.lst (vN N2)) ∧ H' x3 = some (.lst (vN F2)) ∧ (x2 ≠ m ∧ x2 ≠ c ∧ x2 ≠ g) ∧ (x3 ≠ m ∧ x3 ≠ c ∧ x3 ≠ g) ∧ (N2 ++ F2).Perm L ∧ 1 ≤ N2.length ∧ 1 ≤ F2.length ∧ (h' = .probed → F2.length = 1))
        (et_and (et_test (evd_eq (evd_var rfl dv4) (evd_cstr (x := How.probed.str)) (sh_how h) (sh_how .probed))) fun _ => et_test (evd_gt (evd_lenL (evd_var rfl (.lst hF4 dtN))) (evd_cint (i := 1)))) (fun hc H5 e5 Nx nx => ?_) (fun hc H5 e5 => ?_) (fun σ' H' ⟨h', x2, x3, N2, F2, v5, g1, e5, dv5, hx2, hx3, ne2, ne3, pm2, l2, l3, hp⟩ => ?_)
      · rw [Bool.and_eq_true, eqv_how, eNs_length] at hc
        have hF1 : 1 < F.length := by have := of_decide_eq_true hc.2; omega
        have hN5 := e5 _ _ hN4
        have hF5 := e5 _ _ hF4
        refine ⟨_, rfl, _, rfl, sz5 (by simp), fun t1 ht1 => ⟨_, rfl, _, rfl, sz5 (by simp), fun t2 ht2 => ⟨sz5 (by simp), fun l hl => ?_⟩⟩⟩
        have e6 := (ex_new (o := .tup [.str "probed", .ref fA, .ref nA]) ht1).trans ((ex_new (o := .tup [.str "hashed", .ref nA, .ref fA]) ht2).trans (ex_new (o := .lst [.ref t1, .ref t2]) hl))
        have t1' : upd (upd (upd H5 t1 (.tup [.str "probed", .ref fA, .ref nA])) t2 (.tup [.str "hashed", .ref nA, .ref fA])) l (.lst [.ref t1, .ref t2]) t1 = some (.tup [.str "probed", .ref fA, .ref nA]) := ((ex_new ht2).trans (ex_new hl)) _ _ upd_same
        have t2' : upd (upd (upd H5 t1 (.tup [.str "probed", .ref fA, .ref nA])) t2 (.tup [.str "hashed", .ref nA, .ref fA])) l (.lst [.ref t1, .ref t2]) t2 = some (.tup [.str "hashed", .ref nA, .ref fA]) := (ex_new hl) _ _ upd_same
        have l' : upd (upd (upd H5 t1 (.tup [.str "probed", .ref fA, .ref nA])) t2 (.tup [.str "hashed", .ref nA, .ref fA])) l (.lst [.ref t1, .ref t2]) l = some (.lst [.ref t1, .ref t2]) := upd_same
        have hN6 := e6 _ _ hN5
        have hF6 := e6 _ _ hF5
        generalize upd (upd (upd H5 t1 (.tup [.str "probed", .ref fA, .ref nA])) t2 (.tup [.str "hashed", .ref nA, .ref fA])) l (.lst [.ref t1, .ref t2]) = H6 at e6 t1' t2' l' hN6 hF6
        have hi : EvD (tCB rInt1 (tCons (tOp (rI0 fun i j => .bl (decide (j < i))) (tCB (rLenA K) (tCons (tVar 2) tNil)) (tC (.int 1))) tNil)) [some (.ref m), some (.ref a), some (.ref nA), some (.ref fA), o4, some v4] H6 (.int (if decide (1 < ((eNs N).length : Int)) then 1 else 0)) := evd_intB (evd_gt (evd_lenL (evd_var rfl (.lst hN6 dtN))) evd_cint)
        refine hi H6 (Ex.refl _) _ fun vi H7 e7 dvi => ?_
        obtain rfl := dt_int dvi
        have eH := e5.trans (e6.trans e7)
        rw [eNs_length]
        by_cases hn1 : 1 < N.length
        · rw [if_pos (decide_eq_true (by omega))]
          refine .inl ⟨l, _, 1, .ref t2, rfl, rfl, SqL.of (e7 _ _ l'), rfl, ?_⟩
          exact ⟨t2, _, rfl, SqT.of (e7 _ _ t2'), rfl, _, _, rfl, _, _, rfl, _, _, rfl, rfl, nx _ _ ⟨.hashed, nA, fA, N, F, _, rfl, eH, .str _, e7 _ _ hN6, e7 _ _ hF6, neN, neF, pm, by omega, by omega, fun z => nomatch z⟩⟩
        · rw [if_neg (by rw [decide_eq_false (by omega)]; exact Bool.false_ne_true)]
          refine .inl ⟨l, _, 0, .ref t1, rfl, rfl, SqL.of (e7 _ _ l'), rfl, ?_⟩
          exact ⟨t1, _, rfl, SqT.of (e7 _ _ t1'), rfl, _, _, rfl, _, _, rfl, _, _, rfl, rfl, nx _ _ ⟨.probed, fA, nA, F, N, _, rfl, eH, .str _, e7 _ _ hF6, e7 _ _ hN6, neF, neN, List.perm_append_comm.trans pm, by omega, by omega, fun _ => by omega⟩⟩
      · rw [eqv_how, eNs_length] at hc
        refine ⟨h, nA, fA, N, F, v4, rfl, e5, dv4.mono e5, e5 _ _ hN4, e5 _ _ hF4, neN, neF, pm, by omega, by omega, fun z => ?_⟩
        rw [decide_eq_true z, Bool.true_and] at hc
        have := of_decide_eq_false hc
        omega
      · subst g1
        have lL := pm2.length_eq
        rw [List.length_append] at lL
        have s5 := s4.mono e5 (Nat.le_refl _)
        have tp : EvM m c g (0 + (10 * (N2.length - 1) + (10 * (F2.length - 1) + 0))) (tTup (tCons (tVar 5) (tCons (tCall (sp__law_scheme n) [] E0 (tCons (tVar 0) (tCons (tVar 2) tNil))) (tCons (tCall (sp__law_scheme n) [] E0 (tCons (tVar 0) (tCons (tVar 3) tNil))) tNil)))) [some (.ref m), some (.ref a), some (.ref x2), some (.ref x3), o4, some v5] H' (fun d => ∃ ds, d = .tuple ds ∧ ∃ d1 d2, ds = [.str h'.str, d1, d2] ∧ planOf N2 d1 ∧ planOf F2 d2) :=
          evm_tup (eam_cons (Pa := (· = .str h'.str)) (Pt := fun ds => ∃ d1 d2, ds = [d1, d2] ∧ planOf N2 d1 ∧ planOf F2 d2) (evm_pure (fun H6 B6 e6 s6 => evd_var rfl (dv5.monoT (s5.extT e6) rfl)) rfl) (eam_cons (Pa := planOf N2) (Pt := fun ds => ∃ d2, ds = [d2] ∧ planOf F2 d2) (evm_scheme rfl rfl hx2 ne2 (by omega)) (eam_cons (Pa := planOf F2) (Pt := (· = [])) (evm_scheme rfl rfl hx3 ne3 (by omega)) eam_nil fun d ds h1 h2 => ⟨d, by rw [h2], h1⟩) fun d ds h1 ⟨d2, h2, h3⟩ => ⟨d, d2, by rw [h2], h1, h3⟩) fun d ds h1 ⟨d1, d2, h2, h3, h4⟩ => ⟨d1, d2, by rw [h1, h2], h3, h4⟩) fun ds ⟨d1, d2, h, _⟩ => by rw [h]; simp
        refine s_retM tp s5 (by omega) fun v6 H6 d6 e6 s6 ⟨ds, hd, d1, d2, hds, ⟨p1, h1, pp1, gg1⟩, ⟨p2, h2, pp2, gg2⟩⟩ _ dv6 => ?_
        subst hd hds h1 h2
        refine q v6 H6 (.node h' p1 p2) ((Em.of e1).trans ((em4.ex e5).trans e6)) (s6.up (by omega)) ((List.Perm.append pp1 pp2).trans pm2) ?_ dv6
        show (!(decide (h' = .probed) && !p2.isT) && (p1.good && p2.good)) = true
        rw [gg1, gg2]
        by_cases z : h' = .probed
        · rw [isT_one pp2 (hp z), decide_eq_true z]; rfl
        · rw [decide_eq_false z]; rfl

end
end Pc
/-! the law: a drawn plan of a kind -/
namespace Pc
open PySem PySem.Spec PyProof.Rows L2
open Evl (Ex EvT)
open StX (tStar pa_star)
section
variable {P : Program} {w : World} {K : PySem.W.Frag} {mg : Str → Option Value} {base : Heap}


theorem rg_vN (k : Nat) : rgV 0 (k : Int) = vN (List.range k) := by
  unfold rgV
  rw [Int.sub_zero, Int.toNat_natCast]
  refine List.map_congr_left fun i _ => ?_
  rw [Int.zero_add]
def sp__law_linked_scheme : Sp := fun vs H Q _ => ∃ (m c g : Addr) (B : Nat) (x : V) (y : Qy), vs = [.ref m, x] ∧ Dt H x (eQ y) ∧ Qok y ∧ B + 200 ≤ 1000000 ∧ St m c g B H ∧
  ∀ v H' p k, Em m g H H' → St m c g (B + 200) H' → OkK y k p → Dt H' v (.tuple [eP p, .str k.str]) → Q v H'
theorem eQ_tupO (y : Qy) : tupOnly (eQ y) = true := by
  have a : tupOnlyAll (y.sizes.map eRow) = true := tupOnlyAll_of fun d hd => by
    obtain ⟨r, _, rfl⟩ := List.mem_map.mp hd
    exact eRow_tup r
  have b : tupOnlyAll (y.links.map eLink) = true := tupOnlyAll_of fun d hd => by
    obtain ⟨r, _, rfl⟩ := List.mem_map.mp hd
    exact eLink_tup r
  show (tupOnlyAll (y.sizes.map eRow) && (tupOnlyAll (y.links.map eLink) && _)) = true
  rw [a, b]
  rfl


theorem cl__law_linked_scheme (G : Gs K mg) (D : Df K mg "_law_linked_scheme" s__law_linked_scheme) (c__law_draw : Cl P w K mg base 2 "_law_draw" sp__law_draw) (c__law_scheme : Cl P w K mg base 7 "_law_scheme" (sp__law_scheme 4)) (c__law_no_cross : Cl P w K mg base 20 "_law_no_cross" (spR (R__law_no_cross 9))) : Cl P w K mg base 21 "_law_linked_scheme" sp__law_linked_scheme := by
  refine cl_of (k := 20) D sc__law_linked_scheme (fun _ _ _ _ _ _ us hl => match us, hl with | [_, _], _ => rfl) (fun vs H Q E ⟨m, c, g, B, x, y, h, _⟩ => by rw [h]; rfl) fun f cdv A outer s H vs Q E hr hsp => ?_
  obtain ⟨m, c, g, B, x, y, rfl, dx, ok, hB, S, q⟩ := hsp
  refine ⟨_, (pss_cons (ps_setLc (i := 2) (own := [("_law_k", 4)]) (g := (gName 4)) (tt := tYes) rfl sc__law_linked_scheme.nd rfl rfl (sw_true rfl rfl rfl (by decide +kernel)) (pi_range1 (by rfl) G.f_range (pa_cons pe_int pa_nil)) (blkOk_by (own := [("_law_k", 4)]) (N := N__law_linked_scheme) (sc := defScope s__law_linked_scheme) (by decide +kernel)) (fun _ _ _ _ _ => (pg_name (i := 4) sc__law_linked_scheme.nd rfl (by first | exact Or.inl rfl | exact Or.inr rfl))) (fun _ _ _ _ _ => pts_nil) (fun _ _ _ _ _ => (pe_u c__law_scheme hr (by omega) (by rfl) (pa_cons (pv 0) (pa_cons (pe_listRg rfl (by rfl) G.f_list (prg_1 (by rfl) G.f_range (pe_callB (r := rLenA K) call_len_seq (by rfl) G.f_len bt_len (pa_cons (pe_ix (r := rIx K) ix_seq (pv 1) pe_int (fun _ _ => rfl)) pa_nil)))) pa_nil)))))
      (pss_cons (ps_setLc (i := 3) (own := [("_law_one", 5)]) (g := (gName 5)) rfl sc__law_linked_scheme.nd rfl rfl (sw_true rfl rfl rfl (by decide +kernel)) (pi_list (pv 2)) (blkOk_by (own := [("_law_one", 5)]) (N := N__law_linked_scheme) (sc := defScope s__law_linked_scheme) (by decide +kernel)) (fun _ _ _ _ _ => (pg_name (i := 5) sc__law_linked_scheme.nd rfl (by first | exact Or.inl rfl | exact Or.inr rfl))) (fun _ _ _ _ _ => (pts_one (pt_val (pe_u c__law_no_cross hr (by omega) (by rfl) (pa_cons (pv 1) (pa_cons (pv 5) pa_nil)))))) (fun _ _ _ _ _ => (pv 5)))
      (pss_one (ps_ret (pe_ifExp (PW.pt (pw_and (pt_cmpR (r := rNeD K) (op_neD hr.units) (pv 3) (pe_lst pa_nil) (nomark _)) (pw_and1 (pt_cmpR (r := rEqD K) (op_eqD hr.units) (pe_u c__law_draw hr (by omega) (by rfl) (pa_cons (pv 0) (pa_cons pe_int pa_nil))) pe_int (nomark _))))) (pe_tup (pa_cons (pe_ix (r := rIx K) ix_seq (pv 3) pe_int (fun _ _ => rfl)) (pa_cons pe_str pa_nil))) (pe_tup (pa_cons (pe_ix (r := rIx K) ix_seq (pv 2) pe_int (fun _ _ => rfl)) (pa_cons pe_str pa_nil)))))))), ?_⟩
  refine ⟨6, rfl, by omega, by omega, fun L nL => ?_⟩
  have neL := S.ne_m nL
  have many := ok.many
  refine lc_it (walk_range (lo := 0) (n := 6)) (fun i H' => Em m g H H' ∧ St m c g (B + 30 * i) H' ∧ ∃ (xs : List V) (ps : List Pl), H' L = some (.lst xs) ∧ DtAll H' xs (ps.map eP) ∧ ps.length = i ∧ ∀ p ∈ ps, Pok y.sizes.length p) ⟨.of (ex_new nL), S.mono (ex_new nL) (Nat.le_refl _), [], [], upd_same, .nil, rfl, (fun _ h => nomatch h)⟩
    (fun i H' _ _ => True.intro) (fun i v H' H'' hi ⟨em, st, xs, ps, hL, dl, lz, okp⟩ yv => ?_) (fun H' ⟨em, st, xs, ps, hL, dl, lz, okp⟩ => ?_)
  · obtain ⟨rfl, rfl⟩ := yv
    refine ⟨rfl, ⟨_, rfl, ?_⟩⟩
    have dx2 := dx.monoT (S.extT em) (eQ_tupO y)
    have len : EvD (tCB (rLenA K) (tCons (tOp (rIx K) (tVar 1) (tC (.int 0))) tNil)) [some (V.ref m), some x, none, none, some (.int (0 + (i : Int))), none] H'' (.int ((y.sizes.map eRow).length : Int)) := evd_lenT (evd_ixT (j := 0) (evd_var rfl dx2) rfl)
    refine len H'' (Ex.refl _) _ fun v3 H3 e3 dv3 => ?_
    obtain rfl := dt_int dv3
    rw [List.length_map]
    refine ⟨_, rfl, RgOk.of_le (by omega) (by omega) (by omega) (by omega), fun a2 n2 => ?_⟩
    rw [rg_vN]
    have e4 : Ex H'' (upd H3 a2 (.lst (vN (List.range y.sizes.length)))) := e3.trans (ex_new n2)
    refine ⟨m, c, g, a2, B + 30 * i, List.range y.sizes.length, rfl, upd_same, (st.mono e3 (Nat.le_refl _)).ne_m n2, by rw [List.length_range]; omega, by rw [List.length_range]; omega, st.mono e4 (Nat.le_refl _), fun v5 H5 p em5 st5 pp gg dv5 => ?_⟩
    have em6 : Em m g H'' H5 := (Em.of e4).trans em5
    have hL6 := em6 L _ neL.1 neL.2.2 hL
    have tp : tupOnlyAll (ps.map eP) = true := tupOnlyAll_of (eL_tup (ps := ps))
    have lxs := dl.length
    rw [List.length_map] at lxs
    rw [List.length_range] at st5
    refine ⟨xs, hL6, Evl.sz_lt (by omega), (em.trans em6).mut nL, (st5.put neL).up (by omega), xs ++ [v5], ps ++ [p], upd_same, ?_, by rw [List.length_append, lz]; rfl, fun p' hp' => ?_⟩
    · rw [List.map_append]
      exact ((dl.monoT (st.extT em6) tp).append (.one dv5)).monoT (ext_upd hL6) (tupOnlyAll_append tp (by show (tupOnly (eP p) && true) = true; rw [eP_tup]; rfl))
    · rcases List.mem_append.mp hp' with hp' | hp'
      · exact okp p' hp'
      · rw [List.mem_singleton.mp hp']; exact ⟨pp, gg⟩
  · have hnn : ∀ p ∈ ps, p.nn < 9 := fun p hp => by have := (okp p hp).len; omega
    have dx1 := dx.monoT (S.extT em) (eQ_tupO y)
    have lxs := dl.length
    rw [List.length_map] at lxs
    refine q_asgF (evf_lct ps eP (linked y) eP (evi_list (evd_var rfl (.lst hL dl))) (fun p hp vx H3 e3 dp Q' q' => q' [some (V.ref m), some x, some (.ref L), none, none, some vx] rfl (et_test (evd_call (ead_cons (evd_var rfl (dx1.mono e3)) (ead_cons (evd_var rfl dp) ead_nil)) ⟨y, p, ok.few, hnn p hp, rfl, rfl⟩)) fun _ => evd_var rfl dp) (fun p _ _ => eP_tup p) (by omega)) fun b bs H2 e2 nb hb db => ?_
    have st2 := st.mono e2 (Nat.le_refl _)
    have em2 := em.ex e2
    have neb := st.ne_m nb
    have hL2 := e2 _ _ hL
    have dl2 := dl.mono e2
    have fl := List.length_filter_le (linked y) ps
    -- the first of some
    obtain ⟨p0, hp0⟩ : ∃ p0, ps[0]? = some p0 := ⟨ps[0], List.getElem?_eq_getElem (by omega)⟩
    have some0 : ∀ {σ : L2.St} {H' : Hp}, σ[2]? = some (some (.ref L)) → H' L = some (.lst xs) → DtAll H' xs (ps.map eP) → EvD (tTup (tCons (tOp (rIx K) (tVar 2) (tC (.int 0))) (tCons (tC (.str "any")) tNil))) σ H' (.tuple [eP p0, .str Kd.any.str]) := fun hσ h d =>
      evd_tup (ead_cons (evd_op (evd_var hσ (.lst h d)) (evd_cint (i := ((0 : Nat) : Int))) (rd_ixL (by rw [List.getElem?_map, hp0]; rfl))) (ead_cons (evd_cstr (x := Kd.any.str)) ead_nil)) (by simp)
    have okA : OkK y .any p0 := ⟨okp p0 (List.mem_of_getElem? hp0), fun z => nomatch z⟩
    have sh : SeqAt.shaped (eL (ps.filter (linked y))) = true := eL_shaped (n := 9) (by omega) fun p hp => by have := hnn p (List.mem_filter.mp hp).1; omega
    refine et_test (evd_ne (evd_var rfl (.lst hb db)) (evd_lst ead_nil (by simp)) sh rfl) H2 (Ex.refl _) _ fun H3 e3 => ?_
    rw [eqv_nil, List.isEmpty_map]
    cases hc : (ps.filter (linked y)).isEmpty with
    | true => exact some0 rfl (e3 _ _ hL2) (dl2.mono e3) H3 (Ex.refl _) _ fun v4 H4 e4 dv4 => q v4 H4 p0 .any (em2.ex (e3.trans e4)) ((st2.mono (e3.trans e4) (Nat.le_refl _)).up (by omega)) okA dv4
    | false =>
      have dr : EvM m c g (1 + 0) (tOp (rEqD K) (tCall sp__law_draw [] E0 (tCons (tVar 0) (tCons (tC (.int 2)) tNil))) (tC (.int 0))) [some (.ref m), some x, some (.ref L), some (.ref b), none, none] H3 (fun d => ∃ b, d = .bool b) := evm_op (Pa := intIn 0 2) (Pb := (· = .int 0)) (evm_draw rfl (fun _ _ _ _ => evd_cint) (by omega)) evm_int fun d1 d2 ⟨r, h1, _⟩ h2 => ⟨.bool (PyData.eqv d1 d2), ⟨_, rfl⟩, rfl, rd_eqD (by rw [h1]; rfl) (by rw [h2]; rfl)⟩
      have st3 := st2.mono e3 (Nat.le_refl _)
      refine dr H3 _ .refl st3 (by omega) _ fun v4 H4 d4 e4 s4 ⟨bb, hd⟩ _ dv4 => ?_
      subst hd
      obtain rfl := dt_bl dv4
      have em4 := (em2.ex e3).trans e4
      have hL4 := e4 L _ neL.1 neL.2.2 (e3 _ _ hL2)
      have dl4 := (dl2.mono e3).monoT (st3.extT e4) (tupOnlyAll_of (eL_tup (ps := ps)))
      refine ⟨bb, rfl, ?_⟩
      cases bb with
      | false => exact some0 rfl hL4 dl4 H4 (Ex.refl _) _ fun v5 H5 e5 dv5 => q v5 H5 p0 .any (em4.ex e5) ((s4.mono e5 (Nat.le_refl _)).up (by omega)) okA dv5
      | true =>
        have hb4 := e4 b _ neb.1 neb.2.2 (e3 _ _ hb)
        have db4 := (db.mono e3).monoT (st3.extT e4) (tupOnlyAll_of (eL_tup (ps := ps.filter (linked y))))
        obtain ⟨p1, hp1⟩ : ∃ p1, (ps.filter (linked y))[0]? = some p1 := by
          cases hz : ps.filter (linked y) with
          | nil => rw [hz] at hc; simp at hc
          | cons z zs => exact ⟨z, rfl⟩
        have m1 := List.mem_filter.mp (List.mem_of_getElem? hp1)
        refine (evd_tup (ead_cons (evd_op (evd_var (i := 3) rfl (.lst hb4 db4)) (evd_cint (i := ((0 : Nat) : Int))) (rd_ixL (d := eP p1) (by rw [List.getElem?_map, hp1]; rfl))) (ead_cons (evd_cstr (x := Kd.linked.str)) ead_nil)) (by simp) : EvD _ _ H4 _) H4 (Ex.refl _) _ fun v5 H5 e5 dv5 => ?_
        exact q v5 H5 p1 .linked (em4.ex e5) ((s4.mono e5 (Nat.le_refl _)).up (by omega)) ⟨okp p1 m1.1, fun _ => m1.2⟩ dv5

end
end Pc
/-! plain: the law's changes are the program's, in the same order -/
namespace Pc
open PySem PySem.W PySem.Spec PySem.Calls PyProof.Rows L2

theorem good_node {h : How} {l r : Pl} : (Pl.node h l r).good = true ↔ (h = .probed → r.isT = true) ∧ l.good = true ∧ r.good = true := by
  show (!(decide (h = .probed) && !r.isT) && (l.good && r.good)) = true ↔ _
  rw [Bool.and_eq_true, Bool.and_eq_true, Bool.not_eq_true', Bool.and_eq_false_iff, decide_eq_false_iff_not, Bool.not_eq_false']
  constructor
  · rintro ⟨a, b⟩
    exact ⟨fun z => a.resolve_left fun n => n z, b⟩
  · rintro ⟨a, b⟩
    refine ⟨?_, b⟩
    by_cases z : h = .probed
    · exact .inr (a z)
    · exact .inl z
theorem mem_hows (h : How) : h ∈ hows := by cases h <;> decide
theorem mem_lawChanged : ∀ {p x : Pl}, p.good = true → ((x ∈ lawChanged p ∧ x.good = true) ↔ x ∈ p.changed)
  | .tab _, x, _ => by simp [lawChanged, Pl.changed]
  | .node h l r, x, hg => by
    obtain ⟨g1, g2, g3⟩ := good_node.mp hg
    have il := fun {y} => mem_lawChanged (x := y) g2
    have ir := fun {y} => mem_lawChanged (x := y) g3
    have hr : r.isT = true → lawChanged r = [] ∧ r.changed = [] := fun z => by
      cases r with
      | tab t => exact ⟨rfl, rfl⟩
      | node a b c => cases z
    rw [lawChanged, Pl.changed, Pl.changedAt, Pl.ways, Pl.turned, Pl.leaned]
    simp only [List.mem_append, List.mem_map, List.mem_filter, List.mem_singleton]
    constructor
    · rintro ⟨hx, gx⟩
      rcases hx with (((⟨w, ⟨hw1, hw2⟩, rfl⟩ | rfl) | hx) | ⟨y, hy, rfl⟩) | ⟨y, hy, rfl⟩
      · obtain ⟨k1, _, _⟩ := good_node.mp gx
        refine .inl (.inl (.inl (.inl ⟨w, ⟨mem_hows w, ?_⟩, rfl⟩)))
        rw [hw2, Bool.true_and, Bool.or_eq_true, decide_eq_true_eq]
        by_cases z : w = .probed
        · exact .inr (k1 z)
        · exact .inl z
      · obtain ⟨k1, _, _⟩ := good_node.mp gx
        refine .inl (.inl (.inl (.inr ?_)))
        rw [if_pos]
        · exact List.mem_singleton.mpr rfl
        · rw [Bool.or_eq_true, decide_eq_true_eq]
          by_cases z : h = .probed
          · exact .inr (k1 z)
          · exact .inl z
      · exact .inl (.inl (.inr ⟨hx, gx⟩))
      · exact .inl (.inr ⟨y, il.mp ⟨hy, (good_node.mp gx).2.1⟩, rfl⟩)
      · exact .inr ⟨y, ir.mp ⟨hy, (good_node.mp gx).2.2⟩, rfl⟩
    · rintro ((((⟨w, ⟨_, hw⟩, rfl⟩ | hx) | ⟨hx, gx⟩) | ⟨y, hy, rfl⟩) | ⟨y, hy, rfl⟩)
      · rw [Bool.and_eq_true, Bool.or_eq_true, decide_eq_true_eq] at hw
        exact ⟨.inl (.inl (.inl (.inl ⟨w, ⟨mem_hows w, decide_eq_true hw.1⟩, rfl⟩))), good_node.mpr ⟨fun z => hw.2.resolve_left fun n => (of_decide_eq_true n) z, g2, g3⟩⟩
      · split at hx
        · rename_i hc
          rw [List.mem_singleton.mp hx]
          rw [Bool.or_eq_true, decide_eq_true_eq] at hc
          exact ⟨.inl (.inl (.inl (.inr rfl))), good_node.mpr ⟨fun z => hc.resolve_left fun n => n z, g3, g2⟩⟩
        · exact nomatch hx
      · exact ⟨.inl (.inl (.inr hx)), gx⟩
      · obtain ⟨a, b⟩ := il.mpr hy
        exact ⟨.inl (.inr ⟨y, a, rfl⟩), good_node.mpr ⟨g1, b, g3⟩⟩
      · obtain ⟨a, b⟩ := ir.mpr hy
        refine ⟨.inr ⟨y, a, rfl⟩, good_node.mpr ⟨fun z => ?_, g2, b⟩⟩
        rw [(hr (g1 z)).2] at hy
        exact nomatch hy
/-! ### the order -/
theorem how_ne (h : How) : h.str ≠ Str.ofString "" := by cases h <;> decide +kernel
theorem spell_pre : ∀ {p q : Pl} {xs ys : List (Str × Nat)}, p.spell ++ xs = q.spell ++ ys → p = q ∧ xs = ys
  | .tab t, .tab u, xs, ys, e => by
    injection e with e1 e2
    injection e1 with _ e3
    exact ⟨by rw [e3], e2⟩
  | .tab t, .node h l r, xs, ys, e => by
    injection e with e1 e2
    injection e1 with e3 _
    exact absurd e3.symm (how_ne h)
  | .node h l r, .tab t, xs, ys, e => by
    injection e with e1 e2
    injection e1 with e3 _
    exact absurd e3 (how_ne h)
  | .node h l r, .node h' l' r', xs, ys, e => by
    rw [Pl.spell, Pl.spell, List.cons_append, List.cons_append, List.append_assoc, List.append_assoc] at e
    injection e with e1 e2
    injection e1 with e3 _
    obtain ⟨a, b⟩ := spell_pre e2
    obtain ⟨c, d⟩ := spell_pre b
    exact ⟨by rw [(How.str_inj h h').mp e3, a, c], d⟩
theorem spell_inj {p q : Pl} (h : p.spell = q.spell) : p = q := (spell_pre (xs := []) (ys := []) (by rw [h])).1
theorem toks_inj : ∀ {xs ys : List (Str × Nat)}, keyToksAll (xs.map fun q => PyData.tuple [.str q.1, .int (q.2 : Int)]) = keyToksAll (ys.map fun q => PyData.tuple [.str q.1, .int (q.2 : Int)]) → xs = ys
  | [], [], _ => rfl
  | [], _ :: _, e => by
    rw [List.map_nil, List.map_cons, keyToksAll, keyToksAll] at e
    injection e with e1 _
    injection e1 with e2
    exact absurd e2 (by decide)
  | _ :: _, [], e => by
    rw [List.map_nil, List.map_cons, keyToksAll, keyToksAll] at e
    injection e with e1 _
    injection e1 with e2
    exact absurd e2 (by decide)
  | x :: xs, y :: ys, e => by
    rw [List.map_cons, List.map_cons] at e
    simp only [keyToksAll, keyToks, List.cons_append, List.nil_append, List.cons.injEq, Sum.inl.injEq, Sum.inr.injEq, true_and] at e
    obtain ⟨e1, e2, e3⟩ := e
    have h1 : x.1 = y.1 := by
      cases hx : x.1 with
      | mk a =>
        cases hy : y.1 with
        | mk b =>
          rw [hx, hy] at e1
          exact congrArg Str.mk (Array.toList_inj.mp e1)
    have h2 : x.2 = y.2 := by omega
    rw [toks_inj e3, Prod.ext h1 h2]
theorem leP_anti {p q : Pl} (h1 : leP p q = true) (h2 : leP q p = true) : p = q := by
  have h1' : (!(listOrd itemOrd).blt (keyToks (eSpell q)) (keyToks (eSpell p))) = true := h1
  have h2' : (!(listOrd itemOrd).blt (keyToks (eSpell p)) (keyToks (eSpell q))) = true := h2
  rw [Bool.not_eq_true'] at h1' h2'
  have e := (listOrd itemOrd).total _ _ h1' h2'
  first
    | exact spell_inj (toks_inj e)
    | exact spell_inj (toks_inj e.symm)
theorem leP_tot : TotalLe leP := sortLe_total (listOrd itemOrd) false fun b => keyToks (eSpell b)
theorem sorted_eq : ∀ {xs ys : List Pl}, xs.Pairwise (fun a b => leP a b = true) → ys.Pairwise (fun a b => leP a b = true) → xs.Perm ys → xs = ys
  | [], ys, _, _, h => (List.nil_perm.mp h).symm
  | x :: xs, [], _, _, h => absurd h.length_eq (by simp)
  | x :: xs, y :: ys, hx, hy, h => by
    have a := List.pairwise_cons.mp hx
    have b := List.pairwise_cons.mp hy
    have e : x = y := by
      rcases List.mem_cons.mp (h.mem_iff.mp (List.mem_cons_self ..)) with z | z
      · exact z
      · rcases List.mem_cons.mp (h.mem_iff.mpr (List.mem_cons_self ..)) with z' | z'
        · exact z'.symm
        · exact leP_anti (a.1 y z') (b.1 x z)
    subst e
    rw [sorted_eq a.2 b.2 (List.Perm.cons_inv h)]
theorem sortP_pw (ps : List Pl) : (ps.mergeSort leP).Pairwise fun a b => leP a b = true := List.pairwise_mergeSort (fun a b c => leP_tot.trans a b c) (fun a b => by
  rcases leP_tot.total a b with z | z
  · rw [z]; rfl
  · rw [z, Bool.or_true]) ps
def lawCond (q : Qy) (k : Kd) (x : Pl) : Bool := x.good && (decide (k = .any) || linked q x)
theorem lawSteps_eq {q : Qy} {k : Kd} {p : Pl} (hg : p.good = true) : (ddup ((lawChanged p).filter (lawCond q k))).mergeSort leP = stepsP q k p := by
  have nd := ddup_nodup ((lawChanged p).filter (lawCond q k))
  have nd2 := ddup_nodup p.changed
  have pw : (stepsP q k p).Pairwise fun a b => leP a b = true := by
    cases k with
    | any => exact sortP_pw _
    | linked => exact (sortP_pw _).filter _
  have ndS : (stepsP q k p).Nodup := by
    have h : ((ddup p.changed).mergeSort leP).Nodup := (List.mergeSort_perm _ _).nodup_iff.mpr nd2
    cases k with
    | any => exact h
    | linked => exact h.filter _
  refine sorted_eq (sortP_pw _) pw ((List.perm_ext_iff_of_nodup ((List.mergeSort_perm _ _).nodup_iff.mpr nd) ndS).mpr fun x => ?_)
  rw [(List.mergeSort_perm _ _).mem_iff, mem_ddup, List.mem_filter, mem_stepsP, ← mem_lawChanged hg]
  unfold lawCond
  rw [Bool.and_eq_true, Bool.or_eq_true, decide_eq_true_eq]
  constructor
  · rintro ⟨a, b, c⟩
    exact ⟨⟨a, b⟩, fun z => c.resolve_left fun z' => by rw [z] at z'; cases z'⟩
  · rintro ⟨⟨a, b⟩, c⟩
    refine ⟨a, b, ?_⟩
    cases k with
    | any => exact .inl rfl
    | linked => exact .inr (c rfl)
end Pc
/-! the law: like, steps -/
namespace Pc
open PySem PySem.W PySem.Spec PySem.Calls PyProof.Rows L2
open LamX (TabS ExtN CodeO TabB)
open Evl (Ex EvT)
open StX (tStar pa_star)
section
variable {P : Program} {w : World} {K : PySem.W.Frag} {mg : Str → Option Value} {base : Heap}


/-! ### like -/
def sp__law_like : Sp := fun vs H Q _ => ∃ (a b : V) (ds : List PyData), vs = [a, b] ∧ Dt H a (.list ds) ∧ Dt H b (.list ds) ∧ Shows 10000000 (.list ds) ∧ (PyData.list ds).depth ≤ 50 ∧ ∀ H', Ex H H' → Q (.bl true) H'
theorem cl__law_like (G : Gs K mg) (D : Df K mg "_law_like" s__law_like) : ClG P w K mg base 1 "_law_like" sp__law_like := by
  refine clG_of (k := 0) D sc__law_like (fun _ _ _ _ _ _ us hl => match us, hl with | [_, _], _ => rfl) (fun vs H Q E ⟨a, b, ds, h, _⟩ => by rw [h]; rfl) fun f cdv A outer s H vs Q E hr hg hsp => ?_
  obtain ⟨a, b, ds, rfl, ha, hb, sh, dp, q⟩ := hsp
  refine ⟨_, (pss_one (ps_ret (pe_cmpR (r := rEq) op_eq (pe_callB (r := rRepr) (cr_repr (show _ = some [] from hg) hr.units) (by rfl) G.f_repr bt_repr (pa_cons (pv 0) pa_nil)) (pe_callB (r := rRepr) (cr_repr (show _ = some [] from hg) hr.units) (by rfl) G.f_repr bt_repr (pa_cons (pv 1) pa_nil)) (nomark _)))), ?_⟩
  refine ⟨_, rfl, a, ds, rfl, ha, sh, dp, _, rfl, b, ds, rfl, hb, sh, dp, rfl, ?_⟩
  show Q (.bl (decide (V.str (PyData.list ds).shown = V.str (PyData.list ds).shown))) H
  rw [decide_eq_true rfl]
  exact q H (Ex.refl _)
/-! ### a def whose code object is known -/
structure DfC (K : PySem.W.Frag) (mg : Str → Option Value) (x : Str) (st : Stmt) (c : Addr) : Prop where
  ex : ∃ f fd, FnP K x st f fd ∧ mg x = some (.ref f) ∧ fd.code = .ref c
theorem cl_ofC {j k : Nat} {x : Str} {sp : Sp} {st : Stmt} {N ps : List Str} {c : Addr} (D : DfC K mg x st c) (S : FnScope N ps (defScope st))
    (hb : ∀ (kV doc pm : Value) (an : Option Addr) (cdv ct : Value) (us : List Value), us.length = ps.length → bindArgs (PySem.W.fnOf x x (defArgs st) (defBody st) (defScope st) .none kV doc pm an cdv ct) ⟨us, []⟩ = pure (ps.zip us))
    (len : ∀ vs H Q E, sp vs H Q E → vs.length = ps.length)
    (body : ∀ (f : Addr) (A : Around) (outer : List Env) (s : Shared) (H : Hp) (vs : List V) (Q : VK) (E : XK), Room k (A.deeper (envOfC x (defScope st) s.heap.objs.size f (.ref c))) → sp vs H Q E →
      ∃ t, PSs (cxOf CX0 P w K mg base N x (defScope st) f (.ref c) A outer s H E).nox (defBody st) t ∧ t { nx := fun _ H' => Q .non H', rt := Q } (start N vs) H) : Cl P w K mg base (k + 1) x sp := by
  obtain ⟨f, fd, F, m, hcode⟩ := D.ex
  refine ⟨f, fd, ps, ?_, m, F.kp, F.bindsN hb⟩
  obtain ⟨oc, od, dV, kV, doc, pm, an, cdv, ct, osl, rfl, lk, hcd, _, _⟩ := F.ex
  have ec : cdv = .ref c := hcode
  subst ec
  refine ⟨len, fun A outer s H args us vs Q E hr e0 hb r h => LamX.run_ofS lk hcd S hr e0 hb r (len _ _ _ _ h) fun hr' => ?_⟩
  obtain ⟨t, h1, h2⟩ := body f A outer s H vs Q E hr' h
  exact ⟨t, h1.nox, h2⟩
/-! ### sorted with a lambda -/
def rSortL (w : World) (q : Str) (tb : TE) (N : List Str) (params : Arguments) (body : Expr) (scope : Scope) : List V → List V → Hp → VK → Prop := fun vs zs H Q =>
  ∃ (f c' : Addr) (pm ctv : Value), rSortP w f (fun x H Q => H f = some (LamO f (kla_obj "<lambda>" q params body scope [] pm c' ctv)) ∧ H c' = some (CodeO c' q) ∧ tb (start N [x]) H Q) vs zs H Q
theorem cr_sortL {X : Cx} {q a : Str} {params : Arguments} {body : Expr} {scope : Scope} {N : List Str} {k : Nat} {tb : TE} (hc : X.calm = true) (hu : X.A.units + 16 < cLine) (S : FnScope N [a] scope) (hr : Room (k + 3) X.A)
    (hbind : ∀ (pm ctv : Value) (c' : Addr) u, bindArgs (kla_fn "<lambda>" q params body scope [] pm (.ref c') ctv) ⟨[u], []⟩ = pure [(a, u)])
    (hbody : ∀ (f c' : Addr) (A : Around) (outer : List Env) (s : Shared) (H : Hp), Room k (A.deeper (envOfC q scope s.heap.objs.size f (.ref c'))) → PE (cxOf CX0 X.prog X.w X.K X.mg X.base N q scope f (.ref c') A outer s H E0) body tb) :
    CallRK X (.builtin "sorted") [Str.ofString "key"] (rSortL X.w q tb N params body scope) := fun pins s σ H vs zs us us' Q I r rz ⟨f, c', pm, ctv, h⟩ =>
  cr_sortP hc hu (keyCall_lam S hr (hbind pm ctv c') (hbody f c')) pins s σ H vs zs us us' Q I r rz h
section
variable {σ : L2.St} {H : Hp} {tl : TE} {g : TG} {tb tz : TS} {D : Ends} {ds : List PyData}
theorem q_forL (h : EvD tl σ H (.list ds)) (k : ∀ c cs H2, Ex H H2 → H2 c = some (.lst cs) → DtAll H2 cs ds → ∃ Pv : Nat → L2.St → Hp → Prop, Pv 0 σ H2 ∧ (∀ i σ' H', i ≤ cs.length → Pv i σ' H' → SqL K H' c cs) ∧
    (∀ i x σ' H', i < cs.length → Pv i σ' H' → cs[i]? = some x → g x σ' H' fun σ2 H2 => tb { D with nx := Pv (i + 1), ct := Pv (i + 1), bk := tz D } σ2 H2) ∧ ∀ σ' H', Pv cs.length σ' H' → tz D σ' H') : tSeq (tFor (iList K tl) g tb) tz D σ H :=
  h H (Ex.refl _) _ fun v H2 e2 dv => by
    obtain ⟨c, cs, rfl, hc, dc⟩ := dt_lst dv
    obtain ⟨Pv, p0, pg, ps, pd⟩ := k c cs H2 e2 hc dc
    refine ⟨c, rfl, ⟨cs, SqL.of hc⟩, ?_⟩
    refine for_it (D := { D with nx := tz D }) (walk_list (K := K) (a := c) (xs := cs)) Pv p0 pg (fun i x σ' H' H'' hi p yv => ?_) pd
    obtain ⟨rfl, hx⟩ := yv
    exact ps i x σ' _ hi p hx
end
/-! ### steps -/
def Fr (H : Hp) (a : Addr) : Prop := ∀ u, H a = some u → ∃ ps, u = .tbl ps
theorem Fr.of {H : Hp} {a : Addr} (h : H a = none) : Fr H a := fun u e => by rw [h] at e; cases e
theorem Fr.back {H H' : Hp} {a : Addr} (h : Fr H' a) (e : ExtN H H') : Fr H a := fun u hu => Classical.byContradiction fun n => n (h u (e a u hu fun ps z => n ⟨ps, z⟩))
theorem extN_mut {H H' : Hp} {a : Addr} {o : HO} (e : ExtN H H') (h : Fr H a) : ExtN H (upd H' a o) := fun b u hb n => by
  rw [upd_ne]
  · exact e b u hb n
  · rintro rfl
    obtain ⟨ps, z⟩ := h u hb
    exact n ps z
theorem extN_s {H H' : Hp} (e : ExtN H H') : ExS H H' := ⟨fun a xs h => e a _ h (fun ps z => nomatch z), fun a xs h => e a _ h (fun ps z => nomatch z)⟩
theorem extN_t {H H' : Hp} (e : ExtN H H') : ExT H H' := (extN_s e).1
abbrev lamQ : Str := (envOfC "_law_steps" (defScope s__law_steps) 0 0 .none).qual ++ "<lambda>"
def lamOf : List Stmt → Arguments × Expr × Scope
  | [_, _, .Return (some (.Call _ _ [⟨_, .Lambda p b sc _, _⟩] _)) _] => (p, b, sc)
  | _ => (defArgs s__law_steps, .Name "x" ⟨0, 0, 0, 0⟩, defScope s__law_steps)
abbrev lamP : Arguments := (lamOf (defBody s__law_steps)).1
abbrev lamE : Expr := (lamOf (defBody s__law_steps)).2.1
abbrev lamS : Scope := (lamOf (defBody s__law_steps)).2.2
theorem sc_lam : FnScope ["_law_one"] ["_law_one"] lamS := ⟨rfl, rfl, rfl, by decide +kernel, rfl, by decide +kernel, by decide +kernel⟩
def sp__law_steps (Pt : Addr) : Sp := fun vs H Q _ => ∃ (y : Qy) (k : Kd) (p : Pl), y.links.length ≤ 6 ∧ p.nn < 9 ∧ p.good = true ∧ DtAll H vs [eQ y, .str k.str, eP p] ∧ TabS H Pt lamQ ∧
  ∀ a xs H', ExtN H H' → TabS H' Pt lamQ → Fr H a → H' a = some (.lst xs) → DtAll H' xs ((stepsP y k p).map eP) → Q (.ref a) H'
theorem lawChanged_nn : ∀ {p x : Pl}, x ∈ lawChanged p → x.nn = p.nn ∧ x.isT = false
  | .tab _, _, h => by simp [lawChanged] at h
  | .node h l r, x, hx => by
    rw [lawChanged] at hx
    simp only [List.mem_append, List.mem_map, List.mem_filter, List.mem_singleton] at hx
    rcases hx with (((⟨w, _, rfl⟩ | rfl) | hx) | ⟨y, hy, rfl⟩) | ⟨y, hy, rfl⟩
    · exact ⟨rfl, rfl⟩
    · exact ⟨by rw [Pl.nn, Pl.nn]; omega, rfl⟩
    · rcases hx with hx | hx
      · cases l with
        | tab t => simp [Pl.leanL] at hx
        | node h' a b =>
          simp only [Pl.leanL, List.mem_singleton] at hx
          rw [hx]
          exact ⟨by simp only [Pl.nn]; omega, rfl⟩
      · cases r with
        | tab t => simp [Pl.leanR] at hx
        | node h' a b =>
          simp only [Pl.leanR, List.mem_singleton] at hx
          rw [hx]
          exact ⟨by simp only [Pl.nn]; omega, rfl⟩
    · exact ⟨by rw [Pl.nn, Pl.nn, (lawChanged_nn hy).1], rfl⟩
    · exact ⟨by rw [Pl.nn, Pl.nn, (lawChanged_nn hy).1], rfl⟩
theorem kd_eq (k : Kd) : PyData.eqv (.str k.str) (.str Kd.any.str) = decide (k = .any) := by cases k <;> decide +kernel
theorem kd_sh (k : Kd) : SeqAt.shaped (.str k.str) = true := by cases k <;> decide +kernel


theorem cl__law_steps {c Pt : Addr} (TB : TabB base mg c Pt) (G : Gs K mg) (D : DfC K mg "_law_steps" s__law_steps c) (c__law_spelling : Cl P w K mg base 10 "_law_spelling" (spR (R__law_spelling 9))) (c__law_changed : Cl P w K mg base 10 "_law_changed" (spR (R__law_changed 9)))
    (c__law_is_probed_right : Cl P w K mg base 10 "_law_is_probed_right" (spR (R__law_is_probed_right 9))) (c__law_no_cross : Cl P w K mg base 20 "_law_no_cross" (spR (R__law_no_cross 9))) : Cl P w K mg base 21 "_law_steps" (sp__law_steps Pt) := by
  refine cl_ofC (j := 0) (k := 20) D sc__law_steps (fun _ _ _ _ _ _ us hl => match us, hl with | [_, _, _], _ => rfl) (fun vs H Q E ⟨y, k, p, _, _, _, h, _⟩ => h.length) fun f A outer s H vs Q E hr hsp => ?_
  obtain ⟨y, k, p, few, hn, gp, hk, tS, q⟩ := hsp
  refine ⟨_, (pss_cons (ps_set (i := 3) sc__law_steps.nd rfl (by first | exact Or.inl rfl | exact Or.inr rfl) pe_newP)
      (pss_cons (ps_for PassesOwn.never rfl (pi_list (pe_u c__law_changed hr (by omega) (by rfl) (pa_cons (pv 2) pa_nil))) (pg_name (i := 4) sc__law_steps.nd rfl (by first | exact Or.inl rfl | exact Or.inr rfl)) (pss_one (ps_if (PW.pt (pw_and (pt_val (pe_u c__law_is_probed_right hr (by omega) (by rfl) (pa_cons (pv 4) pa_nil))) (pw_and1 (PW.pt (pw_or (pt_cmpR (r := rEqD K) (op_eqD hr.units) (pv 1) pe_str (nomark _)) (pw_or1 (pt_val (pe_u c__law_no_cross hr (by omega) (by rfl) (pa_cons (pv 0) (pa_cons (pv 4) pa_nil)))))))))) (pss_one (ps_putP (u16 hr) (pv 3) (pv 4) pe_bl (by rfl))) pss_nil)))
      (pss_one (ps_ret (pe_callBK (r := rSortL w lamQ (tCall (spR (R__law_spelling 9)) [] E0 (tCons (tVar 0) tNil)) ["_law_one"] lamP lamE lamS) (cr_sortL (a := "_law_one") (k := 17) rfl (u16 hr) sc_lam hr (fun _ _ _ _ => rfl) (fun f' c' A' outer' s' H' hr' => pe_u c__law_spelling hr' (by omega) (by rfl) (pa_cons (pv 0) pa_nil))) (by rfl) G.f_sorted bt_sorted (pa_cons (pe_callTy (r := rListP w) (call_listP rfl) (by rfl) G.f_list bt_list (pa_cons (pv 3) pa_nil)) pa_nil) (pk_cons (pe_lam1 TB rfl rfl rfl) pk_nil)))))), ?_⟩
  obtain ⟨v1, v2, v3, rfl, h1, h2, h3⟩ := dtAll3 hk
  refine fun a na => ?_
  have ea : Ex H (upd H a (dpO w a [])) := ex_new na
  refine q_forL (ds := (lawChanged p).map eP) (evd_call (ead_cons (evd_var rfl (h3.mono ea)) ead_nil) ⟨p, hn, rfl, rfl⟩) fun cL cs H2 e2 hc dc => ?_
  have pd2 : PD w H2 a [] := PD.mono pd_nil e2
  have nt : ∀ x ∈ [a], ∀ ys, H2 x ≠ some (.tup ys) := fun x hx ys => by
    rw [List.mem_singleton.mp hx, pd2.own]; exact fun z => nomatch z
  have eHb : Ex H (hid H2 [a]) := ex_hid (ea.trans e2) fun x hx => by rw [List.mem_singleton.mp hx]; exact na
  have hca : cL ∉ [a] := fun z => by
    rw [List.mem_singleton.mp z, pd2.own] at hc
    cases hc
  have hcb : hid H2 [a] cL = some (.lst cs) := by rw [hid_ne hca]; exact hc
  have dcb := dtAll_eP dc (extT_hid nt)
  have lcs := dc.length
  rw [List.length_map] at lcs
  have bl := lawChanged_len p
  refine ⟨fun i σ' H' => ∃ o4 es, σ' = [some v1, some v2, some v3, some (.ref a), o4] ∧ Ex (hid H2 [a]) H' ∧ PD w H' a es ∧ es.map (·.1) = ddup (((lawChanged p).take i).filter (lawCond y k)), ⟨none, [], rfl, hid_ex, pd2, rfl⟩, (fun i σ' H' _ ⟨_, _, _, e', _⟩ => SqL.of (e' _ _ hcb)), (fun i x σ' H' hi ⟨o4, es, g1, e', pd, ek⟩ hx => ?_), fun σ' H' ⟨o4, es, g1, e', pd, ek⟩ => ?_⟩
  · subst g1
    obtain ⟨d0, hd0, dx⟩ := (dcb.mono e').get hx
    rw [List.getElem?_map] at hd0
    obtain ⟨one, hone, rfl⟩ := Option.map_eq_some_iff.mp hd0
    have hm := List.mem_of_getElem? hone
    have nno := lawChanged_nn hm
    have eH' := eHb.trans e'
    have tk : (lawChanged p).take (i + 1) = (lawChanged p).take i ++ [one] := by rw [List.take_add_one, hone]; rfl
    have kd : ∀ e ∈ es, e.1.isT = one.isT := fun e he => by
      have z : e.1 ∈ ddup (((lawChanged p).take i).filter (lawCond y k)) := by rw [← ek]; exact List.mem_map.mpr ⟨e, he, rfl⟩
      rw [(lawChanged_nn (List.mem_of_mem_take (List.mem_filter.mp (mem_ddup.mp z)).1)).2, nno.2]
    have lz : es.length < 100000 := by
      have z1 := congrArg List.length ek
      rw [List.length_map] at z1
      have z2 := ddup_len (((lawChanged p).take i).filter (lawCond y k))
      have z3 := List.length_filter_le (lawCond y k) ((lawChanged p).take i)
      rw [List.length_take] at z3
      omega
    refine s_if (p := lawCond y k one) (et_is (et_and (et_test (evd_call (ead_cons (evd_var rfl dx) ead_nil) ⟨one, by omega, rfl, rfl⟩)) fun _ => et_or (et_test (evd_eq (evd_var rfl (h2.mono eH')) (evd_cstr (x := Kd.any.str)) (kd_sh k) (kd_sh .any))) fun _ => et_test (evd_call (ead_cons (evd_var rfl (h1.mono eH')) (ead_cons (evd_var rfl dx) ead_nil)) ⟨y, one, few, by omega, rfl, rfl⟩)) (by rw [kd_eq]; rfl)) (fun hc1 H3 e3 => ?_) (fun hc1 H3 e3 => ?_)
    · have at3 : At w H3 a es x one := ⟨pd.mono e3, dx.mono e3, by omega, kd⟩
      refine ⟨_, rfl, _, rfl, a, es, one, rfl, at3, lz, ?_⟩
      refine ⟨_, _, rfl, Ex.mut (e'.trans e3) (hid_none (List.mem_cons_self ..)), PD.put at3, ?_⟩
      rw [putP_add1, ek, tk, List.filter_append, List.filter_cons, if_pos hc1]
      exact (ddup_snoc _ _).symm
    · refine ⟨_, es, rfl, e'.trans e3, pd.mono e3, ?_⟩
      rw [ek, tk, List.filter_append, List.filter_cons, if_neg (by rw [hc1]; exact Bool.false_ne_true), List.filter_nil, List.append_nil]
  · subst g1
    rw [lcs, List.take_length] at ek
    have eH' := eHb.trans e'
    refine ⟨_, rfl, a, es, rfl, pd, fun l nl => ?_⟩
    have el := ex_new (o := .lst (es.map (·.2.1))) nl
    refine ⟨tS.ext (eH'.trans el), fun fL c' pm ctv H4 en ts hf hcd => ?_⟩
    have pd1 := pd.mono el
    have hl4 : H4 l = some (.lst (es.map (·.2.1))) := en _ _ upd_same fun ps z => nomatch z
    have dk4 : DtAll H4 (es.map (·.2.1)) ((es.map (·.1)).map eP) := (dtAll_keys pd1).monoS (extN_s en)
    have les : (es.map (·.1)).length ≤ 50000 := by
      rw [ek]
      have z2 := ddup_len ((lawChanged p).filter (lawCond y k))
      have z3 := List.length_filter_le (lawCond y k) (lawChanged p)
      omega
    refine ⟨fL, c', pm, ctv, l, es.map (·.2.1), es.map (·.1), rfl, rfl, .inl hl4, dk4, fun i x d hx hd H5 e5 Q' q' => ⟨e5 _ _ hf, e5 _ _ hcd, ?_⟩, les, fun l2 H5 ys n4 n5 e5 dys => ?_⟩
    · rw [List.getElem?_map] at hd
      obtain ⟨one, hone, rfl⟩ := Option.map_eq_some_iff.mp hd
      obtain ⟨d', hd', dd⟩ := dk4.get hx
      rw [List.getElem?_map, hone] at hd'
      cases hd'
      have hm := List.mem_of_getElem? hone
      rw [ek] at hm
      have nno := lawChanged_nn (List.mem_filter.mp (mem_ddup.mp hm)).1
      exact (evd_call (R := R__law_spelling 9) (ead_cons (evd_var rfl (dd.mono e5)) ead_nil) ⟨one, by omega, rfl, rfl⟩ : EvD _ (start ["_law_one"] [x]) H5 (eSpell one)) H5 (Ex.refl _) _ q'
    · rw [ek, lawSteps_eq gp] at dys
      have en2 : ExtN H H5 := ((ExtN.of (eH'.trans el)).trans en).trans (.of e5)
      refine q l2 ys _ (en2.trans (.of (ex_new n5))) ((ts.ext e5).ext (ex_new n5)) ?_ upd_same (dys.mono (ex_new n5))
      exact (Fr.of n5).back en2

end
end Pc
/-! the law: all that comes of a plan -/
namespace Pc
open PySem PySem.Spec PyProof.Rows L2
open LamX (TabS ExtN CodeO TabB)
open Evl (Ex EvT)
open StX (tStar pa_star)
section
variable {P : Program} {w : World} {K : PySem.W.Frag} {mg : Str → Option Value} {base : Heap}


theorem get?_rep (c : Nat) (vs : Array Value) : ({ objs := Array.replicate (c + 1) { cls := .none, data := .fields vs } } : Heap).get? c = some { cls := .none, data := .fields vs } := by
  unfold Heap.get?
  simp
theorem codeO_dp {c : Addr} {q : Str} {a : Addr} {es : List Ent} (h : c = a) : CodeO c q ≠ dpO w a es := fun z => by
  subst h
  unfold CodeO at z
  have z1 := congrFun (HO.ext.inj z) ({ objs := Array.replicate (c + 1) { cls := .none, data := .fields #[.none, .str q 0] } } : Heap)
  have hl : ∃ (oc : Obj) (vs : Array Value) (t : Tok), ({ objs := Array.replicate (c + 1) { cls := .none, data := .fields #[.none, .str q 0] } } : Heap).get? c = some oc ∧ oc.data = .fields vs ∧ vs[1]? = some (.str q t) := ⟨_, _, 0, get?_rep c _, rfl, rfl⟩
  rw [z1] at hl
  obtain ⟨_, o, ds, ep, ho, _, hd, _⟩ := hl
  rw [get?_rep] at ho
  cases ho
  cases hd
theorem tabS_hid {H : Hp} {Pt : Addr} {q : Str} {as : List Addr} (t : TabS H Pt q) (h : ∀ x ∈ as, (∃ xs, H x = some (.lst xs)) ∨ ∃ es, H x = some (dpO w x es)) : TabS (hid H as) Pt q := by
  obtain ⟨ps, h1, h2, h3⟩ := t
  refine ⟨ps, ?_, h2, fun pos cv hc => ?_⟩
  · rw [hid_ne fun z => ?_]
    · exact h1
    · rcases h _ z with ⟨xs, e⟩ | ⟨es, e⟩
      · rw [h1] at e; cases e
      · rw [h1] at e; cases e
  · obtain ⟨c, e1, e2⟩ := h3 pos cv hc
    refine ⟨c, e1, ?_⟩
    rw [hid_ne fun z => ?_]
    · exact e2
    · rcases h _ z with ⟨xs, e⟩ | ⟨es, e⟩
      · rw [e2] at e; unfold CodeO at e; cases e
      · rw [e2] at e; exact codeO_dp rfl (Option.some.inj e)
theorem extN_hid {H0 H : Hp} {as : List Addr} (e : ExtN H0 H) (n : ∀ a ∈ as, Fr H0 a) : ExtN H0 (hid H as) := fun b o h hn => by
  rw [hid_ne fun z => ?_]
  · exact e b o h hn
  · obtain ⟨ps, q⟩ := n b z o h
    exact hn ps q
theorem pd_monoN {H H' : Hp} {a : Addr} {es : List Ent} (pd : PD w H a es) (e : ExtN H H') : PD w H' a es := pd.monoT (extN_t e) ((e a _ pd.own fun ps z => nomatch z).trans pd.own.symm)
theorem valD_tup (r : Row3) : tupOnly (valD r) = true := rfl
def sp__law_all_from (w : World) (Pt : Addr) : Sp := fun vs H Q _ => ∃ (q : Qy) (k : Kd) (p : Pl), (Qok q ∧ OkK q k p ∧ Few q) ∧ DtAll H vs [eQ q, .str k.str, eP p] ∧ TabS H Pt lamQ ∧
  ∀ a es F H', BfsIs q k p F → ExtN H H' → TabS H' Pt lamQ → Fr H a → PD w H' a es → EntF valD H' es F → Q (.ref a) H'


theorem cl__law_all_from {Pt : Addr} (G : Gs K mg) (D : Df K mg "_law_all_from" s__law_all_from) (c__law_steps : Cl P w K mg base 21 "_law_steps" (sp__law_steps Pt)) : Cl P w K mg base 22 "_law_all_from" (sp__law_all_from w Pt) := by
  refine cl_of (k := 21) D sc__law_all_from (fun _ _ _ _ _ _ us hl => match us, hl with | [_, _, _], _ => rfl) (fun vs H Q E ⟨q, k, p, _, h, _⟩ => h.length) fun f cdv A outer s H vs Q E hr hsp => ?_
  obtain ⟨y, k, p, ⟨okq, okp, few⟩, hk, tS, q⟩ := hsp
  refine ⟨_, (pss_cons (ps_par (i := 3) (j := 4) rfl sc__law_all_from.nd rfl rfl (by decide) rfl rfl (pa_cons pe_newP (pa_cons (pe_lst (pa_cons (pv 2) pa_nil)) pa_nil)) (by rfl))
      (pss_cons (ps_putP (u16 hr) (pv 3) (pv 2) pe_int (by rfl))
      (pss_cons (ps_while PassesOwn.never (pt_cmpR (r := rNeD K) (op_neD hr.units) (pv 4) (pe_lst pa_nil) (nomark _)) (pss_cons (ps_set (i := 5) sc__law_all_from.nd rfl (by first | exact Or.inl rfl | exact Or.inr rfl) (pe_lst pa_nil))
      (pss_cons (ps_for PassesOwn.never rfl (pi_list (pv 4)) (pg_name (i := 6) sc__law_all_from.nd rfl (by first | exact Or.inl rfl | exact Or.inr rfl)) (pss_one (ps_for PassesOwn.never rfl (pi_list (pe_u c__law_steps hr (by omega) (by rfl) (pa_cons (pv 0) (pa_cons (pv 1) (pa_cons (pv 6) pa_nil))))) (pg_name (i := 7) sc__law_all_from.nd rfl (by first | exact Or.inl rfl | exact Or.inr rfl)) (pss_one (ps_if (pt_cmpR (r := rInP w true) (op_notInP (u16 hr)) (pv 7) (pv 3) (by rfl)) (pss_cons (ps_putP (u16 hr) (pv 3) (pv 7) (pe_op op_add (pe_ix (r := rIxP w) (ix_P (u16 hr)) (pv 3) (pv 6) (fun _ _ => rfl)) pe_int) (by rfl))
      (pss_one (ps_expr (pe_bm PySem.F.plainAttrs_list PySem.F.slot_list_append PySem.F.type_list_append mt_append (pv 5) (pa_cons (pv 7) pa_nil))))) pss_nil)))))
      (pss_one (ps_set (i := 4) sc__law_all_from.nd rfl (by first | exact Or.inl rfl | exact Or.inr rfl) (pv 5))))))
      (pss_one (ps_ret (pv 3)))))), ?_⟩
  obtain ⟨v1, v2, v3, rfl, h1, h2, h3⟩ := dtAll3 hk
  have hp := okp.1.nn9 okq
  have nn_of : ∀ {x}, OkK y k x → x.nn < 4 := fun {x} ok => ok.1.nn9 okq
  have bok := fun n => bfs_ok (stepsP_ok (q := y) (k := k)) okp n
  have blen := fun n => bfs_len (stepsP_ok (q := y) (k := k)) okp (few.of k) n
  have bend : (bfs (stepsP y k) p 2232).2 = [] := bfs_end (stepsP_ok (q := y) (k := k)) okp (few.of k)
  -- the start
  refine fun a na => ⟨v3, rfl, (show 1 ≤ sizeLine from sz5 (by omega)), fun l nl => ⟨.ref a, .ref l, rfl, ?_⟩⟩
  have ea : Ex H (upd (upd H a (dpO w a [])) l (.lst [v3])) := (ex_new na).trans (ex_new nl)
  have nHl : H l = none := fresh_of (ex_new na) nl
  have hal0 : l ≠ a := by
    rintro rfl
    rw [upd_same] at nl
    cases nl
  have pdn : PD w (upd (upd H a (dpO w a [])) l (.lst [v3])) a [] := pd_nil.mono (ex_new nl)
  have at0 : At w (upd (upd H a (dpO w a [])) l (.lst [v3])) a [] v3 p := ⟨pdn, h3.mono ea, by omega, fun e he => nomatch he⟩
  refine ⟨_, rfl, v3, rfl, a, [], p, rfl, at0, by simp, ?_⟩
  have pd1 := PD.put (v := .int 0) at0
  have e1 : Ex H (upd (upd (upd H a (dpO w a [])) l (.lst [v3])) a (dpO w a (putP [] p v3 (.int 0)))) := Ex.mut ea na
  have hl1 : upd (upd (upd H a (dpO w a [])) l (.lst [v3])) a (dpO w a (putP [] p v3 (.int 0))) l = some (.lst [v3]) := by rw [upd_ne hal0]; exact upd_same
  have ent0 : EntF valD (upd (upd (upd H a (dpO w a [])) l (.lst [v3])) a (dpO w a (putP [] p v3 (.int 0)))) (putP [] p v3 (.int 0)) [(p, none, 0)] := .cons ⟨rfl, .int _⟩ .nil
  refine ⟨fun m σ' H' => ∃ n l o5 o6 o7 es ls, σ' = [some v1, some v2, some v3, some (.ref a), some (.ref l), o5, o6, o7] ∧ m = 2232 - n ∧ ExtN H H' ∧ TabS H' Pt lamQ ∧ Fr H l ∧ PD w H' a es ∧ EntF valD H' es (bfs (stepsP y k) p n).1 ∧ H' l = some (.lst ls) ∧ DtAll H' ls ((bfs (stepsP y k) p n).2.map eP),
    ⟨2232 - 0, 0, l, none, none, none, putP [] p v3 (.int 0), [v3], rfl, rfl, .of e1, tS.ext e1, .of nHl, pd1, ent0, hl1, .one (h3.mono e1)⟩, ?_⟩
  clear ent0 e1 pd1 nHl at0 pdn ea hal0 hl1 nl l
  rintro m σ' H' ⟨n, l, o5, o6, o7, es, ls, rfl, rfl, eH, tS', nHl, pd, ent, hl, dl⟩
  have B := bok n
  have lay_ok : ∀ x ∈ (bfs (stepsP y k) p n).2, OkK y k x := fun x hx => B.fnd.ok x (B.lay x hx)
  have lsl := dl.length
  rw [List.length_map] at lsl
  have blay : (bfs (stepsP y k) p n).2.length ≤ 2232 := by
    cases n with
    | zero => exact (show 1 ≤ 2232 by omega)
    | succ n =>
      have z := ((bok n).next stepsP_ok).2
      have z2 := blen (n + 1)
      have z3 : (bfs (stepsP y k) p (n + 1)).1.length = (bfs (stepsP y k) p n).1.length + (bfs (stepsP y k) p (n + 1)).2.length := z
      omega
  refine et_test (evd_ne (evd_var rfl (.lst hl dl)) (evd_lst ead_nil (by simp)) (eL_shaped (n := 9) (by omega) fun x hx => by have := nn_of (lay_ok x hx); omega) rfl) H' (Ex.refl _) _ fun H1 f1 => ?_
  rw [eqv_nil, List.isEmpty_map]
  cases hL : (bfs (stepsP y k) p n).2.isEmpty with
  | true =>
    simp only [Bool.not_true, Bool.false_eq_true, if_false]
    have hL' : (bfs (stepsP y k) p n).2 = [] := List.isEmpty_iff.mp hL
    exact ⟨.ref a, rfl, q a es _ H1 ⟨n, hL', rfl⟩ (eH.trans (.of f1)) (tS'.ext f1) (.of na) (pd.mono f1) (ent.mono f1)⟩
  | false =>
    simp only [Bool.not_false, if_true]
    have hL' : (bfs (stepsP y k) p n).2 ≠ [] := fun z => by rw [z] at hL; simp at hL
    have n_lt : n < 2232 := by
      rcases Nat.lt_or_ge n 2232 with z | z
      · exact z
      · exfalso
        have e := bfs_stay bend (n - 2232)
        rw [Nat.add_sub_cancel' z] at e
        rw [e] at hL'
        exact hL' bend
    refine ⟨fun σ' H' => ∃ l o5 o6 o7 es ls, σ' = [some v1, some v2, some v3, some (.ref a), some (.ref l), o5, o6, o7] ∧ ExtN H H' ∧ TabS H' Pt lamQ ∧ Fr H l ∧ PD w H' a es ∧ EntF valD H' es (bfs (stepsP y k) p (n + 1)).1 ∧ H' l = some (.lst ls) ∧ DtAll H' ls ((bfs (stepsP y k) p (n + 1)).2.map eP),
      fun σ' H' ⟨l, o5, o6, o7, es, ls, g1, g2⟩ => ⟨2232 - (n + 1), by omega, n + 1, l, o5, o6, o7, es, ls, g1, rfl, g2⟩, ?_⟩
    -- fresh = []
    refine q_asgL (ds := []) ead_nil (by simp) fun b xs0 H2 f2 nb hb d0 => ?_
    have x0 : xs0 = [] := by cases d0; rfl
    subst x0
    have f12 := f1.trans f2
    have eH2 := eH.trans (.of f12)
    have nHb : Fr H b := (Fr.of nb).back (eH.trans (.of f1))
    have hab : a ≠ b := by
      rintro rfl
      rw [(pd.mono f1).own] at nb
      cases nb
    have hlb : l ≠ b := by
      rintro rfl
      rw [f1 _ _ hl] at nb
      cases nb
    have hal : a ≠ l := by
      rintro rfl
      rw [pd.own] at hl
      cases hl
    have pd2 := pd.mono f12
    have ent2 := ent.mono f12
    have hl2 := f12 _ _ hl
    have dl2 := dl.mono f12
    have tS2 := tS'.ext f12
    have nt : ∀ x ∈ [a, b], ∀ ys, H2 x ≠ some (.tup ys) := fun x hx ys => by
      rcases List.mem_cons.mp hx with rfl | hx
      · rw [pd2.own]; exact fun z => nomatch z
      · rw [List.mem_singleton.mp hx, hb]; exact fun z => nomatch z
    have eHb : ExtN H (hid H2 [a, b]) := extN_hid eH2 fun x hx => by
      rcases List.mem_cons.mp hx with rfl | hx
      · exact .of na
      · rw [List.mem_singleton.mp hx]; exact nHb
    have lnot : l ∉ [a, b] := fun z => by
      rcases List.mem_cons.mp z with z | z
      · exact hal z.symm
      · exact hlb (List.mem_singleton.mp z)
    have hlb' : hid H2 [a, b] l = some (.lst ls) := by rw [hid_ne lnot]; exact hl2
    have dlb := dtAll_eP dl2 (extT_hid nt)
    have M0 : Mid (stepsP y k) p (OkK y k) (bfs (stepsP y k) p n).1 ((bfs (stepsP y k) p n).1, []) (bfs (stepsP y k) p n).2 := B.mid
    have kd_of : ∀ {es : List Ent} {F : List Row3} {H' : Hp} {x : Pl}, EntF valD H' es F → (∀ x ∈ keys3 F, OkK y k x) → OkK y k x → ∀ e ∈ es, e.1.isT = x.isT := fun {es F H' x} en ok okx e he =>
      isT_of (ok e.1 (by rw [← en.keys]; exact List.mem_map.mpr ⟨e, he, rfl⟩)).1 okx.1
    have lstn : ∀ {us : List V} (ps : Array Value), HO.lst us ≠ HO.tbl ps := fun ps z => nomatch z
    refine ⟨_, rfl, l, rfl, ⟨ls, SqL.of hl2⟩, ?_⟩
    refine for_it (walk_list (K := K) (a := l) (xs := ls)) (fun i σ' H' => ∃ o6 o7 es fs, σ' = [some v1, some v2, some v3, some (.ref a), some (.ref l), some (.ref b), o6, o7] ∧ ExtN (hid H2 [a, b]) H' ∧ TabS H' Pt lamQ ∧ PD w H' a es ∧
        EntF valD H' es (((bfs (stepsP y k) p n).2.take i).foldl (inner (stepsP y k)) ((bfs (stepsP y k) p n).1, [])).1 ∧ H' b = some (.lst fs) ∧ DtAll H' fs ((((bfs (stepsP y k) p n).2.take i).foldl (inner (stepsP y k)) ((bfs (stepsP y k) p n).1, [])).2.map eP) ∧
        ∃ todo, Mid (stepsP y k) p (OkK y k) (bfs (stepsP y k) p n).1 (((bfs (stepsP y k) p n).2.take i).foldl (inner (stepsP y k)) ((bfs (stepsP y k) p n).1, [])) todo)
      ⟨o6, o7, es, [], rfl, .of hid_ex, tS2, pd2, ent2, hb, .nil, _, M0⟩ (fun i σ' H' _ ⟨_, _, _, _, _, e', _⟩ => SqL.of (e' _ _ hlb' lstn)) (fun i x σ' H' H'' hi ⟨o6, o7, es, fs, g1, e', tS', pd', ent', hb', df', todo, M⟩ yv => ?_) (fun σ' H' ⟨o6, o7, es, fs, g1, e', tS', pd', ent', hb', df', todo, M⟩ => ?_)
    · -- one plan of the layer
      subst g1
      obtain ⟨rfl, hx⟩ := yv
      obtain ⟨d0, hd0, dx⟩ := (dlb.monoS (extN_s e')).get hx
      rw [List.getElem?_map] at hd0
      obtain ⟨here, hhere, rfl⟩ := Option.map_eq_some_iff.mp hd0
      have here_ok := lay_ok here (List.mem_of_getElem? hhere)
      have eH' := extN_s (eHb.trans e')
      have hereIn : here ∈ keys3 (((bfs (stepsP y k) p n).2.take i).foldl (inner (stepsP y k)) ((bfs (stepsP y k) p n).1, [])).1 := M.sub _ (B.lay _ (List.mem_of_getElem? hhere))
      refine ⟨_, rfl, _, rfl, _, rfl, y, k, here, okq.few, by have := nn_of here_ok; omega, here_ok.1.good, .cons (h1.monoS eH') (.cons (h2.monoS eH') (.one dx)), tS', fun c cs H3 g3 tS3 nc hc dc => ⟨c, rfl, ⟨cs, SqL.of hc⟩, ?_⟩⟩
      have hca : c ∉ [a, b] := fun z => by
        rcases List.mem_cons.mp z with rfl | z
        · obtain ⟨ps, z'⟩ := nc _ pd'.own
          cases z'
        · obtain ⟨ps, z'⟩ := nc _ (by rw [List.mem_singleton.mp z]; exact hb')
          cases z'
      have pd3 := pd_monoN pd' g3
      have hb3 := g3 _ _ hb' lstn
      have nt3 : ∀ x ∈ [a, b], ∀ ys, H3 x ≠ some (.tup ys) := fun x hx ys => by
        rcases List.mem_cons.mp hx with rfl | hx
        · rw [pd3.own]; exact fun z => nomatch z
        · rw [List.mem_singleton.mp hx, hb3]; exact fun z => nomatch z
      have tS3' : TabS (hid H3 [a, b]) Pt lamQ := tabS_hid tS3 fun x hx => by
        rcases List.mem_cons.mp hx with rfl | hx
        · exact .inr ⟨_, pd3.own⟩
        · rw [List.mem_singleton.mp hx]; exact .inl ⟨_, hb3⟩
      have hcc : hid H3 [a, b] c = some (.lst cs) := by rw [hid_ne hca]; exact hc
      have dcc := dtAll_eP dc (extT_hid nt3)
      have eHc : ExtN (hid H2 [a, b]) (hid H3 [a, b]) := extN_hid (e'.trans g3) fun x hx => .of (hid_none hx)
      have dxc : Dt (hid H3 [a, b]) x (eP here) := (dx.monoS (extN_s g3)).monoT (extT_hid nt3) (eP_tup _)
      have lcs := dc.length
      rw [List.length_map] at lcs
      have one_ok : ∀ one ∈ stepsP y k here, one ∈ stepsP y k here ∧ OkK y k one := fun one ho => ⟨ho, stepsP_ok _ here_ok _ ho⟩
      refine for_it (walk_list (K := K) (a := c) (xs := cs)) (fun j σ' H' => ∃ o7 es fs, σ' = [some v1, some v2, some v3, some (.ref a), some (.ref l), some (.ref b), some x, o7] ∧ Ex (hid H3 [a, b]) H' ∧ PD w H' a es ∧
          EntF valD H' es (((stepsP y k here).take j).foldl (visit here) (((bfs (stepsP y k) p n).2.take i).foldl (inner (stepsP y k)) ((bfs (stepsP y k) p n).1, []))).1 ∧ H' b = some (.lst fs) ∧
          DtAll H' fs ((((stepsP y k here).take j).foldl (visit here) (((bfs (stepsP y k) p n).2.take i).foldl (inner (stepsP y k)) ((bfs (stepsP y k) p n).1, []))).2.map eP))
        ⟨o7, es, fs, rfl, hid_ex, pd3, ent'.monoT (extN_t g3) valD_tup, hb3, dtAll_eP df' (extN_t g3)⟩ (fun j σ' H' _ ⟨_, _, _, _, e4, _⟩ => SqL.of (e4 _ _ hcc)) (fun j z σ' H' H5 hj ⟨o7, es, fs, g1, e4, pd4, ent4, hb4, df4⟩ zv => ?_) (fun σ' H' ⟨o7, es, fs, g1, e4, pd4, ent4, hb4, df4⟩ => ?_)
      · subst g1
        obtain ⟨rfl, hz⟩ := zv
        obtain ⟨d1, hd1, dz⟩ := (dcc.mono e4).get hz
        rw [List.getElem?_map] at hd1
        obtain ⟨one, hone, rfl⟩ := Option.map_eq_some_iff.mp hd1
        have okone := (one_ok one (List.mem_of_getElem? hone)).2
        obtain ⟨Mj, _, hin⟩ := Mid.inner (here := here) ((stepsP y k here).take j) M hereIn fun o ho => one_ok o (List.mem_of_mem_take ho)
        have hin := hin _ hereIn
        have en := foldl_take (visit here) (((bfs (stepsP y k) p n).2.take i).foldl (inner (stepsP y k)) ((bfs (stepsP y k) p n).1, [])) hone
        rw [en]
        generalize ((stepsP y k here).take j).foldl (visit here) (((bfs (stepsP y k) p n).2.take i).foldl (inner (stepsP y k)) ((bfs (stepsP y k) p n).1, [])) = st at ent4 df4 Mj hin ⊢
        have kd := kd_of ent4 Mj.fnd.ok okone
        have kdh := kd_of ent4 Mj.fnd.ok here_ok
        have n9 := nn_of okone
        have h9 := nn_of here_ok
        have flen : st.1.length ≤ 2232 := by
          have z := few.of k _ Mj.fnd.nd Mj.fnd.ok
          unfold keys3 at z
          rw [List.length_map] at z
          exact z
        have slen : st.2.length ≤ 2232 := by have := Mj.len; omega
        obtain ⟨rh, hrh, erh⟩ := List.mem_map.mp hin
        have fr : far3 st.1 here = rh.2.2 := by rw [← erh]; exact far3_of Mj.fnd.nd hrh
        obtain ⟨vh, hvh, dvh⟩ := ent4.at Mj.fnd.nd hrh
        rw [erh] at hvh
        refine s_if (et_test (evd_ninP (evd_var rfl dz) (evp_var rfl) pd4 (by omega) kd)) (fun hc1 H6 e6 => ?_) (fun hc1 H6 e6 => ?_)
        · have hnot : one ∉ es.map (·.1) := by
            rw [Bool.not_eq_true'] at hc1
            exact of_decide_eq_false hc1
          have hnot2 : one ∉ keys3 st.1 := by rw [← ent4.keys]; exact hnot
          have les := ent4.length
          have dist : EvD (tOp (rI0 fun i j => .int (i + j)) (tOp (rIxP w) (tVar 3) (tVar 6)) (tC (.int 1))) [some v1, some v2, some v3, some (.ref a), some (.ref l), some (.ref b), some x, some z] H6 (.int ((rh.2.2 : Int) + 1)) := evd_add (evd_ixP (evp_var rfl) (evd_var rfl ((dxc.mono e4).mono e6)) (pd4.mono e6) (by omega) kdh hvh (dvh.mono e6)) evd_cint
          refine dist H6 (Ex.refl _) _ fun vd H7 e7 dvd => ?_
          have e67 := e6.trans e7
          have at6 : At w H7 a es z one := ⟨pd4.mono e67, dz.mono e67, by omega, kd⟩
          refine ⟨_, rfl, _, rfl, a, es, one, rfl, at6, by omega, ?_⟩
          have pd7 : PD w (upd H7 a (dpO w a (putP es one z vd))) a (putP es one z vd) := PD.put at6
          have eT : ExT H7 (upd H7 a (dpO w a (putP es one z vd))) := fun b' ys hb' => by
            rw [upd_ne]
            · exact hb'
            · rintro rfl
              rw [at6.pd.own] at hb'
              cases hb'
          have b6 := e67 _ _ hb4
          have hb7 : upd H7 a (dpO w a (putP es one z vd)) b = some (.lst fs) := by rw [upd_ne (Ne.symm hab)]; exact b6
          have e7' : Ex (hid H3 [a, b]) (upd H7 a (dpO w a (putP es one z vd))) := Ex.mut (e4.trans e67) (hid_none (List.mem_cons_self ..))
          have dz7 := (dz.mono e67).monoT eT (eP_tup _)
          have df7 := dtAll_eP (df4.mono e67) eT
          have ent7 := (ent4.mono e67).monoT eT valD_tup
          rw [putP_new z vd hnot] at pd7 eT hb7 e7' dz7 df7 ent7 ⊢
          have ent8 := ent7.snoc (e := (one, z, vd)) (r := (one, some here, far3 st.1 here + 1)) rfl (show Dt _ vd (.int ((far3 st.1 here + 1 : Nat) : Int)) from by
            obtain rfl := dt_int dvd
            rw [fr]
            exact .int _)
          have lfs := df7.length
          rw [List.length_map] at lfs
          refine s_app rfl hb7 (evd_var rfl dz7) (by omega) fun v H8 e8 dv => ?_
          have b8 := e8 _ _ hb7
          have eT8 := ext_upd (o := .lst (fs ++ [v])) b8
          have vs : visit here st one = (st.1 ++ [(one, some here, far3 st.1 here + 1)], st.2 ++ [one]) := by unfold visit; rw [if_neg hnot2]
          rw [vs]
          refine ⟨_, _, fs ++ [v], rfl, Ex.mut (e7'.trans e8) (hid_none (by simp)), (pd7.mono e8).monoT eT8 (upd_ne hab), (ent8.mono e8).monoT eT8 valD_tup, upd_same, ?_⟩
          rw [List.map_append]
          exact (dtAll_eP (df7.mono e8) eT8).append (.one (dv.monoT eT8 (eP_tup _)))
        · have hin2 : one ∈ keys3 st.1 := by
            rw [← ent4.keys]
            rw [Bool.not_eq_false'] at hc1
            exact of_decide_eq_true hc1
          have vs : visit here st one = st := by unfold visit; rw [if_pos hin2]
          rw [vs]
          exact ⟨_, es, fs, rfl, e4.trans e6, pd4.mono e6, ent4.mono e6, e6 _ _ hb4, df4.mono e6⟩
      · subst g1
        rw [lcs, List.take_length] at ent4 df4
        rw [foldl_take (inner (stepsP y k)) _ hhere]
        obtain ⟨Mj, _, _⟩ := Mid.inner (here := here) (stepsP y k here) M hereIn one_ok
        exact ⟨_, _, es, fs, rfl, eHc.trans (.of e4), tS3'.ext e4, pd4, ent4, hb4, df4, todo, Mj⟩
    · -- the layer's end
      subst g1
      rw [lsl, List.take_length] at ent' df' M
      exact ⟨_, rfl, b, _, _, _, es, fs, rfl, eHb.trans e', tS', nHb, pd', ent', hb', df'⟩

end
end Pc
/-! the law: a row of changes -/
namespace Pc
open PySem PySem.Spec PyProof.Rows L2
open LamX (TabS ExtN CodeO TabB)
open Evl (Ex EvT)
open StX (tStar pa_star)
section
variable {P : Program} {w : World} {K : PySem.W.Frag} {mg : Str → Option Value} {base : Heap}


theorem u65 {k : Nat} {A : Around} (r : Room k A) : A.units + 65 < cLine := by have := r.un; omega
def EvIT (wi : TI) (σ : L2.St) (H : Hp) (items : List PyData) : Prop := ∀ H1, Ex H H1 → ∀ R : It → Hp → Prop,
  (∀ J H2, Ex H1 H2 → Walk J items.length (ExT H2) (fun i H3 x H4 => Ex H3 H4 ∧ ∃ d, items[i]? = some d ∧ Dt H4 x d) → R J H2) → wi σ H1 R
section
variable {σ : L2.St} {H : Hp} {te : TE}
theorem evit_zipT {t : TA} {ds es : List PyData} (h : EvAD t σ H [.tuple ds, .tuple es]) (td : ∀ d ∈ ds, tupOnly d = true) (tz : ∀ d ∈ es, tupOnly d = true) : EvIT (RZ.iZipA K t) σ H (zipD ds es) := fun H1 e R k => h H1 e _ fun vs H2 e2 dv => by
  obtain ⟨x, y, rfl, dx, dy⟩ := dtAll2 dv
  obtain ⟨p, us, rfl, hp, kx⟩ := dt_tup dx
  obtain ⟨p', ws, rfl, hp', ky⟩ := dt_tup dy
  have l1 := kx.length
  have l2 := ky.length
  refine ⟨p, p', us, ws, rfl, .inr ⟨SqT.of hp, SqT.of hp', k _ H2 e2 ?_⟩⟩
  have el : (zipD ds es).length = min us.length ws.length := by unfold zipD; rw [List.length_map, List.length_zip, l1, l2]
  rw [el]
  refine ⟨fun i H' hi e' => ⟨us, ws, us[i]'(by omega), ws[i]'(by omega), SqT.of (e' _ _ hp), SqT.of (e' _ _ hp'), List.getElem?_eq_getElem _, List.getElem?_eq_getElem _⟩,
    fun H' e' => ⟨us, ws, SqT.of (e' _ _ hp), SqT.of (e' _ _ hp'), by omega⟩, fun i H3 x H4 hi e' y => ?_⟩
  obtain ⟨T, z, z', rfl, hT, rfl, hz, hz'⟩ := y
  obtain ⟨d, hd, dd⟩ := kx.get (hz us (SqT.of (e' _ _ hp)))
  obtain ⟨d', hd', dd'⟩ := ky.get (hz' ws (SqT.of (e' _ _ hp')))
  have eg : (zipD ds es)[i]? = some (.tuple [d, d']) := by
    unfold zipD
    rw [List.getElem?_map, List.getElem?_zip_eq_some (z := (d, d')).mpr ⟨hd, hd'⟩]
    rfl
  exact ⟨ex_new hT, _, eg, .tup upd_same (.cons ((dd.monoT e' (td d (List.mem_of_getElem? hd))).mono (ex_new hT)) (.one ((dd'.monoT e' (tz d' (List.mem_of_getElem? hd'))).mono (ex_new hT))))⟩
theorem s_retLc {wi : TI} {g : TG} {tt : TT} {tb : TE} {vs : List Nat} {r : R2} {D : Ends} {items : List PyData} (h : EvIT wi σ H items) (k : ∀ J H2, Ex H H2 → Walk J items.length (ExT H2) (fun i H3 x H4 => Ex H3 H4 ∧ ∃ d, items[i]? = some d ∧ Dt H4 x d) →
    tOp r (tLc (fun _ H R => R J H) g tt te vs) tb σ H2 D.rt) : tRet (tOp r (tLc wi g tt te vs) tb) D σ H := h H (Ex.refl _) _ fun J H2 e w => k J H2 e w
theorem evd_lastT {ds : List PyData} {d : PyData} (h : EvD te σ H (.tuple ds)) (k : ds[ds.length - 1]? = some d) : EvD (tOp (rIx K) te (tUn (rU fun i => .int (-i)) (tC (.int 1)))) σ H d := evd_op h (evd_neg evd_cint) (rd_ixTb k)
end
theorem stepsP_nn {y : Qy} {k : Kd} {p x : Pl} (h : x ∈ stepsP y k p) : x.nn = p.nn := (changed_nn (mem_stepsP.mp h).1).1
structure RowIs (y : Qy) (k : Kd) (p g : Pl) (many : Nat) (row : List Pl) : Prop where
  ok : ∀ x ∈ row, OkK y k x
  len : row.length = many + 1
  fst : row[0]? = some p
  lst : row[many]? = some g
  nxt : ∀ i a b, row[i]? = some a → row[i + 1]? = some b → b ∈ stepsP y k a
  few : many ≤ 5000
def sp__law_row_right (Pt : Addr) : Sp := fun vs H Q _ => ∃ (y : Qy) (k : Kd) (p g : Pl) (many : Nat) (row : List Pl), Qok y ∧ RowIs y k p g many row ∧ DtAll H vs [eQ y, .str k.str, .tuple (row.map eP), eP p, eP g, .int (many : Int)] ∧ TabS H Pt lamQ ∧
  ∀ H', ExtN H H' → TabS H' Pt lamQ → Q (.bl true) H'
theorem dtAll6 {H : Hp} {vs : List V} {a b c d e f : PyData} (h : DtAll H vs [a, b, c, d, e, f]) : ∃ x1 x2 x3 x4 x5 x6, vs = [x1, x2, x3, x4, x5, x6] ∧ Dt H x1 a ∧ Dt H x2 b ∧ Dt H x3 c ∧ Dt H x4 d ∧ Dt H x5 e ∧ Dt H x6 f := by
  cases h with
  | cons h1 h => cases h with
    | cons h2 h => cases h with
      | cons h3 h => cases h with
        | cons h4 h => cases h with
          | cons h5 h => cases h with
            | cons h6 h =>
              cases h
              exact ⟨_, _, _, _, _, _, rfl, h1, h2, h3, h4, h5, h6⟩
theorem cl__law_row_right {Pt : Addr} (G : Gs K mg) (D : Df K mg "_law_row_right" s__law_row_right) (c__law_steps : Cl P w K mg base 21 "_law_steps" (sp__law_steps Pt)) : Cl P w K mg base 22 "_law_row_right" (sp__law_row_right Pt) := by
  refine cl_of (k := 21) D sc__law_row_right (fun _ _ _ _ _ _ us hl => match us, hl with | [_, _, _, _, _, _], _ => rfl) (fun vs H Q E ⟨y, k, p, g, many, row, _, _, h, _⟩ => h.length) fun f cdv A outer s H vs Q E hr hsp => ?_
  obtain ⟨y, k, p, g, many, row, okq, R, hk, tS, q⟩ := hsp
  refine ⟨_, (pss_cons (ps_if (PW.pt (pw_or (pt_cmpR (r := rNeD K) (op_neD hr.units) (pe_callB (r := rLenA K) call_len_seq (by rfl) G.f_len bt_len (pa_cons (pv 2) pa_nil)) (pe_op op_add (pv 5) pe_int) (nomark _)) (pw_or (pt_cmpR (r := rNeD K) (op_neD hr.units) (pe_ix (r := rIx K) ix_seq (pv 2) pe_int (fun _ _ => rfl)) (pv 3) (nomark _)) (pw_or1 (pt_cmpR (r := rNeD K) (op_neD hr.units) (pe_ix (r := rIx K) ix_seq (pv 2) (pe_un un_neg pe_int) (fun _ _ => rfl)) (pv 4) (nomark _)))))) (pss_one (ps_ret pe_bl)) pss_nil)
      (pss_one (ps_ret (pe_cmpR (r := rEqD K) (op_eqD hr.units) (pe_lc (own := [("_law_one", 6), ("_law_two", 7)]) (g := (gTup K 2 (gCons (gName 6) (gCons (gName 7) gNil)))) rfl sc__law_row_right.nd (RZ.pi_zipA (by rfl) G.f_zip (pa_cons (pv 2) (pa_cons (pe_slice (r := rSlA K) sl_tupA (pv 2) (po_some pe_int) po_none) pa_nil))) (blkOk_by (own := [("_law_one", 6), ("_law_two", 7)]) (N := N__law_row_right) (sc := defScope s__law_row_right) (by decide +kernel)) (fun _ _ _ _ _ => (pg_tup rfl (pgs_cons (pg_name (i := 6) sc__law_row_right.nd rfl (by first | exact Or.inl rfl | exact Or.inr rfl)) (pgs_cons (pg_name (i := 7) sc__law_row_right.nd rfl (by first | exact Or.inl rfl | exact Or.inr rfl)) pgs_nil)))) (fun _ _ _ _ _ => (pts_one (pt_cmpR (r := rNotInD K) (op_notInD (u65 hr)) (pv 7) (pe_u c__law_steps hr (by omega) (by rfl) (pa_cons (pv 0) (pa_cons (pv 1) (pa_cons (pv 6) pa_nil)))) (by rfl)))) (fun _ _ _ _ _ => pe_int)) (pe_lst pa_nil) (nomark _))))), ?_⟩
  obtain ⟨v1, v2, v3, v4, v5, v6, rfl, h1, h2, h3, h4, h5, h6⟩ := dtAll6 hk
  have nn_of : ∀ {x}, OkK y k x → x.nn < 4 := fun {x} ok => ok.1.nn9 okq
  have rl := R.len
  have few := R.few
  have hp : p.nn < 4 := nn_of (R.ok p (List.mem_of_getElem? R.fst))
  have hg : g.nn < 4 := nn_of (R.ok g (List.mem_of_getElem? R.lst))
  have tr : ∀ d ∈ row.map eP, tupOnly d = true := eL_tup (ps := row)
  refine q_no (et_is (et_or (et_test (evd_ne (evd_lenT (evd_var rfl h3)) (evd_add (evd_var rfl h6) evd_cint))) fun _ => et_or (et_test (evd_ne (evd_ixT (j := 0) (d := eP p) (evd_var rfl h3) (by rw [List.getElem?_map, R.fst]; rfl)) (evd_var rfl h4) (eP_shaped (by omega)) (eP_shaped (by omega)))) fun _ => et_test (evd_ne (evd_lastT (d := eP g) (evd_var rfl h3) (by rw [List.length_map, rl, List.getElem?_map, Nat.add_sub_cancel, R.lst]; rfl)) (evd_var rfl h5) (eP_shaped (by omega)) (eP_shaped (by omega)))) ?_) fun H1 e1 => ?_
  · rw [eqv_eP, eqv_eP, decide_eq_true rfl, decide_eq_true rfl, List.length_map, rl]
    have z : PyData.eqv (.int ((many + 1 : Nat) : Int)) (.int ((many : Int) + 1)) = true := by
      show (((many + 1 : Nat) : Int) == ((many : Int) + 1)) = true
      exact beq_iff_eq.mpr (by omega)
    rw [z]
    rfl
  · have i3 := h3.mono e1
    have zi : EvIT (RZ.iZipA K (tCons (tVar 2) (tCons (tSl (rSlA K) (tVar 2) (tPart (tC (.int 1))) tNoPart) tNil))) (start N__law_row_right [v1, v2, v3, v4, v5, v6]) H1 (zipD (row.map eP) ((row.map eP).drop 1)) :=
      evit_zipT (ead_cons (evd_var rfl i3) (ead_cons (evd_from (j := 1) (evd_var rfl i3)) ead_nil)) tr fun d hd => tr d (List.mem_of_mem_drop hd)
    refine s_retLc zi fun J H2 e2 wk => ?_
    refine fun Dl hD => ?_
    have tS2 := (tS.ext e1).ext e2
    have eD := ex_new (o := .lst []) hD
    refine lc_it wk (fun i H' => ExtN H2 H' ∧ TabS H' Pt lamQ ∧ H' Dl = some (.lst [])) ⟨.of eD, tS2.ext eD, upd_same⟩ (fun i H' _ ⟨e', _⟩ => extN_t e') (fun i x H' H'' hi ⟨e', tS', hL⟩ yv => ?_) (fun H' ⟨e', tS', hL⟩ => ?_)
    · obtain ⟨e3, d, hd, dx⟩ := yv
      unfold zipD at hd
      rw [List.getElem?_map] at hd
      obtain ⟨zz, hzz, rfl⟩ := Option.map_eq_some_iff.mp hd
      obtain ⟨z1, z2⟩ := List.getElem?_zip_eq_some.mp hzz
      rw [List.getElem?_map] at z1
      rw [List.getElem?_drop, List.getElem?_map] at z2
      obtain ⟨one, hone, eo⟩ := Option.map_eq_some_iff.mp z1
      obtain ⟨two, htwo, et⟩ := Option.map_eq_some_iff.mp z2
      rw [← eo, ← et] at dx
      have ok1 := R.ok one (List.mem_of_getElem? hone)
      have hin := R.nxt i one two hone (by rw [Nat.add_comm]; exact htwo)
      have n1 := nn_of ok1
      have n2 := stepsP_nn hin
      have eH := extN_s (((ExtN.of (e1.trans e2)).trans e').trans (.of e3))
      refine g_tup2 dx fun xa xb da db => ⟨rfl, ?_⟩
      refine ⟨_, rfl, _, rfl, _, rfl, _, rfl, y, k, one, okq.few, by omega, ok1.1.good, .cons (h1.monoS eH) (.cons (h2.monoS eH) (.one da)), tS'.ext e3, fun a xs H3 en ts fr ha das => ?_⟩
      have db3 := db.monoS (extN_s en)
      refine ⟨eP two, (stepsP y k one).map eP, db3.dp K, (Dt.lst ha das).dp K, eP_shaped (by omega), eL_shaped (n := 9) (by omega) fun x hx => by have := stepsP_nn hx; omega, ?_⟩
      have an : ((stepsP y k one).map eP).any (fun z => PyData.eqv z (eP two)) = true := List.any_eq_true.mpr ⟨eP two, List.mem_map.mpr ⟨two, hin, rfl⟩, by rw [eqv_eP, decide_eq_true rfl]⟩
      rw [an]
      exact ⟨false, rfl, (e'.trans (.of e3)).trans en, ts, en _ _ (e3 _ _ hL) fun ps z => nomatch z⟩
    · have fin : EvD (tLst tNil) (start N__law_row_right [v1, v2, v3, v4, v5, v6]) H' (.list []) := evd_lst ead_nil (by simp)
      refine fin H' (Ex.refl _) _ fun vr H3 e3 dr => ?_
      refine rd_eqD (a := .list []) (b := .list []) rfl rfl H3 (.ref Dl) vr (.lst (e3 _ _ hL) .nil) dr _ fun z H4 e4 dz => ?_
      obtain rfl := dt_bl dz
      exact q H4 (((((ExtN.of (e1.trans e2)).trans e').trans (.of e3))).trans (.of e4)) ((tS'.ext e3).ext e4)

end
end Pc
/-! the law: all that comes is told -/
namespace Pc
open PySem PySem.Spec PyProof.Rows L2
open LamX (TabS ExtN CodeO TabB)
open Evl (Ex EvT)
open StX (tStar pa_star)
section
variable {P : Program} {w : World} {K : PySem.W.Frag} {mg : Str → Option Value} {base : Heap}


def EmN (m g : Addr) (H H' : Hp) : Prop := ∀ b o, b ≠ m → b ≠ g → H b = some o → (∀ ps, o ≠ .tbl ps) → H' b = some o
theorem EmN.ofEm {m g : Addr} {H H' : Hp} (e : Em m g H H') : EmN m g H H' := fun b o h1 h2 h _ => e b o h1 h2 h
theorem EmN.ofN {m g : Addr} {H H' : Hp} (e : ExtN H H') : EmN m g H H' := fun b o _ _ h n => e b o h n
theorem EmN.ofEx {m g : Addr} {H H' : Hp} (e : Ex H H') : EmN m g H H' := .ofEm (.of e)
theorem EmN.trans {m g : Addr} {H H1 H2 : Hp} (a : EmN m g H H1) (b : EmN m g H1 H2) : EmN m g H H2 := fun c o h1 h2 h n => b c o h1 h2 (a c o h1 h2 h n) n
theorem St.monoN {m c g : Addr} {B B' : Nat} {H H' : Hp} (s : St m c g B H) (e : ExtN H H') (h : B ≤ B') : St m c g B' H' := by
  obtain ⟨n, cs, gs, h1, h2, h3, h4, h5, h6, h7, h8, h9⟩ := s.ex
  exact ⟨n, cs, gs, e _ _ h1 (fun ps z => nomatch z), ⟨h2.1, by omega⟩, e _ _ h3 (fun ps z => nomatch z), h4, h5, e _ _ h6 (fun ps z => nomatch z), h7, h8, h9⟩
theorem St.extN {m c g : Addr} {B : Nat} {H H' : Hp} (s : St m c g B H) (e : EmN m g H H') : ExT H H' := by
  obtain ⟨n, cs, gs, h1, h2, h3, h4, h5, h6, h7, h8, h9⟩ := s.ex
  refine fun b xs h => e b _ ?_ ?_ h fun ps z => nomatch z
  · rintro rfl
    rw [h1] at h
    cases h
  · rintro rfl
    rw [h6] at h
    cases h
theorem St.not {m c g : Addr} {B : Nat} {H : Hp} (s : St m c g B H) {b : Addr} {o : HO} (h : H b = some o) (n1 : ∀ kvs, o ≠ .dK kvs) (n2 : ∀ xs, o ≠ .lst xs) : b ≠ m ∧ b ≠ g := by
  obtain ⟨n, cs, gs, h1, h2, h3, h4, h5, h6, h7, h8, h9⟩ := s.ex
  constructor
  · rintro rfl
    rw [h1] at h
    exact n1 _ (Option.some.inj h).symm
  · rintro rfl
    rw [h6] at h
    exact n2 _ (Option.some.inj h).symm
theorem tabS_em {m c g : Addr} {B : Nat} {H H' : Hp} {Pt : Addr} {q : Str} (t : TabS H Pt q) (s : St m c g B H) (e : Em m g H H') : TabS H' Pt q := by
  obtain ⟨ps, h1, h2, h3⟩ := t
  refine ⟨ps, ?_, h2, fun pos cv hc => ?_⟩
  · have n := s.not h1 (fun _ z => nomatch z) (fun _ z => nomatch z)
    exact e _ _ n.1 n.2 h1
  · obtain ⟨c', e1, e2⟩ := h3 pos cv hc
    have n := s.not e2 (fun _ z => by unfold CodeO at z; cases z) (fun _ z => by unfold CodeO at z; cases z)
    exact ⟨c', e1, e _ _ n.1 n.2 e2⟩
theorem pd_em {m c g : Addr} {B : Nat} {H H' : Hp} {a : Addr} {es : List Ent} (pd : PD w H a es) (s : St m c g B H) (e : Em m g H H') : PD w H' a es := by
  have n := s.not pd.own (fun _ z => nomatch z) (fun _ z => nomatch z)
  exact pd.monoT (s.extT e) ((e _ _ n.1 n.2 pd.own).trans pd.own.symm)
section
variable {σ : L2.St} {H : Hp} {ta te : TE} {t : TA} {ds : List PyData} {d : PyData}
theorem evd_like (h : EvAD t σ H [.list ds, .list ds]) (sh : Shows 10000000 (.list ds)) (dp : (PyData.list ds).depth ≤ 50) : EvD (tCall sp__law_like [] E0 t) σ H (.bool true) := fun H1 e Q q => h H1 e _ fun vs H2 e2 dv => by
  obtain ⟨a, b, rfl, da, db⟩ := dtAll2 dv
  exact ⟨a, b, ds, rfl, da, db, sh, dp, fun H3 e3 => q _ H3 (e2.trans e3) (.bl _)⟩
theorem evd_rep2 (h : EvD ta σ H (.list [d])) : EvD (tOp rRep ta (tC (.int 2))) σ H (.list [d, d]) := fun H1 e Q q => h H1 e _ fun v H2 e2 dv => by
  obtain ⟨a, xs, rfl, ha, dx⟩ := dt_lst dv
  obtain ⟨x, rfl, dd⟩ := dtAll1 dx
  refine ⟨a, 2, [x], rfl, rfl, ha, by omega, by omega, sz5 (show 1 * 2 ≤ 100000 by omega), fun p hp => ?_⟩
  exact q _ _ (e2.trans (ex_new hp)) (.lst upd_same (.cons (dd.mono (ex_new hp)) (.one (dd.mono (ex_new hp)))))
end
theorem rowIs_chain {y : Qy} {k : Kd} {p g : Pl} {F : List Row3} (hF : BfsIs y k p F) (okp : OkK y k p) (few : Few y) (hg : g ∈ keys3 F) : RowIs y k p g (far3 F g) (chain F (far3 F g) g).reverse := by
  obtain ⟨fn, _⟩ := hF.fnd okp
  obtain ⟨c1, c2, c3, c4, c5, c6⟩ := chain_props fn (far3 F g) g hg rfl
  have ok : ∀ x ∈ chain F (far3 F g) g, OkK y k x := fun x hx => fn.ok x (c1 x hx).1
  have bd := few.of k _ c2 ok
  rw [c3] at bd
  refine ⟨fun x hx => ok x (List.mem_reverse.mp hx), by rw [List.length_reverse, c3], ?_, ?_, fun i a b ha hb => ?_, by omega⟩
  · rw [List.getElem?_reverse (by omega), c3]
    exact c5
  · rw [List.getElem?_reverse (by omega), c3, Nat.add_sub_cancel, Nat.sub_self]
    exact c4
  · have l2 := (List.getElem?_eq_some_iff.mp hb).1
    rw [List.length_reverse, c3] at l2
    rw [List.getElem?_reverse (by omega), c3] at ha hb
    refine c6 (far3 F g - (i + 1)) b a ?_ ?_
    · rw [← hb]; congr 1
    · rw [← ha]; congr 1; omega
def sp__law_far_right (w : World) (Pt : Addr) : Sp := fun vs H Q _ => ∃ (m c g : Addr) (B : Nat) (x pv kv : V) (y : Qy) (k : Kd) (p : Pl), vs = [.ref m, x, pv, kv] ∧ Dt H x (eQ y) ∧ Dt H pv (eP p) ∧ Dt H kv (.str k.str) ∧ (Qok y ∧ OkK y k p ∧ Few y) ∧ B + 100 ≤ 1000000 ∧ St m c g B H ∧ TabS H Pt lamQ ∧
  ∀ H', EmN m g H H' → St m c g (B + 100) H' → TabS H' Pt lamQ → Q (.bl true) H'


theorem cl__law_far_right {Pt : Addr} (G : Gs K mg) (D : Df K mg "_law_far_right" s__law_far_right) (c__law_all_from : Cl P w K mg base 22 "_law_all_from" (sp__law_all_from w Pt)) (c__law_like : ClG P w K mg base 1 "_law_like" sp__law_like) (c_reached : Cl P w K mg base 25 "reached" (spR R_reached)) (c__law_scheme : Cl P w K mg base 7 "_law_scheme" (sp__law_scheme 4))
    (c__law_no_cross : Cl P w K mg base 20 "_law_no_cross" (spR (R__law_no_cross 9))) (c_shortest_way : Cl P w K mg base 25 "shortest_way" (spR R_shortest_way)) (c__law_row_right : Cl P w K mg base 22 "_law_row_right" (sp__law_row_right Pt)) : ClG P w K mg base 26 "_law_far_right" (sp__law_far_right w Pt) := by
  refine clG_of (k := 25) D sc__law_far_right (fun _ _ _ _ _ _ us hl => match us, hl with | [_, _, _, _], _ => rfl) (fun vs H Q E ⟨m, c, g, B, x, pv, kv, y, k, p, h, _⟩ => by rw [h]; rfl) fun f cdv A outer s H vs Q E hr hg hsp => ?_
  obtain ⟨m, c, g, B, x, pv', kv, y, k, p, rfl, h1, h2, h3, ⟨okq, okp, few⟩, hB, S, tS, q⟩ := hsp
  refine ⟨_, (pss_cons (ps_set (i := 4) sc__law_far_right.nd rfl (by first | exact Or.inl rfl | exact Or.inr rfl) (pe_u c__law_all_from hr (by omega) (by rfl) (pa_cons (pv 1) (pa_cons (pv 3) (pa_cons (pv 2) pa_nil)))))
      (pss_cons (ps_if (pt_not (pt_val (pe_uG c__law_like hr (show _ = some [] from hg) (by omega) (by rfl) (pa_cons (pe_lst (pa_cons (pe_u c_reached hr (by omega) (by rfl) (pa_cons (pv 1) (pa_cons (pv 2) (pa_cons (pv 3) pa_nil)))) (pa_cons (pe_u c_reached hr (by omega) (by rfl) (pa_cons (pv 1) (pa_cons (pv 2) (pa_cons (pv 3) pa_nil)))) pa_nil))) (pa_cons (pe_op op_rep (pe_lst (pa_cons (pe_callB (r := rLenP w) call_lenP (by rfl) G.f_len bt_len (pa_cons (pv 4) pa_nil)) pa_nil)) pe_int) pa_nil))))) (pss_one (ps_ret pe_bl)) pss_nil)
      (pss_cons (ps_set (i := 5) sc__law_far_right.nd rfl (by first | exact Or.inl rfl | exact Or.inr rfl) (pe_u c__law_scheme hr (by omega) (by rfl) (pa_cons (pv 0) (pa_cons (pe_listRg rfl (by rfl) G.f_list (prg_1 (by rfl) G.f_range (pe_callB (r := rLenA K) call_len_seq (by rfl) G.f_len bt_len (pa_cons (pe_ix (r := rIx K) ix_seq (pv 1) pe_int (fun _ _ => rfl)) pa_nil)))) pa_nil))))
      (pss_cons (ps_if (PW.pt (pw_and (pt_cmpR (r := rEqD K) (op_eqD hr.units) (pv 3) pe_str (nomark _)) (pw_and1 (pt_not (pt_val (pe_u c__law_no_cross hr (by omega) (by rfl) (pa_cons (pv 1) (pa_cons (pv 5) pa_nil)))))))) (pss_one (ps_set (i := 5) sc__law_far_right.nd rfl (by first | exact Or.inl rfl | exact Or.inr rfl) (pv 2))) pss_nil)
      (pss_cons (ps_set (i := 6) sc__law_far_right.nd rfl (by first | exact Or.inl rfl | exact Or.inr rfl) (pe_u c_shortest_way hr (by omega) (by rfl) (pa_cons (pv 1) (pa_cons (pv 2) (pa_cons (pv 5) (pa_cons (pv 3) pa_nil))))))
      (pss_cons (ps_if (pt_cmpR (r := rInP w true) (op_notInP (u16 hr)) (pv 5) (pv 4) (by rfl)) (pss_one (ps_ret (pe_cmpR op_isN (pv 6) pe_non (nomark _)))) pss_nil)
      (pss_cons (ps_if (pt_not (pt_val (pe_isi (by rfl) G.f_isinstance (by rfl) G.f_tuple bt_tuple (pv 6)))) (pss_one (ps_ret pe_bl)) pss_nil)
      (pss_one (ps_ret (pe_u c__law_row_right hr (by omega) (by rfl) (pa_cons (pv 1) (pa_cons (pv 3) (pa_cons (pv 6) (pa_cons (pv 2) (pa_cons (pv 5) (pa_cons (pe_ix (r := rIxP w) (ix_P (u16 hr)) (pv 4) (pv 5) (fun _ _ => rfl)) pa_nil)))))))))))))))), ?_⟩
  have many := okq.many
  have nn_of : ∀ {x}, OkK y k x → x.nn < 4 := fun {x} ok => ok.1.nn9 okq
  -- every
  refine ⟨_, rfl, _, rfl, _, rfl, y, k, p, ⟨okq, okp, few⟩, .cons h1 (.cons h3 (.one h2)), tS, fun a es F H1 hF en1 ts1 fr pd ent => ?_⟩
  obtain ⟨fn, _⟩ := hF.fnd okp
  have flen : F.length ≤ 2232 := by
    have z := few.of k _ fn.nd fn.ok
    unfold keys3 at z
    rw [List.length_map] at z
    exact z
  have les := ent.length
  have S1 := S.monoN en1 (Nat.le_refl _)
  have x1 := extN_s en1
  have i1 := h1.monoS x1
  have i2 := h2.monoS x1
  have i3 := h3.monoS x1
  have rF : ∀ {σ : L2.St} {H' : Hp}, σ[1]? = some (some x) → σ[2]? = some (some pv') → σ[3]? = some (some kv) → Ex H1 H' → EvD (tCall (spR R_reached) [] E0 (tCons (tVar 1) (tCons (tVar 2) (tCons (tVar 3) tNil)))) σ H' (.int (F.length : Int)) := fun e1 e2 e3 e => evd_call (ead_cons (evd_var e1 (i1.mono e)) (ead_cons (evd_var e2 (i2.mono e)) (ead_cons (evd_var e3 (i3.mono e)) ead_nil))) ⟨y, k, p, F, ⟨okq, okp, few⟩, hF, rfl, rfl⟩
  have si : Shows 7 (.int (F.length : Int)) := shows_int (by omega)
  refine q_no (et_is (et_not (et_test (evd_like (ds := [.int (F.length : Int), .int (F.length : Int)]) (ead_cons (evd_lst (ead_cons (rF rfl rfl rfl (Ex.refl _)) (ead_cons (rF rfl rfl rfl (Ex.refl _)) ead_nil)) (by simp)) (ead_cons (evd_rep2 (evd_lst (ead_cons (evd_is (evd_lenP (evp_var rfl) pd) (by rw [les])) ead_nil) (by simp))) ead_nil)) (((ShowsAll.nil.cons si).cons si).list.mono (by omega)) (by show (1 : Nat) ≤ 50; omega)))) rfl) fun H2 e2 => ?_
  -- goal
  have len : EvD (tCB (rLenA K) (tCons (tOp (rIx K) (tVar 1) (tC (.int 0))) tNil)) [some (V.ref m), some x, some pv', some kv, some (.ref a), none, none] H2 (.int ((y.sizes.map eRow).length : Int)) := evd_lenT (evd_ixT (j := 0) (evd_var rfl (i1.mono e2)) rfl)
  refine ⟨_, rfl, ?_⟩
  refine len H2 (Ex.refl _) _ fun vl H3 e3 dl => ?_
  obtain rfl := dt_int dl
  rw [List.length_map]
  refine ⟨_, rfl, RgOk.of_le (by omega) (by omega) (by omega) (by omega), fun a2 n2 => ?_⟩
  rw [rg_vN]
  have e4 : Ex H1 (upd H3 a2 (.lst (vN (List.range y.sizes.length)))) := (e2.trans e3).trans (ex_new n2)
  have S3 := S1.mono (e2.trans e3) (Nat.le_refl _)
  have S4 := S1.mono e4 (Nat.le_refl _)
  refine ⟨m, c, g, a2, B, List.range y.sizes.length, rfl, upd_same, S3.ne_m n2, by rw [List.length_range]; omega, by rw [List.length_range]; omega, S4, fun vg H5 g0 em5 st5 pp gg dg => ?_⟩
  rw [List.length_range] at st5
  have em : Em m g H1 H5 := (Em.of e4).trans em5
  have xt := S1.extT em
  have j1 := i1.monoT xt (eQ_tupO y)
  have j2 := i2.monoT xt (eP_tup p)
  have j3 := i3.monoT xt rfl
  have pd5 := pd_em pd S1 em
  have ent5 := ent.monoT xt valD_tup
  have ts5 := tabS_em ts1 S1 em
  have emn : EmN m g H H5 := (EmN.ofN en1).trans (.ofEm em)
  have n0 : g0.nn < 4 := (⟨pp, gg⟩ : Pok y.sizes.length g0).nn9 okq
  clear rF len pd ent ts1 tS e4 S3 S4 em
  refine q_ifI (fun σ' H' => ∃ (v : V) (o : Pl), σ' = [some (V.ref m), some x, some pv', some kv, some (.ref a), some v, none] ∧ Ex H5 H' ∧ Dt H' v (eP o) ∧ OkK y k o)
    (et_and (et_test (evd_eq (evd_var rfl j3) (evd_cstr (x := Kd.linked.str)) (sh_kd k) (sh_kd .linked))) fun _ => et_not (et_test (evd_call (ead_cons (evd_var rfl j1) (ead_cons (evd_var rfl dg) ead_nil)) ⟨y, g0, okq.few, by omega, rfl, rfl⟩))) (fun hc H6 e6 Nx nx => ⟨_, rfl, nx _ _ ⟨pv', p, rfl, e6, j2.mono e6, okp⟩⟩) (fun hc H6 e6 => ⟨vg, g0, rfl, e6, dg.mono e6, ⟨pp, gg⟩, fun z => ?_⟩) (fun σ' H6 ⟨v, o, g1, e6, dv, oko⟩ => ?_)
  · rw [eqv_kd, decide_eq_true z, Bool.true_and, Bool.not_eq_false'] at hc
    exact hc
  · subst g1
    have no := nn_of oko
    have kdo : ∀ e ∈ es, e.1.isT = o.isT := fun e he => isT_of (fn.ok e.1 (by rw [← ent5.keys]; exact List.mem_map.mpr ⟨e, he, rfl⟩)).1 oko.1
    refine q_asg (evd_call (R := R_shortest_way) (ead_cons (evd_var rfl (j1.mono e6)) (ead_cons (evd_var rfl (j2.mono e6)) (ead_cons (evd_var rfl dv) (ead_cons (evd_var rfl (j3.mono e6)) ead_nil)))) ⟨y, k, p, o, F, ⟨okq, okp, oko, few⟩, hF, rfl, rfl⟩) fun vr H7 e7 dr => ?_
    have e67 := e6.trans e7
    have pd7 := pd5.mono e67
    have ent7 := ent5.mono e67
    have fin : ∀ H', ExtN H7 H' → TabS H' Pt lamQ → Q (.bl true) H' := fun H' e t => q H' ((emn.trans (.ofEx e67)).trans (.ofN e)) (((st5.mono e67 (Nat.le_refl _)).monoN e (Nat.le_refl _)).up (by omega)) t
    refine q_when (et_test (evd_ninP (evd_var rfl (dv.mono e7)) (evp_var rfl) pd7 (by omega) kdo)) (fun hc H8 e8 => ?_) (fun hc H8 e8 => ?_)
    · rw [ent7.keys, Bool.not_eq_true'] at hc
      unfold wayOf at dr
      rw [if_neg (of_decide_eq_false hc)] at dr
      refine s_ret (d := .bool (isN .none)) (evd_isN (evd_var rfl (dr.mono e8))) fun v9 H9 e9 d9 => ?_
      obtain rfl := dt_bl d9
      exact fin H9 (.of (e8.trans e9)) (ts5.ext ((e67.trans e8).trans e9))
    · rw [ent7.keys, Bool.not_eq_false'] at hc
      have hin := of_decide_eq_true hc
      unfold wayOf at dr
      rw [if_pos hin] at dr
      refine q_no (et_is (et_not (et_test (evd_isi (b := true) (evd_var rfl (dr.mono e8)) rfl))) rfl) fun H9 e9 => ?_
      have e89 := e8.trans e9
      have pd9 := pd7.mono e89
      have ent9 := ent7.mono e89
      obtain ⟨ro, hro, ero⟩ := List.mem_map.mp hin
      obtain ⟨vd, hvd, dvd⟩ := ent9.at fn.nd hro
      rw [ero] at hvd
      have efar : far3 F o = ro.2.2 := by rw [← ero]; exact far3_of fn.nd hro
      have dist : EvD (tOp (rIxP w) (tVar 4) (tVar 5)) [some (V.ref m), some x, some pv', some kv, some (.ref a), some v, some vr] H9 (.int ((far3 F o : Nat) : Int)) := evd_ixP (evp_var rfl) (evd_var rfl ((dv.mono e7).mono e89)) pd9 (by omega) kdo hvd (by rw [efar]; exact dvd)
      refine ⟨_, rfl, _, rfl, _, rfl, _, rfl, _, rfl, ?_⟩
      refine dist H9 (Ex.refl _) _ fun v10 H10 e10 d10 => ?_
      have eA := (e67.trans e89).trans e10
      have eB := e89.trans e10
      exact ⟨y, k, p, o, far3 F o, _, okq, rowIs_chain hF okp few hin, .cons (j1.mono eA) (.cons (j3.mono eA) (.cons (dr.mono eB) (.cons (j2.mono eA) (.cons ((dv.mono e7).mono eB) (.one d10))))), ts5.ext eA, fun H11 e11 t11 => fin H11 ((ExtN.of eB).trans e11) t11⟩

end
end Pc
/-! plain: how many plans there are, how many come of one -/
namespace Pc
open PySem PySem.Spec PyProof.Rows L2

/-! ### all plans -/
def insAll (x : Nat) : List Nat → List (List Nat)
  | [] => [[x]]
  | y :: ys => (x :: y :: ys) :: (insAll x ys).map (y :: ·)
def permsOf : List Nat → List (List Nat)
  | [] => [[]]
  | x :: xs => (permsOf xs).flatMap (insAll x)
theorem ins_mem (x : Nat) : ∀ (A B : List Nat), A ++ x :: B ∈ insAll x (A ++ B)
  | [], [] => List.mem_cons_self ..
  | [], b :: B => List.mem_cons_self ..
  | a :: A, B => List.mem_cons_of_mem _ (List.mem_map.mpr ⟨_, ins_mem x A B, rfl⟩)
theorem perms_mem : ∀ {xs L : List Nat}, L.Perm xs → L ∈ permsOf xs
  | [], L, h => by rw [List.perm_nil.mp h]; exact List.mem_cons_self ..
  | x :: xs, L, h => by
    obtain ⟨A, B, rfl⟩ := List.append_of_mem (h.mem_iff.mpr (List.mem_cons_self ..))
    exact List.mem_flatMap.mpr ⟨A ++ B, perms_mem (List.Perm.cons_inv (List.perm_middle.symm.trans h)), ins_mem x A B⟩
def treesOf : Nat → List Nat → List Pl
  | 0, _ => []
  | f + 1, L => if L.length = 1 then L.map .tab else (List.range L.length).flatMap fun i => hows.flatMap fun h => (treesOf f (L.take i)).flatMap fun l => ((treesOf f (L.drop i)).filter fun r => !(decide (h = .probed) && !r.isT)).map fun r => .node h l r
theorem trees_mem : ∀ {f : Nat} {p : Pl}, p.nn < f → p.good = true → p ∈ treesOf f p.leaves
  | 0, _, h, _ => absurd h (Nat.not_lt_zero _)
  | f + 1, .tab t, _, _ => by
    rw [treesOf, if_pos (show (Pl.tab t).leaves.length = 1 from rfl)]
    exact List.mem_cons_self ..
  | f + 1, .node h l r, hn, hg => by
    rw [Pl.nn] at hn
    have hg' : (!(decide (h = .probed) && !r.isT) && (l.good && r.good)) = true := hg
    rw [Bool.and_eq_true, Bool.and_eq_true] at hg'
    have ll := l.leaves_len
    have lr := r.leaves_len
    rw [treesOf, Pl.leaves, if_neg (by rw [List.length_append]; omega)]
    refine List.mem_flatMap.mpr ⟨l.leaves.length, List.mem_range.mpr (by rw [List.length_append]; omega), List.mem_flatMap.mpr ⟨h, by cases h <;> decide, List.mem_flatMap.mpr ⟨l, ?_, List.mem_map.mpr ⟨r, List.mem_filter.mpr ⟨?_, hg'.1⟩, rfl⟩⟩⟩⟩
    · rw [List.take_left]
      exact trees_mem (by omega) hg'.2.1
    · rw [List.drop_left]
      exact trees_mem (by omega) hg'.2.2
def allPl (n : Nat) : List Pl := (permsOf (List.range n)).flatMap (treesOf 4)
theorem allPl_mem {n : Nat} {p : Pl} (h : Pok n p) (hn : n ≤ 4) : p ∈ allPl n := by
  have e := h.len
  exact List.mem_flatMap.mpr ⟨p.leaves, perms_mem h.perm, trees_mem (by omega) h.good⟩
theorem len_le : ∀ {xs ys : List Pl}, xs.Nodup → (∀ x ∈ xs, x ∈ ys) → xs.length ≤ ys.length
  | [], _, _, _ => Nat.zero_le _
  | x :: xs, ys, hn, hs => by
    have hn' := List.nodup_cons.mp hn
    have hx := hs x (List.mem_cons_self ..)
    have h := len_le (ys := ys.erase x) hn'.2 fun z hz => (List.mem_erase_of_ne fun e => hn'.1 (by rw [← e]; exact hz)).mpr (hs z (List.mem_cons_of_mem _ hz))
    rw [List.length_erase_of_mem hx] at h
    have := List.length_pos_of_mem hx
    rw [List.length_cons]
    omega
theorem all_len : (allPl 1).length = 1 ∧ (allPl 2).length = 6 ∧ (allPl 3).length = 90 ∧ (allPl 4).length = 2232 := by
  refine ⟨?_, ?_, ?_, ?_⟩ <;> decide +kernel
theorem few_n {n : Nat} (hn : 1 ≤ n ∧ n ≤ 4) : (allPl n).length ≤ 2232 := by
  obtain ⟨a, b, c, d⟩ := all_len
  have : n = 1 ∨ n = 2 ∨ n = 3 ∨ n = 4 := by omega
  rcases this with rfl | rfl | rfl | rfl <;> omega
theorem few_pok {q : Qy} (h : Qok q) : Few q := fun ps nd ok => Nat.le_trans (len_le nd fun p hp => allPl_mem (ok p hp) h.many.2) (few_n h.many)
/-! ### what comes of a plan -/
def lhow : Pl → Nat → Nat
  | .tab _, k => k
  | .node h l r, k => lhow r (lhow l (k * 3 + match h with | .hashed => 0 | .nested => 1 | .probed => 2))
def ltab : Pl → Nat → Nat
  | .tab t, k => k * 4 + t
  | .node _ l r, k => ltab r (ltab l k)
def lshape : Pl → Nat → Nat
  | .tab _, k => k * 2
  | .node _ l r, k => lshape r (lshape l (k * 2 + 1))
def codeP (p : Pl) : Nat := (ltab p 0 * 27 + lhow p 0) * 128 + lshape p 0
def visK (m : Nat) (V : List Pl) : List Pl → List Pl → (Nat → List Pl → List Pl → List Pl) → List Pl
  | [], q, k => k m V q
  | y :: ys, q, k => cond (Nat.beq (m >>> codeP y % 2) 0) (visK (m ||| 1 <<< codeP y) (y :: V) ys (y :: q) k) (visK m V ys q k)
def goK : Nat → Nat → List Pl → List Pl → List Pl
  | 0, _, V, _ => V
  | _ + 1, _, V, [] => V
  | f + 1, m, V, x :: q => visK m V x.changed q (goK f)
theorem bit_iff (m c : Nat) : m >>> c % 2 = 1 ↔ m.testBit c = true := by
  rw [Nat.shiftRight_eq_div_pow, Nat.testBit_eq_decide_div_mod_eq, decide_eq_true_eq]
theorem bit_set (m c : Nat) : (m ||| 1 <<< c) >>> c % 2 = 1 := by
  rw [bit_iff, Nat.testBit_or, Nat.testBit_shiftLeft]
  simp
theorem bit_keep {m c d : Nat} (h : m >>> d % 2 = 1) : (m ||| 1 <<< c) >>> d % 2 = 1 := by
  rw [bit_iff] at h ⊢
  rw [Nat.testBit_or, h]
  rfl
structure InvK (C : Pl → Prop) (m : Nat) (V : List Pl) : Prop where
  ok : ∀ v ∈ V, C v
  nd : V.Nodup
  bit : ∀ v ∈ V, m >>> codeP v % 2 = 1
theorem visK_ok {C : Pl → Prop} {R : List Pl → Prop} {k : Nat → List Pl → List Pl → List Pl} (hk : ∀ m V q, InvK C m V → (∀ x ∈ q, C x) → R (k m V q)) : ∀ (ys : List Pl) (m : Nat) (V q : List Pl), InvK C m V → (∀ y ∈ ys, C y) → (∀ x ∈ q, C x) → R (visK m V ys q k)
  | [], m, V, q, I, _, hq => hk m V q I hq
  | y :: ys, m, V, q, I, hy, hq => by
    have hys := fun z hz => hy z (List.mem_cons_of_mem _ hz)
    have cy := hy y (List.mem_cons_self ..)
    rw [visK]
    cases hb : Nat.beq (m >>> codeP y % 2) 0 with
    | false => exact visK_ok hk ys m V q I hys hq
    | true =>
      have hb' := Nat.eq_of_beq_eq_true hb
      refine visK_ok hk ys _ _ _ ⟨fun v hv => ?_, List.nodup_cons.mpr ⟨fun hv => ?_, I.nd⟩, fun v hv => ?_⟩ hys fun x hx => ?_
      · rcases List.mem_cons.mp hv with rfl | hv
        · exact cy
        · exact I.ok v hv
      · have := I.bit y hv
        omega
      · rcases List.mem_cons.mp hv with rfl | hv
        · exact bit_set _ _
        · exact bit_keep (I.bit v hv)
      · rcases List.mem_cons.mp hx with rfl | hx
        · exact cy
        · exact hq x hx
theorem goK_ok {C : Pl → Prop} (clo : ∀ x, C x → ∀ y ∈ x.changed, C y) : ∀ (f m : Nat) (V q : List Pl), InvK C m V → (∀ x ∈ q, C x) → (∀ v ∈ goK f m V q, C v) ∧ (goK f m V q).Nodup
  | 0, m, V, q, I, _ => ⟨I.ok, I.nd⟩
  | f + 1, m, V, [], I, _ => ⟨I.ok, I.nd⟩
  | f + 1, m, V, x :: q, I, hq => by
    rw [goK]
    exact visK_ok (R := fun l => (∀ v ∈ l, C v) ∧ l.Nodup) (fun m V q I hq => goK_ok clo f m V q I hq) x.changed m V q I (fun y hy => clo x (hq x (List.mem_cons_self ..)) y hy) fun z hz => hq z (List.mem_cons_of_mem _ hz)
abbrev startK (f : Nat) (p : Pl) : List Pl := goK f (1 <<< codeP p) [p] [p]
theorem startK_ok {C : Pl → Prop} {p : Pl} (hp : C p) (clo : ∀ x, C x → ∀ y ∈ x.changed, C y) (f : Nat) : (∀ v ∈ startK f p, C v) ∧ (startK f p).Nodup :=
  goK_ok clo f _ _ _ ⟨fun v hv => by rw [List.mem_singleton.mp hv]; exact hp, List.pairwise_singleton _ _, fun v hv => by
    rw [List.mem_singleton.mp hv]
    have := bit_set 0 (codeP p)
    rwa [Nat.zero_or] at this⟩ fun x hx => by rw [List.mem_singleton.mp hx]; exact hp
abbrev pl2 : Pl := .node .nested (.tab 1) (.tab 0)
abbrev pl3 : Pl := .node .nested (.node .nested (.tab 0) (.tab 2)) (.tab 1)
abbrev pl4 : Pl := .node .nested (.node .nested (.node .nested (.tab 0) (.tab 1)) (.tab 2)) (.tab 3)
theorem k2 : (startK 100 pl2).length = 6 := by decide +kernel
theorem k3 : (startK 1000 pl3).length = 90 := by decide +kernel
theorem k4 : (startK 10000 pl4).length = 2232 := by decide +kernel
/-- how many come of a plan of the kind "any" -/
theorem reached_n {q : Qy} {p : Pl} {F : List Row3} {n N f : Nat} (hq : Qok q) (hn : q.sizes.length = n) (hp : OkK q .any p) (hF : BfsIs q .any p F) (hN : (allPl n).length = N) (hK : (startK f p).length = N) : F.length = N := by
  obtain ⟨fn, clo⟩ := hF.fnd hp
  have up : F.length ≤ N := by
    have h := len_le fn.nd fun x hx => allPl_mem (fn.ok x hx).1 hq.many.2
    rw [hn, hN] at h
    unfold keys3 at h
    rw [List.length_map] at h
    exact h
  obtain ⟨a, b⟩ := startK_ok (C := fun x => x ∈ keys3 F) fn.top (fun x hx y hy => clo x hx y (mem_stepsP.mpr ⟨hy, fun z => nomatch z⟩)) f
  have h := len_le b a
  rw [hK] at h
  unfold keys3 at h
  rw [List.length_map] at h
  omega
end Pc
/-! the law -/
namespace Pc
open PySem PySem.Spec PyProof.Rows L2
open LamX (TabS ExtN CodeO TabB)
open Evl (Ex EvT)
open StX (tStar pa_star)
section
variable {P : Program} {w : World} {K : PySem.W.Frag} {mg : Str → Option Value} {base : Heap}


abbrev q1 : Qy := ⟨[[5]], [], (1, 1, 0)⟩
abbrev q2 : Qy := ⟨[[5], [6]], [], (1, 1, 0)⟩
abbrev q3 : Qy := ⟨[[5], [6], [7]], [(0, 1, [50]), (1, 2, [50])], (1, 1, 0)⟩
abbrev q4 : Qy := ⟨[[5], [6], [7], [8]], [], (1, 1, 0)⟩
theorem row1 {m n : Nat} (h : 1 ≤ n ∧ n ≤ m) : RowOk m [n] := ⟨⟨Nat.le_refl _, by simp⟩, fun x hx => by rw [List.mem_singleton.mp hx]; exact h, rfl⟩
theorem qok_of {ns : List Nat} {ls : List (Nat × Nat × List Nat)} (h1 : 1 ≤ ns.length ∧ ns.length ≤ 4) (h2 : ∀ n ∈ ns, 1 ≤ n ∧ n ≤ 1000000000) (h3 : ls.length ≤ 6) (h4 : ∀ l ∈ ls, l.1 < l.2.1 ∧ l.2.1 < ns.length ∧ RowOk 100 l.2.2) (h5 : risingL ls = true) (h6 : (((ns.map fun n => [n]) ++ ls.map (·.2.2)).filter fun r => decide (1 < r.length)).length ≤ 6) : Qok ⟨ns.map fun n => [n], ls, (1, 1, 0)⟩ := by
  refine ⟨by simpa using h1, fun r hr => ?_, h3, fun l hl => ?_, h5, ⟨⟨Nat.le_refl 1, show 1 ≤ 100 by omega⟩, ⟨Nat.le_refl 1, show 1 ≤ 100 by omega⟩, Nat.zero_le _⟩, h6⟩
  · obtain ⟨n, hn, rfl⟩ := List.mem_map.mp hr
    exact row1 (h2 n hn)
  · have := h4 l hl
    rw [List.length_map]
    exact this
theorem ok_q1 : Qok q1 := qok_of (ns := [5]) (ls := []) (by decide) (by decide) (by decide) (fun _ h => nomatch h) rfl (by decide)
theorem ok_q2 : Qok q2 := qok_of (ns := [5, 6]) (ls := []) (by decide) (by decide) (by decide) (fun _ h => nomatch h) rfl (by decide)
theorem ok_q3 : Qok q3 := qok_of (ns := [5, 6, 7]) (ls := [(0, 1, [50]), (1, 2, [50])]) (by decide) (by decide) (by decide) (fun l h => by
  rcases List.mem_cons.mp h with rfl | h
  · exact ⟨by decide, by decide, row1 (by decide)⟩
  · rw [List.mem_singleton.mp h]; exact ⟨by decide, by decide, row1 (by decide)⟩) (by decide) (by decide)
theorem ok_q4 : Qok q4 := qok_of (ns := [5, 6, 7, 8]) (ls := []) (by decide) (by decide) (by decide) (fun _ h => nomatch h) rfl (by decide)
theorem okk_any {y : Qy} {p : Pl} (h : p.leaves.Perm (List.range y.sizes.length)) (g : p.good = true) : OkK y .any p := ⟨⟨h, g⟩, fun z => nomatch z⟩
theorem ok_1 (k : Kd) : OkK q1 k (.tab 0) := ⟨⟨by decide, rfl⟩, fun _ => rfl⟩
theorem ok_2 : OkK q2 .any pl2 := okk_any (by decide) rfl
theorem ok_3 : OkK q3 .any pl3 := okk_any (by decide) rfl
theorem ok_4 : OkK q4 .any pl4 := okk_any (by decide) rfl
abbrev plP : Pl := .node .probed (.tab 1) (.tab 0)
theorem ok_P : OkK q2 .any plP := okk_any (by decide) rfl
theorem st_1 (k : Kd) : stepsP q1 k (.tab 0) = [] := List.eq_nil_iff_forall_not_mem.mpr fun x hx => by
  have := (mem_stepsP.mp hx).1
  simp [Pl.changed] at this
theorem bfs_1 (k : Kd) : BfsIs q1 k (.tab 0) [(.tab 0, none, 0)] := ⟨1, by simp [bfs, sweep, inner, st_1], by simp [bfs, sweep, inner, st_1]⟩
theorem st_P : stepsP q2 .any plP = [.node .hashed (.tab 1) (.tab 0), .node .nested (.tab 1) (.tab 0), .node .probed (.tab 0) (.tab 1)] := by
  refine sorted_eq (sortP_pw _) (by decide +kernel) ((List.mergeSort_perm _ _).trans ?_)
  have e : ddup plP.changed = [.node .hashed (.tab 1) (.tab 0), .node .nested (.tab 1) (.tab 0), .node .probed (.tab 0) (.tab 1)] := by decide +kernel
  rw [e]
theorem n_2 {F : List Row3} (h : BfsIs q2 .any pl2 F) : F.length = 6 := reached_n ok_q2 rfl ok_2 h all_len.2.1 k2
theorem n_3 {F : List Row3} (h : BfsIs q3 .any pl3 F) : F.length = 90 := reached_n ok_q3 rfl ok_3 h all_len.2.2.1 k3
theorem n_4 {F : List Row3} (h : BfsIs q4 .any pl4 F) : F.length = 2232 := reached_n ok_q4 rfl ok_4 h all_len.2.2.2 k4
theorem steps_few {y : Qy} {k : Kd} {p : Pl} (hq : Qok y) (hp : OkK y k p) : Shows 2000 (.tuple ((stepsP y k p).map eP)) := by
  have n4 := hp.1.nn9 hq
  have hl := stepsP_len y k p
  have hs : ∀ d ∈ (stepsP y k p).map eP, Shows 100 d := fun d hd => by
    obtain ⟨x, hx, rfl⟩ := List.mem_map.mp hd
    have okx := stepsP_ok _ hp _ hx
    have nx := okx.1.nn9 hq
    refine (shows_eP x fun t ht => ?_).mono (by omega)
    have := List.mem_range.mp (okx.1.perm.mem_iff.mp ht)
    have := hq.many
    omega
  refine (ShowsAll.all hs).tup.mono ?_
  rw [List.length_map]
  omega
theorem steps_deep {y : Qy} {k : Kd} {p : Pl} (hq : Qok y) (hp : OkK y k p) : (PyData.list [.tuple ((stepsP y k p).map eP), .tuple ((stepsP y k p).map eP)]).depth ≤ 50 := by
  have h : PyData.depthAll ((stepsP y k p).map eP) ≤ 9 := eL_depth fun x hx => by
    have := (stepsP_ok _ hp _ hx).1.nn9 hq
    omega
  show max (PyData.depthAll ((stepsP y k p).map eP) + 1) (max (PyData.depthAll ((stepsP y k p).map eP) + 1) 0) + 1 ≤ 50
  omega
theorem sql_N {H H' : Hp} {a : Addr} {xs : List V} (e : ExtN H H') (h : SqL K H a xs) : SqL K H' a xs := by
  rcases h with (h | ⟨o, h⟩) | h
  · exact .inl (.inl (e _ _ h fun ps z => nomatch z))
  · exact .inl (.inr ⟨o, e _ _ h fun ps z => nomatch z⟩)
  · exact .inr h
section
variable {σ : L2.St} {H : Hp} {tz : TS} {D : Ends} {a : Addr} {xs : List V} {i j : Nat}
theorem evd_lenS (hσ : σ[i]? = some (some (.ref a))) (h : SqL K H a xs) : EvD (tCB (rLenA K) (tCons (tVar i) tNil)) σ H (.int (xs.length : Int)) := fun H1 e Q q => ⟨_, hσ, a, xs, rfl, .inl (sql_mono e h), q _ H1 (Ex.refl _) (.int _)⟩
theorem q_unp2 {te : TE} {d1 d2 : PyData} (h : EvD te σ H (.tuple [d1, d2])) (k : ∀ x y H1, Ex H H1 → Dt H1 x d1 → Dt H1 y d2 → tz D ((σ.set i (some x)).set j (some y)) H1) : tSeq (tAsg te (gTup K 2 (gCons (gName i) (gCons (gName j) gNil)))) tz D σ H := h H (Ex.refl _) _ fun v H1 e dv => g_tup2 dv fun x y dx dy => k x y H1 e dx dy
end
def sp_law (K : PySem.W.Frag) (Pt : Addr) : Sp := fun vs H Q _ => ∃ (a : Addr) (ns : List Int), vs = [.ref a] ∧ SqL K H a (ns.map V.int) ∧ ns.length ≤ 63 ∧ TabS H Pt lamQ ∧ ∀ H', Q (.bl true) H'


theorem cl_law {Pt : Addr} (G : Gs K mg) (D : Df K mg "law" s_law) (c__law_begun : Cl P w K mg base 2 "_law_begun" (sp__law_begun K)) (c__law_asked : Cl P w K mg base 4 "_law_asked" sp__law_asked) (c__law_linked_scheme : Cl P w K mg base 21 "_law_linked_scheme" sp__law_linked_scheme) (c__law_steps : Cl P w K mg base 21 "_law_steps" (sp__law_steps Pt)) (c__law_like : ClG P w K mg base 1 "_law_like" sp__law_like)
    (c_steps : Cl P w K mg base 24 "steps" (spR R_steps)) (c_reached : Cl P w K mg base 25 "reached" (spR R_reached)) (c_shortest_way : Cl P w K mg base 25 "shortest_way" (spR R_shortest_way)) (c__law_far_right : ClG P w K mg base 26 "_law_far_right" (sp__law_far_right w Pt)) : ClG P w K mg base 27 "law" (sp_law K Pt) := by
  refine clG_of (k := 26) D sc_law (fun _ _ _ _ _ _ us hl => match us, hl with | [_], _ => rfl) (fun vs H Q E ⟨a, ns, h, _⟩ => by rw [h]; rfl) fun f cdv A outer s H vs Q E hr hg hsp => ?_
  obtain ⟨a, ns, rfl, hS, few63, tS, q⟩ := hsp
  refine ⟨_, (pss_cons (ps_set (i := 1) sc_law.nd rfl (by first | exact Or.inl rfl | exact Or.inr rfl) (pe_u c__law_begun hr (by omega) (by rfl) (pa_cons (pv 0) pa_nil)))
      (pss_cons (ps_for PassesOwn.never rfl (pi_range1 (by rfl) G.f_range (pa_cons pe_int pa_nil)) (pg_name (i := 2) sc_law.nd rfl (by first | exact Or.inl rfl | exact Or.inr rfl)) (pss_cons (ps_set (i := 3) sc_law.nd rfl (by first | exact Or.inl rfl | exact Or.inr rfl) (pe_u c__law_asked hr (by omega) (by rfl) (pa_cons (pv 1) (pa_cons pe_int (pa_cons pe_int (pa_cons pe_int (pa_cons pe_int pa_nil)))))))
      (pss_cons (ps_asg (pe_u c__law_linked_scheme hr (by omega) (by rfl) (pa_cons (pv 1) (pa_cons (pv 3) pa_nil))) (pg_tup rfl (pgs_cons (pg_name (i := 4) sc_law.nd rfl (by first | exact Or.inl rfl | exact Or.inr rfl)) (pgs_cons (pg_name (i := 5) sc_law.nd rfl (by first | exact Or.inl rfl | exact Or.inr rfl)) pgs_nil))))
      (pss_cons (ps_set (i := 6) sc_law.nd rfl (by first | exact Or.inl rfl | exact Or.inr rfl) (pe_callTy (r := rTupA K) call_tuple_of (by rfl) G.f_tuple bt_tuple (pa_cons (pe_u c__law_steps hr (by omega) (by rfl) (pa_cons (pv 3) (pa_cons (pv 5) (pa_cons (pv 4) pa_nil)))) pa_nil)))
      (pss_cons (ps_if (pt_not (pt_val (pe_uG c__law_like hr (show _ = some [] from hg) (by omega) (by rfl) (pa_cons (pe_lst (pa_cons (pe_u c_steps hr (by omega) (by rfl) (pa_cons (pv 3) (pa_cons (pv 4) (pa_cons (pv 5) pa_nil)))) (pa_cons (pe_u c_steps hr (by omega) (by rfl) (pa_cons (pv 3) (pa_cons (pv 4) (pa_cons (pv 5) pa_nil)))) pa_nil))) (pa_cons (pe_lst (pa_cons (pv 6) (pa_cons (pv 6) pa_nil))) pa_nil))))) (pss_one (ps_ret pe_bl)) pss_nil)
      (pss_one (ps_if (PW.pt (pw_and (pt_cmpR op_lt (pv 2) pe_int (nomark _)) (pw_and (pt_cmpR op_lt (pe_callB (r := rLenA K) call_len_seq (by rfl) G.f_len bt_len (pa_cons (pe_ix (r := rIx K) ix_seq (pv 3) pe_int (fun _ _ => rfl)) pa_nil)) pe_int (nomark _)) (pw_and1 (pt_not (pt_val (pe_uG c__law_far_right hr (show _ = some [] from hg) (by omega) (by rfl) (pa_cons (pv 1) (pa_cons (pv 3) (pa_cons (pv 4) (pa_cons (pv 5) pa_nil))))))))))) (pss_one (ps_ret pe_bl)) pss_nil)))))))
      (pss_cons (ps_asg (pe_tup (pa_cons (pe_tup (pa_cons (pe_tup (pa_cons (pe_tup (pa_cons pe_int pa_nil)) pa_nil)) (pa_cons (pe_tup pa_nil) (pa_cons (pe_tup (pa_cons pe_int (pa_cons pe_int (pa_cons pe_int pa_nil)))) pa_nil)))) (pa_cons (pe_tup (pa_cons (pe_tup (pa_cons (pe_tup (pa_cons pe_int pa_nil)) (pa_cons (pe_tup (pa_cons pe_int pa_nil)) pa_nil))) (pa_cons (pe_tup pa_nil) (pa_cons (pe_tup (pa_cons pe_int (pa_cons pe_int (pa_cons pe_int pa_nil)))) pa_nil)))) pa_nil))) (pg_tup rfl (pgs_cons (pg_name (i := 7) sc_law.nd rfl (by first | exact Or.inl rfl | exact Or.inr rfl)) (pgs_cons (pg_name (i := 8) sc_law.nd rfl (by first | exact Or.inl rfl | exact Or.inr rfl)) pgs_nil))))
      (pss_cons (ps_set (i := 9) sc_law.nd rfl (by first | exact Or.inl rfl | exact Or.inr rfl) (pe_tup (pa_cons (pe_tup (pa_cons (pe_tup (pa_cons pe_int pa_nil)) (pa_cons (pe_tup (pa_cons pe_int pa_nil)) (pa_cons (pe_tup (pa_cons pe_int pa_nil)) pa_nil)))) (pa_cons (pe_tup (pa_cons (pe_tup (pa_cons pe_int (pa_cons pe_int (pa_cons (pe_tup (pa_cons pe_int pa_nil)) pa_nil)))) (pa_cons (pe_tup (pa_cons pe_int (pa_cons pe_int (pa_cons (pe_tup (pa_cons pe_int pa_nil)) pa_nil)))) pa_nil))) (pa_cons (pe_tup (pa_cons pe_int (pa_cons pe_int (pa_cons pe_int pa_nil)))) pa_nil)))))
      (pss_cons (ps_set (i := 10) sc_law.nd rfl (by first | exact Or.inl rfl | exact Or.inr rfl) (pe_lst (pa_cons (pe_u c_reached hr (by omega) (by rfl) (pa_cons (pv 7) (pa_cons pe_int (pa_cons pe_str pa_nil)))) (pa_cons (pe_u c_steps hr (by omega) (by rfl) (pa_cons (pv 7) (pa_cons pe_int (pa_cons pe_str pa_nil)))) (pa_cons (pe_u c_shortest_way hr (by omega) (by rfl) (pa_cons (pv 7) (pa_cons pe_int (pa_cons pe_int (pa_cons pe_str pa_nil))))) pa_nil)))))
      (pss_cons (ps_expr (pe_bm PySem.F.plainAttrs_list PySem.F.slot_list_append PySem.F.type_list_append mt_append (pv 10) (pa_cons (pe_u c_reached hr (by omega) (by rfl) (pa_cons (pv 8) (pa_cons (pe_tup (pa_cons pe_str (pa_cons pe_int (pa_cons pe_int pa_nil)))) (pa_cons pe_str pa_nil)))) pa_nil)))
      (pss_cons (ps_if (PW.pt (pw_or (pt_cmpR (r := rNeD K) (op_neD hr.units) (pv 10) (pe_lst (pa_cons pe_int (pa_cons (pe_tup pa_nil) (pa_cons (pe_tup (pa_cons pe_int pa_nil)) (pa_cons pe_int pa_nil))))) (nomark _)) (pw_or1 (pt_cmpR (r := rNeD K) (op_neD hr.units) (pe_u c_reached hr (by omega) (by rfl) (pa_cons (pv 9) (pa_cons (pe_tup (pa_cons pe_str (pa_cons (pe_tup (pa_cons pe_str (pa_cons pe_int (pa_cons pe_int pa_nil)))) (pa_cons pe_int pa_nil)))) (pa_cons pe_str pa_nil)))) pe_int (nomark _))))) (pss_one (ps_ret pe_bl)) pss_nil)
      (pss_cons (ps_if (pt_cmpR (r := rNeD K) (op_neD hr.units) (pe_u c_steps hr (by omega) (by rfl) (pa_cons (pv 8) (pa_cons (pe_tup (pa_cons pe_str (pa_cons pe_int (pa_cons pe_int pa_nil)))) (pa_cons pe_str pa_nil)))) (pe_tup (pa_cons (pe_tup (pa_cons pe_str (pa_cons pe_int (pa_cons pe_int pa_nil)))) (pa_cons (pe_tup (pa_cons pe_str (pa_cons pe_int (pa_cons pe_int pa_nil)))) (pa_cons (pe_tup (pa_cons pe_str (pa_cons pe_int (pa_cons pe_int pa_nil)))) pa_nil)))) (nomark _)) (pss_one (ps_ret pe_bl)) pss_nil)
      (pss_cons (ps_set (i := 11) sc_law.nd rfl (by first | exact Or.inl rfl | exact Or.inr rfl) (pe_tup (pa_cons (pe_tup (pa_cons (pe_tup (pa_cons pe_int pa_nil)) (pa_cons (pe_tup (pa_cons pe_int pa_nil)) (pa_cons (pe_tup (pa_cons pe_int pa_nil)) (pa_cons (pe_tup (pa_cons pe_int pa_nil)) pa_nil))))) (pa_cons (pe_tup pa_nil) (pa_cons (pe_tup (pa_cons pe_int (pa_cons pe_int (pa_cons pe_int pa_nil)))) pa_nil)))))
      (pss_one (ps_ret (pe_or (pe_cmpR (r := rNeD K) (op_neD hr.units) (pe_callB (r := rLenA K) call_len_seq (by rfl) G.f_len bt_len (pa_cons (pv 0) pa_nil)) pe_int (nomark _)) (pe_one (pe_cmpR (r := rEqD K) (op_eqD hr.units) (pe_u c_reached hr (by omega) (by rfl) (pa_cons (pv 11) (pa_cons (pe_tup (pa_cons pe_str (pa_cons (pe_tup (pa_cons pe_str (pa_cons (pe_tup (pa_cons pe_str (pa_cons pe_int (pa_cons pe_int pa_nil)))) (pa_cons pe_int pa_nil)))) (pa_cons pe_int pa_nil)))) (pa_cons pe_str pa_nil)))) pe_int (nomark _))))))))))))))), ?_⟩
  refine ⟨_, rfl, a, ns, rfl, hS, few63, fun m c g H1 e1 nm ng st1 => ?_⟩
  refine q_forR1 (z := 4) (ead_cons evd_cint ead_nil) (by omega) (fun i σ' H' => ∃ o2 o3 o4 o5 o6, σ' = [some (.ref a), some (.ref m), o2, o3, o4, o5, o6, none, none, none, none, none] ∧ ExtN H H' ∧ St m c g (500 * i) H' ∧ TabS H' Pt lamQ)
    (fun H2 e2 => ⟨_, _, _, _, _, rfl, .of (e1.trans e2), st1.mono e2 (Nat.le_refl _), tS.ext (e1.trans e2)⟩) (fun i σ' H2 hi ⟨o2, o3, o4, o5, o6, g1, en, st, ts⟩ => ?_) (fun σ' H2 ⟨o2, o3, o4, o5, o6, g1, en, st, ts⟩ => ?_)
  · subst g1
    have hi4 : i < 4 := hi
    have back : ∀ {H3 H4 : Hp}, ExtN H H3 → EmN m g H3 H4 → ExtN H H4 := fun {H3 H4} e em b o hb hn => em b o (fun z => by rw [z, nm] at hb; cases hb) (fun z => by rw [z, ng] at hb; cases hb) (e b o hb hn) hn
    -- the query
    refine ⟨_, rfl, m, c, g, 500 * i, rfl, by omega, st, fun vq H3 y em3 st3 okq dq => ?_⟩
    have ts3 := tabS_em ts st em3
    have en3 := back en (.ofEm em3)
    -- the plan
    refine ⟨_, rfl, _, rfl, m, c, g, _, vq, y, rfl, dq, okq, by omega, st3, fun vt H4 p k em4 st4 okp dt4 => ?_⟩
    have ts4 := tabS_em ts3 st3 em4
    have en4 := back en3 (.ofEm em4)
    have dq4 := dq.monoT (st3.extT em4) (eQ_tupO y)
    refine g_tup2 dt4 fun vp vk dp dk => ?_
    -- due
    refine ⟨_, rfl, _, rfl, _, rfl, y, k, p, okq.few, by have := okp.1.nn9 okq; omega, okp.1.good, .cons dq4 (.cons dk (.one dp)), ts4, fun a2 xs H5 en5 ts5 fr ha da => ⟨a2, xs, rfl, .inl ⟨SqL.of ha, fun l nl => ?_⟩⟩⟩
    have e6 := ex_new (o := .tup xs) nl
    have en6 : ExtN H4 (upd H5 l (.tup xs)) := en5.trans (.of e6)
    have dd6 : Dt (upd H5 l (.tup xs)) (.ref l) (.tuple ((stepsP y k p).map eP)) := .tup upd_same (da.mono e6)
    have ts6 := ts5.ext e6
    have x6 := extN_s en6
    have dq6 := dq4.monoS x6
    have dp6 := dp.monoS x6
    have dk6 := dk.monoS x6
    have st6 := st4.monoN en6 (Nat.le_refl _)
    have enH := en4.trans en6
    generalize upd H5 l (.tup xs) = H6 at dd6 ts6 dq6 dp6 dk6 st6 enH
    have cs : ∀ {σ : L2.St}, σ[3]? = some (some vq) → σ[4]? = some (some vp) → σ[5]? = some (some vk) → EvD (tCall (spR R_steps) [] E0 (tCons (tVar 3) (tCons (tVar 4) (tCons (tVar 5) tNil)))) σ H6 (.tuple ((stepsP y k p).map eP)) := fun z1 z2 z3 => evd_call (ead_cons (evd_var z1 dq6) (ead_cons (evd_var z2 dp6) (ead_cons (evd_var z3 dk6) ead_nil))) ⟨y, k, p, okq, okp, rfl, rfl⟩
    refine q_no (et_is (et_not (et_test (evd_like (ds := [.tuple ((stepsP y k p).map eP), .tuple ((stepsP y k p).map eP)]) (ead_cons (evd_lst (ead_cons (cs rfl rfl rfl) (ead_cons (cs rfl rfl rfl) ead_nil)) (by simp)) (ead_cons (evd_lst (ead_cons (evd_var rfl dd6) (ead_cons (evd_var rfl dd6) ead_nil)) (by simp)) ead_nil)) (((ShowsAll.nil.cons (steps_few okq okp)).cons (steps_few okq okp)).list.mono (by omega)) (steps_deep okq okp)))) rfl) fun H7 e7 => ?_
    have nxt : ∀ (H' : Hp), ExtN H H' → St m c g (500 * (i + 1)) H' → TabS H' Pt lamQ → ∃ o2 o3 o4 o5 o6, [some (V.ref a), some (V.ref m), some (V.int (0 + (i : Int))), some vq, some vp, some vk, some (V.ref l), none, none, none, none, none] = [some (.ref a), some (.ref m), o2, o3, o4, o5, o6, none, none, none, none, none] ∧ ExtN H H' ∧ St m c g (500 * (i + 1)) H' ∧ TabS H' Pt lamQ := fun H' z1 z2 z3 => ⟨_, _, _, _, _, rfl, z1, z2, z3⟩
    refine et_test (evd_lt (evd_var (d := .int (0 + (i : Int))) rfl (.int _)) evd_cint) H7 (Ex.refl _) _ fun H8 e8 => ?_
    cases hc1 : decide ((0 + (i : Int)) < 2) with
    | false => exact nxt H8 (enH.trans (.of (e7.trans e8))) ((st6.mono (e7.trans e8) (Nat.le_refl _)).up (by omega)) (ts6.ext (e7.trans e8))
    | true =>
      have e78 := e7.trans e8
      refine et_test (evd_lt (evd_lenT (evd_ixT (j := 0) (evd_var rfl (dq6.mono e78)) rfl)) evd_cint) H8 (Ex.refl _) _ fun H9 e9 => ?_
      have e79 := e78.trans e9
      have enJ := enH.trans (.of e79)
      have st9 := st6.mono e79 (Nat.le_refl _)
      have ts9 := ts6.ext e79
      split
      · refine ⟨_, rfl, _, rfl, _, rfl, _, rfl, m, c, g, _, vq, vp, vk, y, k, p, rfl, dq6.mono e79, dp6.mono e79, dk6.mono e79, ⟨okq, okp, few_pok okq⟩, by omega, st9, ts9, fun H10 em10 st10 ts10 => ?_⟩
        exact ⟨true, rfl, nxt H10 (back enJ em10) (st10.up (by omega)) ts10⟩
      · exact nxt H9 enJ (st9.up (by omega)) ts9
  · subst g1
    obtain ⟨F2, hF2⟩ := bfsIs_ex ok_2 (few_pok ok_q2)
    obtain ⟨F3, hF3⟩ := bfsIs_ex ok_3 (few_pok ok_q3)
    obtain ⟨F4, hF4⟩ := bfsIs_ex ok_4 (few_pok ok_q4)
    have hS2 := sql_N en hS
    clear st ts en st1
    refine q_unp2 (d1 := eQ q1) (d2 := eQ q2) (evd_tup (ead_cons (evd_tup (ead_cons (evd_tup (ead_cons (evd_tup (ead_cons evd_cint ead_nil) (by decide)) ead_nil) (by decide)) (ead_cons (evd_tup ead_nil (by decide)) (ead_cons (evd_tup (ead_cons evd_cint (ead_cons evd_cint (ead_cons evd_cint ead_nil))) (by decide)) ead_nil))) (by decide)) (ead_cons (evd_tup (ead_cons (evd_tup (ead_cons (evd_tup (ead_cons evd_cint ead_nil) (by decide)) (ead_cons (evd_tup (ead_cons evd_cint ead_nil) (by decide)) ead_nil)) (by decide)) (ead_cons (evd_tup ead_nil (by decide)) (ead_cons (evd_tup (ead_cons evd_cint (ead_cons evd_cint (ead_cons evd_cint ead_nil))) (by decide)) ead_nil))) (by decide)) ead_nil)) (by simp)) fun x1 x2 H3 e3 d1 d2 => ?_
    refine q_asg (d := eQ q3) (evd_tup (ead_cons (evd_tup (ead_cons (evd_tup (ead_cons evd_cint ead_nil) (by decide)) (ead_cons (evd_tup (ead_cons evd_cint ead_nil) (by decide)) (ead_cons (evd_tup (ead_cons evd_cint ead_nil) (by decide)) ead_nil))) (by decide)) (ead_cons (evd_tup (ead_cons (evd_tup (ead_cons evd_cint (ead_cons evd_cint (ead_cons (evd_tup (ead_cons evd_cint ead_nil) (by decide)) ead_nil))) (by decide)) (ead_cons (evd_tup (ead_cons evd_cint (ead_cons evd_cint (ead_cons (evd_tup (ead_cons evd_cint ead_nil) (by decide)) ead_nil))) (by decide)) ead_nil)) (by decide)) (ead_cons (evd_tup (ead_cons evd_cint (ead_cons evd_cint (ead_cons evd_cint ead_nil))) (by decide)) ead_nil))) (by decide)) fun x3 H4 e4 d3 => ?_
    have d1 := d1.mono e4
    have d2 := d2.mono e4
    refine q_asgL (ds := [.int 1, .tuple [], .tuple [.int 0]]) (ead_cons (evd_is (evd_call (R := R_reached) (ead_cons (evd_var rfl d1) (ead_cons (evd_cint (i := ((0 : Nat) : Int))) (ead_cons (evd_cstr (x := Kd.linked.str)) ead_nil))) ⟨q1, .linked, .tab 0, _, ⟨ok_q1, ok_1 _, few_pok ok_q1⟩, bfs_1 _, rfl, rfl⟩) rfl)
      (ead_cons (evd_is (evd_call (R := R_steps) (ead_cons (evd_var rfl d1) (ead_cons (evd_cint (i := ((0 : Nat) : Int))) (ead_cons (evd_cstr (x := Kd.any.str)) ead_nil))) ⟨q1, .any, .tab 0, ok_q1, ok_1 _, rfl, rfl⟩) (by rw [st_1]; rfl))
      (ead_cons (evd_is (evd_call (R := R_shortest_way) (ead_cons (evd_var rfl d1) (ead_cons (evd_cint (i := ((0 : Nat) : Int))) (ead_cons (evd_cint (i := ((0 : Nat) : Int))) (ead_cons (evd_cstr (x := Kd.any.str)) ead_nil)))) ⟨q1, .any, .tab 0, .tab 0, _, ⟨ok_q1, ok_1 _, ok_1 _, few_pok ok_q1⟩, bfs_1 _, rfl, rfl⟩) (by unfold wayOf; rw [if_pos (by decide)]; rfl)) ead_nil))) (by decide) fun b xs H5 e5 nb hb dx => ?_
    have lxs := dx.length
    refine q_app (d := .int 6) rfl hb (evd_is (evd_call (R := R_reached) (ead_cons (evd_var rfl (d2.mono e5)) (ead_cons (d := eP pl2) (evd_tup (ead_cons evd_cstr (ead_cons evd_cint (ead_cons evd_cint ead_nil))) (by decide)) (ead_cons (evd_cstr (x := Kd.any.str)) ead_nil))) ⟨q2, .any, pl2, F2, ⟨ok_q2, ok_2, few_pok ok_q2⟩, hF2, rfl, rfl⟩) (by rw [n_2 hF2]; rfl)) (by rw [lxs]; decide) fun v6 H6 e6 d6 => ?_
    have hb6 := e6 _ _ hb
    have xt : ExT H6 (upd H6 b (.lst (xs ++ [v6]))) := ext_upd hb6
    have dl : Dt (upd H6 b (.lst (xs ++ [v6]))) (.ref b) (.list ([.int 1, .tuple [], .tuple [.int 0]] ++ [.int 6])) := .lst upd_same (((dx.mono e6).append (.one d6)).monoT xt (by decide))
    have e56 := e5.trans e6
    have d2' := (d2.mono e56).monoT xt (eQ_tupO q2)
    have d3' := (d3.mono e56).monoT xt (eQ_tupO q3)
    have nbH : H2 b = none := fresh_of (e3.trans e4) nb
    have exS : Ex H2 (upd H6 b (.lst (xs ++ [v6]))) := Ex.mut ((e3.trans e4).trans e56) nbH
    have hS7 := sql_mono exS hS2
    generalize upd H6 b (.lst (xs ++ [v6])) = H7 at dl d2' d3' hS7
    refine q_no (et_is (et_or (et_test (evd_ne (b := .list [.int 1, .tuple [], .tuple [.int 0], .int 6]) (evd_var rfl dl) (evd_lst (ead_cons evd_cint (ead_cons (evd_tup ead_nil (by decide)) (ead_cons (evd_tup (ead_cons evd_cint ead_nil) (by decide)) (ead_cons evd_cint ead_nil)))) (by decide)) (by decide +kernel) (by decide +kernel))) fun _ => et_test (evd_ne (b := .int 90) (evd_is (evd_call (R := R_reached) (ead_cons (evd_var rfl d3') (ead_cons (d := eP pl3) (evd_tup (ead_cons evd_cstr (ead_cons (evd_tup (ead_cons evd_cstr (ead_cons evd_cint (ead_cons evd_cint ead_nil))) (by decide)) (ead_cons evd_cint ead_nil))) (by decide)) (ead_cons (evd_cstr (x := Kd.any.str)) ead_nil))) ⟨q3, .any, pl3, F3, ⟨ok_q3, ok_3, few_pok ok_q3⟩, hF3, rfl, rfl⟩) (b := .int 90) (by rw [n_3 hF3]; rfl)) evd_cint)) (by decide +kernel)) fun H8 e8 => ?_
    refine q_no (et_is (et_test (evd_ne (b := .tuple ([Pl.node .hashed (.tab 1) (.tab 0), .node .nested (.tab 1) (.tab 0), .node .probed (.tab 0) (.tab 1)].map eP)) (evd_is (evd_call (R := R_steps) (ead_cons (evd_var rfl (d2'.mono e8)) (ead_cons (d := eP plP) (evd_tup (ead_cons evd_cstr (ead_cons evd_cint (ead_cons evd_cint ead_nil))) (by decide)) (ead_cons (evd_cstr (x := Kd.any.str)) ead_nil))) ⟨q2, .any, plP, ok_q2, ok_P, rfl, rfl⟩) (by rw [st_P])) (evd_tup (ead_cons (evd_tup (ead_cons evd_cstr (ead_cons evd_cint (ead_cons evd_cint ead_nil))) (by decide)) (ead_cons (evd_tup (ead_cons evd_cstr (ead_cons evd_cint (ead_cons evd_cint ead_nil))) (by decide)) (ead_cons (evd_tup (ead_cons evd_cstr (ead_cons evd_cint (ead_cons evd_cint ead_nil))) (by decide)) ead_nil))) (by decide)) (by decide +kernel) (by decide +kernel))) (by decide +kernel)) fun H9 e9 => ?_
    refine q_asg (d := eQ q4) (evd_tup (ead_cons (evd_tup (ead_cons (evd_tup (ead_cons evd_cint ead_nil) (by decide)) (ead_cons (evd_tup (ead_cons evd_cint ead_nil) (by decide)) (ead_cons (evd_tup (ead_cons evd_cint ead_nil) (by decide)) (ead_cons (evd_tup (ead_cons evd_cint ead_nil) (by decide)) ead_nil)))) (by decide)) (ead_cons (evd_tup ead_nil (by decide)) (ead_cons (evd_tup (ead_cons evd_cint (ead_cons evd_cint (ead_cons evd_cint ead_nil))) (by decide)) ead_nil))) (by decide)) fun x4 H10 e10 d4 => ?_
    have hS10 := sql_mono ((e8.trans e9).trans e10) hS7
    refine s_ret (d := .bool true) (evd_is (evd_or (evd_ne (evd_lenS rfl hS10) (evd_cint (i := 2))) fun _ => evd_eq (b := .int 2232) (evd_is (evd_call (R := R_reached) (ead_cons (evd_var rfl d4) (ead_cons (d := eP pl4) (evd_tup (ead_cons evd_cstr (ead_cons (evd_tup (ead_cons evd_cstr (ead_cons (evd_tup (ead_cons evd_cstr (ead_cons evd_cint (ead_cons evd_cint ead_nil))) (by decide)) (ead_cons evd_cint ead_nil))) (by decide)) (ead_cons evd_cint ead_nil))) (by decide)) (ead_cons (evd_cstr (x := Kd.any.str)) ead_nil))) ⟨q4, .any, pl4, F4, ⟨ok_q4, ok_4, few_pok ok_q4⟩, hF4, rfl, rfl⟩) (b := .int 2232) (by rw [n_4 hF4]; rfl)) evd_cint) (by rw [show PyData.eqv (.int 2232) (.int 2232) = true from rfl, Bool.or_true])) fun v11 H11 e11 d11 => ?_
    obtain rfl := dt_bl d11
    exact q H11

end
end Pc
/-! the end: the law called where nothing is being shown, one table -/
namespace Pc
open PySem PySem.Spec PyProof.Rows L2
open LamX (TabS ExtN CodeO TabB)

/-- an empty table of code objects -/
abbrev tab0 : Obj := { cls := .none, data := .fields #[] }
abbrev lst0 (vs : List Value) : Obj := { cls := .type "list", data := .seq vs.toArray }
/-- what is tracked when the law is called -/
def H00 (K : PySem.W.Frag) (T a : Addr) (vs : List Value) (ns : List Int) : Hp := fun b =>
  if b = T then some (.tbl #[]) else if b = a ∧ (K.lookup a).isNone = true then some (.frz (lst0 vs) (.lst (ns.map V.int))) else none
section
variable {K : PySem.W.Frag} {T a b : Addr} {vs : List Value} {ns : List Int} {h : Heap} {o : Obj} {u : HO}
theorem H00_T : H00 K T a vs ns T = some (.tbl #[]) := if_pos rfl
theorem H00_cases (e : H00 K T a vs ns b = some u) : (b = T ∧ u = .tbl #[]) ∨ (b = a ∧ K.lookup a = none ∧ u = .frz (lst0 vs) (.lst (ns.map V.int))) := by
  unfold H00 at e
  by_cases h1 : b = T
  · rw [if_pos h1] at e
    exact .inl ⟨h1, (Option.some.inj e).symm⟩
  · rw [if_neg h1] at e
    by_cases h2 : b = a ∧ (K.lookup a).isNone = true
    · rw [if_pos h2] at e
      exact .inr ⟨h2.1, Option.isNone_iff_eq_none.mp h2.2, (Option.some.inj e).symm⟩
    · rw [if_neg h2] at e
      cases e
theorem H00_off (hT : h.get? T = some tab0) (ha : h.get? a = some (lst0 vs)) (e : h.get? b = some o) (n1 : o ≠ tab0) (n2 : o ≠ lst0 vs) : H00 K T a vs ns b = none := by
  cases q : H00 K T a vs ns b with
  | none => rfl
  | some u =>
    rcases H00_cases q with ⟨rfl, _⟩ | ⟨rfl, _⟩
    · exact absurd (Option.some.inj (e.symm.trans hT)) n1
    · exact absurd (Option.some.inj (e.symm.trans ha)) n2
theorem dict_ne {es : Array DictEntry} {ep : Nat} (d : o.data = .dict es ep) : o ≠ tab0 ∧ o ≠ lst0 vs :=
  ⟨fun z => (by rw [z] at d; cases d), fun z => (by rw [z] at d; cases d)⟩
end
theorem law_callG {P : Program} {w : World} {K : PySem.W.Frag} {mg mb : Str → Option Value} {k : Nat} {fa a c T : Addr} {x : Str} {sp : Sp} {t : Shared} {vs : List Value} {ns : List Int}
    (kin : K.In t.heap) (nG : t.heap.Ns mainGlobals mg) (nB : t.heap.Ns builtinsNs mb) (eB : ∀ z : Str, z ≠ "__name__" → mb z = bootBuiltins z) (lim : t.heap.NoLimit) (gens0 : t.gens = #[])
    (hT : t.heap.get? T = some tab0) (nT : K.lookup T = none) (C : PySem.W.CodeHd t.heap c T)
    (main : ∃ (bm : Addr) (ob : Obj), mg "__builtins__" = some (.ref bm) ∧ bm ≠ builtinsNs ∧ t.heap.get? bm = some ob ∧ ob.cls = .type "module" ∧ ob.dict = some builtinsNs ∧ ob.data = .plain)
    (ha : t.heap.get? a = some (lst0 vs)) (hi : IntsAre vs ns) (hl : ns.length ≤ sizeLine) (room : Room k callerA)
    (F : ∀ base : Heap, K.In base → base.Ns mainGlobals mg → TabB base mg c T → ClG P w K mg base k x sp) (named : mg x = some (.ref fa))
    (promise : ∀ H : Hp, H T = some (.tbl #[]) → SqL K H a (ns.map V.int) → sp [.ref a] H (fun v _ => v = .bl true) fun _ _ _ => False) :
    codeAny (model P w) callerA (.call (.ref fa) ⟨[.ref a], []⟩) (fun r s' => r = .ok (.ret (.bool true)) ∧ OldK t.heap s'.heap ∧ s'.os = t.os ∧ AllBare s'.gens) t := by
  have rv := vals_ints hi
  have many := hi.length
  have aT : a ≠ T := fun z => by
    rw [z, hT] at ha
    cases ha
  generalize hH : H00 K T a vs ns = H
  have off : ∀ {b o}, t.heap.get? b = some o → o ≠ tab0 → o ≠ lst0 vs → (hidT t.heap H).get? b = some o := fun {b o} e n1 n2 => hidT_get e (by rw [← hH]; exact H00_off hT ha e n1 n2)
  have ns_ : ∀ {b : Addr} {m : Str → Option Value}, t.heap.Ns b m → (hidT t.heap H).Ns b m := fun {b m} ⟨o, es, ep, e, d, r⟩ => ⟨o, es, ep, off e (dict_ne (vs := vs) d).1 (dict_ne d).2, d, r⟩
  have kin' : K.In (hidT t.heap H) := fun b o e => hidT_get (kin b o e) (by
    cases q : H b with
    | none => rfl
    | some u =>
      rw [← hH] at q
      rcases H00_cases q with ⟨rfl, _⟩ | ⟨rfl, z, _⟩
      · rw [nT] at e; cases e
      · rw [z] at e; cases e)
  have MM : L2.Mod K mg (hidT t.heap H) := ⟨kin', ns_ nG, ⟨mb, ns_ nB, eB⟩, let ⟨q, q1, q2⟩ := lim; ⟨q, ns_ q1, q2⟩⟩
  have tb : TabB (hidT t.heap H) mg c T := by
    refine ⟨?_, ?_, ?_⟩
    · obtain ⟨o, us, f1, f2, f3, f4, f5, f6, f7, g1, g2, g3, g4, g5, g6, g7, g8, g9, g10⟩ := C
      refine ⟨o, us, f1, f2, f3, f4, f5, f6, f7, off g1 (fun z => ?_) (fun z => ?_), g2, g3, g4, g5, g6, g7, g8, g9, g10⟩
      · rw [z] at g3
        cases g3
        simp at g4
      · rw [z] at g3
        cases g3
    · obtain ⟨bm, ob, b1, b2, b3, b4, b5, b6⟩ := main
      refine ⟨bm, ob, b1, b2, fun z => ?_, fun z => ?_, off b3 (fun z => ?_) (fun z => ?_), b4, b5, b6⟩
      · obtain ⟨o, es, ep, e, d, _⟩ := nG
        rw [z, e] at b3
        cases b3
        rw [d] at b6
        cases b6
      · rw [z, hT] at b3
        cases b3
        cases b6
      · rw [z] at b6; cases b6
      · rw [z] at b6; cases b6
    · rintro z
      obtain ⟨o, es, ep, e, d, _⟩ := nG
      rw [z, hT] at e
      cases e
      cases d
  have HT : H T = some (.tbl #[]) := by rw [← hH]; exact H00_T
  have sq : SqL K H a (ns.map V.int) := by
    cases q : K.lookup a with
    | none =>
      refine .inl (.inr ⟨lst0 vs, ?_⟩)
      rw [← hH]
      unfold H00
      rw [if_neg aT, if_pos ⟨rfl, by rw [q]; rfl⟩]
    | some o =>
      have e := kin a o q
      rw [ha] at e
      cases e
      exact .inr ⟨_, vs.toArray, _, q, rfl, rfl, rfl, by rw [List.size_toArray, many]; exact hl, by simpa using rv⟩
  have ok : HOk P w H t.heap := fun b u e => by
    rw [← hH] at e
    rcases H00_cases e with ⟨rfl, rfl⟩ | ⟨rfl, _, rfl⟩
    · exact hT
    · exact ⟨ha, by rw [List.length_map]; exact hl, vs, _, rv, ha⟩
  have e0 : Env0 P w K mg (hidT t.heap H) callerA [] t H := ⟨rfl, MM, fun b o e => of_hidT e, Nat.le_of_eq (hidT_size _ _), trivial, fun b z => absurd (show b ∈ ([] : List Addr) from z) (by simp), ok, .of_eq gens0⟩
  obtain ⟨f, fd, ps, FG, m, kp, bd⟩ := (F _ kin' (ns_ nG) tb).ex
  obtain rfl : f = fa := by
    rw [named] at m
    cases m
    rfl
  have wide := FG.len _ _ _ _ (promise H HT sq)
  refine codeAny_mono (FG.run callerA [] t H [.ref a] [.ref a] _ _ room rfl e0 (by simpa using bd t [.ref a] kin (by simpa using wide)) (.cons rfl .nil) (promise H HT sq)) fun r s' fin => ?_
  cases r with
  | error e => exact (show False from fin).elim
  | ok fl =>
    cases fl with
    | next => exact False.elim fin
    | brk => exact False.elim fin
    | cont => exact False.elim fin
    | ret u =>
      obtain ⟨v, H', os, bare, un, ok', ru, qv⟩ := fin
      obtain rfl : v = V.bl true := qv
      obtain rfl : u = Value.bool true := ru
      have stay : ∀ b o, b ≠ T → t.heap.get? b = some o → s'.heap.get? b = some o := fun b o nb e => by
        cases q : H b with
        | none => exact un.keep b o e q (fun z => absurd (show b ∈ ([] : List Addr) from z) (by simp)) (by simp)
        | some u =>
          have q' := q
          rw [← hH] at q'
          rcases H00_cases q' with ⟨z, _⟩ | ⟨rfl, _, rfl⟩
          · exact absurd z nb
          · have w1 := un.frzs _ _ _ q
            obtain ⟨w2, _⟩ := ok' _ _ w1
            obtain ⟨w3, _⟩ := ok _ _ q
            rw [e] at w3
            cases w3
            exact w2
      obtain ⟨more, hm⟩ := un.tbls T #[] HT
      have grown : s'.heap.get? T = some { cls := .none, data := .fields more } := by
        have w4 := ok' T _ hm
        rw [Array.empty_append] at w4
        exact w4
      refine ⟨rfl, ⟨fun b o e => ?_, fun b o e => ?_⟩, os, bare⟩
      · by_cases nb : b = T
        · rw [nb] at e ⊢
          rw [hT] at e
          cases e
          exact .inr (.inl ⟨(C.tab hT).isCodeTable, rfl, #[], more, rfl, by rw [Array.empty_append]; exact grown⟩)
        · exact .inl (stay b o nb e)
      · by_cases nb : b = T
        · rw [nb]
          exact ⟨_, grown⟩
        · exact ⟨o, stay b o nb e⟩
/-- the end, for such a law -/
theorem walk_G {l : PySem.W.OpenLaw} {n k : Nat} {q : Program} {loose : List Str} {XP : (Str → Option Value) → Heap → Prop} {YP : World → Heap → Prop} {d : DefRec} {x : Str} (hn : l.most = some n) (hn2 : n ≤ sizeLine) (hdf : d.params.defaults = []) (room : Room k callerA)
    (F : ∀ (w : World) (mg : Str → Option Value) (fa : Addr) (h : Heap), YP w h → h.Ns mainGlobals mg → mg d.name = some (.ref fa) → ∃ (K : PySem.W.Frag) (c T : Addr) (sp : Sp), K.In h ∧ h.get? T = some tab0 ∧ K.lookup T = none ∧ PySem.W.CodeHd h c T ∧ mg x = some (.ref fa) ∧
      (∀ (H : Hp) (a : Addr) (ns : List Int), ns.length ≤ n → H T = some (.tbl #[]) → SqL K H a (ns.map V.int) → sp [.ref a] H (fun v _ => v = .bl true) fun _ _ _ => False) ∧ ∀ base : Heap, K.In base → base.Ns mainGlobals mg → TabB base mg c T → ClG l.prog w K mg base k x sp) :
    PySem.W.WalkO q loose XP YP l.row.toRowW d [] (fun f vs => PySem.call f vs) := by
  refine Att.attach_callB hn hdf fun w s0 s1 mg mb fa o pm cd doc a vs ns G Y ho hd hcd hmg hobj hints hlen hbits hg => ?_
  obtain ⟨K, c, T, sp, kin, hT, nT, C, hx, hsp, hF⟩ := F w mg fa _ Y G.T.g hmg
  exact law_callG kin G.T.g G.T.b G.T.builtins G.T.nolimit hg hT nT C G.T.bmain hobj hints (Nat.le_trans hlen hn2) room hF hx fun H h1 h2 => hsp H a ns hlen h1 h2
end Pc
/-! the head's facts; the law -/
namespace Pc
open PySem PySem.Spec PyProof.Rows L2
open LamX (TabS ExtN CodeO TabB)
section
variable {P : Program} {w : World} {K : PySem.W.Frag} {h : Heap} {mg : Str → Option Value} {base : Heap}
theorem df_of (X : K.In h) (G : h.Ns mainGlobals mg) (c : He.SaysX faAll fnAll [] tfAll exAll w h K) {x : Str} {st : Stmt} (i j : Nat) (hi : fnAll[i]? = some ⟨(x, none), x, x, defArgs st, defBody st, defScope st, [], []⟩) (hj : faAll[j]? = some (.glo x)) : Df K mg x st := by
  obtain ⟨fd, F⟩ := c.t.d.def_ i hi
  exact ⟨_, fd, F, He.glo_ok X G (c.t.d.fact j hj)⟩
theorem dfC_of (X : K.In h) (G : h.Ns mainGlobals mg) (c : He.SaysX faAll fnAll [] tfAll exAll w h K) {x : Str} {st : Stmt} (i j : Nat) (hi : fnAll[i]? = some ⟨(x, none), x, x, defArgs st, defBody st, defScope st, [], []⟩) (hj : faAll[j]? = some (.glo x)) : DfC K mg x st (He.cT K (x, none)).1 := by
  obtain ⟨fd, F⟩ := c.t.d.def_ i hi
  refine ⟨_, fd, F, He.glo_ok X G (c.t.d.fact j hj), ?_⟩
  obtain ⟨oc, od, dV, kV, doc, pm, an, cdv, ct, osl, rfl, lk, hcd, _, _⟩ := F.ex
  cases cdv with
  | ref q =>
    have e : He.codeOf K (x, none) = q := He.codeOf_eq lk rfl
    show Value.ref q = .ref (He.codeOf K (x, none))
    rw [e]
  | _ => cases hcd
theorem gs_of (X : K.In h) (G : h.Ns mainGlobals mg) (c : He.SaysX faAll fnAll [] tfAll exAll w h K) : Gs K mg where
  f_isinstance := He.free_ok X G (c.t.d.fact 51 (f := .free "isinstance") rfl)
  f_int := He.free_ok X G (c.t.d.fact 52 (f := .free "int") rfl)
  f_bool := He.free_ok X G (c.t.d.fact 53 (f := .free "bool") rfl)
  f_tuple := He.free_ok X G (c.t.d.fact 54 (f := .free "tuple") rfl)
  f_str := He.free_ok X G (c.t.d.fact 55 (f := .free "str") rfl)
  f_list := He.free_ok X G (c.t.d.fact 56 (f := .free "list") rfl)
  f_len := He.free_ok X G (c.t.d.fact 57 (f := .free "len") rfl)
  f_all := He.free_ok X G (c.t.d.fact 58 (f := .free "all") rfl)
  f_zip := He.free_ok X G (c.t.d.fact 59 (f := .free "zip") rfl)
  f_range := He.free_ok X G (c.t.d.fact 60 (f := .free "range") rfl)
  f_enumerate := He.free_ok X G (c.t.d.fact 61 (f := .free "enumerate") rfl)
  f_sorted := He.free_ok X G (c.t.d.fact 62 (f := .free "sorted") rfl)
  f_set := He.free_ok X G (c.t.d.fact 63 (f := .free "set") rfl)
  f_repr := He.free_ok X G (c.t.d.fact 64 (f := .free "repr") rfl)
  c_MOST_TABLES := let ⟨t, e⟩ := He.int_ok X G (c.t.d.fact 65 (f := .int "MOST_TABLES" 5) rfl); ⟨_, e, t, rfl⟩
  c_MOST_LINKS := let ⟨t, e⟩ := He.int_ok X G (c.t.d.fact 66 (f := .int "MOST_LINKS" 6) rfl); ⟨_, e, t, rfl⟩
  c_MOST_VALUES := let ⟨t, e⟩ := He.int_ok X G (c.t.d.fact 67 (f := .int "MOST_VALUES" 3) rfl); ⟨_, e, t, rfl⟩
  c_MOST_ROWS := let ⟨t, e⟩ := He.int_ok X G (c.t.d.fact 68 (f := .int "MOST_ROWS" 1000000000) rfl); ⟨_, e, t, rfl⟩
  c_MOST_FITS := let ⟨t, e⟩ := He.int_ok X G (c.t.d.fact 69 (f := .int "MOST_FITS" 100) rfl); ⟨_, e, t, rfl⟩
  c_MOST_PRICE := let ⟨t, e⟩ := He.int_ok X G (c.t.d.fact 70 (f := .int "MOST_PRICE" 100) rfl); ⟨_, e, t, rfl⟩
  c_MOST_UNKNOWN := let ⟨t, e⟩ := He.int_ok X G (c.t.d.fact 71 (f := .int "MOST_UNKNOWN" 6) rfl); ⟨_, e, t, rfl⟩
  c_KIND_ANY := let ⟨t, e⟩ := He.str_ok X G (c.t.d.fact 72 (f := .str "KIND_ANY" "any") rfl); ⟨_, e, t, rfl⟩
  c_KIND_LINKED := let ⟨t, e⟩ := He.str_ok X G (c.t.d.fact 73 (f := .str "KIND_LINKED" "linked") rfl); ⟨_, e, t, rfl⟩
  c_NESTED := let ⟨t, e⟩ := He.str_ok X G (c.t.d.fact 74 (f := .str "NESTED" "nested") rfl); ⟨_, e, t, rfl⟩
  c_HASHED := let ⟨t, e⟩ := He.str_ok X G (c.t.d.fact 75 (f := .str "HASHED" "hashed") rfl); ⟨_, e, t, rfl⟩
  c_PROBED := let ⟨t, e⟩ := He.str_ok X G (c.t.d.fact 76 (f := .str "PROBED" "probed") rfl); ⟨_, e, t, rfl⟩
  c_MOST_REACHED := let ⟨t, e⟩ := He.int_ok X G (c.t.d.fact 77 (f := .int "MOST_REACHED" 20000) rfl); ⟨_, e, t, rfl⟩
  ways := ⟨_, He.glo_ok X G (c.t.d.fact 50 (f := .glo "WAYS") rfl), fun H => He.tupB_ok c.more H⟩
theorem law_ok (X : K.In h) (G : h.Ns mainGlobals mg) (c : He.SaysX faAll fnAll [] tfAll exAll w h K) (TB : TabB base mg (He.cT K ("_law_steps", none)).1 (He.cT K ("_law_steps", none)).2) : ClG P w K mg base 27 "law" (sp_law K (He.cT K ("_law_steps", none)).2) := by
  have g := gs_of X G c
  have c_is_whole := cl_is_whole (P := P) (w := w) (base := base) g (df_of X G c 0 0 rfl rfl) 
  have c_are_rising := cl_are_rising (P := P) (w := w) (base := base) g (df_of X G c 1 1 rfl rfl) 
  have c_are_values := cl_are_values (P := P) (w := w) (base := base) g (df_of X G c 2 2 rfl rfl) (c_is_whole.mono (by omega)) (c_are_rising.mono (by omega))
  have c_is_link := cl_is_link (P := P) (w := w) (base := base) g (df_of X G c 3 3 rfl rfl) (c_is_whole.mono (by omega)) (c_are_values.mono (by omega))
  have c_need_links := cl_need_links (P := P) (w := w) (base := base) g (df_of X G c 4 4 rfl rfl) (c_is_link.mono (by omega))
  have c_need_prices := cl_need_prices (P := P) (w := w) (base := base) g (df_of X G c 5 5 rfl rfl) (c_is_whole.mono (by omega))
  have c_values_of := cl_values_of (P := P) (w := w) (base := base) g (df_of X G c 6 6 rfl rfl) 
  have c_unknown_in := cl_unknown_in (P := P) (w := w) (base := base) g (df_of X G c 7 7 rfl rfl) (c_values_of.mono (by omega))
  have c_need_query := cl_need_query (P := P) (w := w) (base := base) g (df_of X G c 8 8 rfl rfl) (c_are_values.mono (by omega)) (c_need_links.mono (by omega)) (c_need_prices.mono (by omega)) (c_unknown_in.mono (by omega))
  have c_need_kind := cl_need_kind (P := P) (w := w) (base := base) g (df_of X G c 9 9 rfl rfl) 
  have c_are_joined := cl_are_joined (P := P) (w := w) (base := base) g (df_of X G c 10 10 rfl rfl) 
  have c_is_table := cl_is_table (P := P) (w := w) (base := base) g (df_of X G c 11 11 rfl rfl) 
  have c_tables_of := cl_tables_of (P := P) (w := w) (base := base) g (df_of X G c 12 12 rfl rfl) (c_is_table.mono (by omega)) 9 (by omega)
  have c_nodes_of := cl_nodes_of (P := P) (w := w) (base := base) g (df_of X G c 15 15 rfl rfl) (c_is_table.mono (by omega)) 9 (by omega)
  have c_crossed_nodes := cl_crossed_nodes (P := P) (w := w) (base := base) g (df_of X G c 16 16 rfl rfl) (c_nodes_of.mono (by omega)) (c_tables_of.mono (by omega)) (c_are_joined.mono (by omega))
  have c_is_part := cl_is_part (P := P) (w := w) (base := base) g (df_of X G c 13 13 rfl rfl) (c_is_whole.mono (by omega))
  have c_need_plan := cl_need_plan (P := P) (w := w) (base := base) g (df_of X G c 14 14 rfl rfl) (c_need_query.mono (by omega)) (c_is_part.mono (by omega))
  have c_ways_at := cl_ways_at (P := P) (w := w) (base := base) g (df_of X G c 17 17 rfl rfl) (c_is_table.mono (by omega))
  have c_turned_at := cl_turned_at (P := P) (w := w) (base := base) g (df_of X G c 18 18 rfl rfl) (c_is_table.mono (by omega))
  have c_is_good := cl_is_good (P := P) (w := w) (base := base) g (df_of X G c 20 20 rfl rfl) (c_is_table.mono (by omega)) 9 (by omega)
  have c_order_of := cl_order_of (P := P) (w := w) (base := base) g (df_of X G c 23 23 rfl rfl) (c_is_table.mono (by omega)) 9 (by omega)
  have c_leaned_at := cl_leaned_at (P := P) (w := w) (base := base) g (df_of X G c 19 19 rfl rfl) (c_is_table.mono (by omega)) (c_is_good.mono (by omega))
  have c_changed_at := cl_changed_at (P := P) (w := w) (base := base) g (df_of X G c 21 21 rfl rfl) (c_ways_at.mono (by omega)) (c_turned_at.mono (by omega)) (c_leaned_at.mono (by omega))
  have c_changed_in := cl_changed_in (P := P) (w := w) (base := base) g (df_of X G c 22 22 rfl rfl) (c_is_table.mono (by omega)) (c_changed_at.mono (by omega)) 9 (by omega)
  have c_steps_of := cl_steps_of (P := P) (w := w) (base := base) g (df_of X G c 24 24 rfl rfl) (c_changed_in.mono (by omega)) (c_order_of.mono (by omega)) (c_crossed_nodes.mono (by omega))
  have c_need_asked := cl_need_asked (P := P) (w := w) (base := base) g (df_of X G c 25 25 rfl rfl) (c_need_plan.mono (by omega)) (c_need_kind.mono (by omega)) (c_crossed_nodes.mono (by omega))
  have c_steps := cl_steps (P := P) (w := w) (base := base) g (df_of X G c 26 26 rfl rfl) (c_need_asked.mono (by omega)) (c_steps_of.mono (by omega))
  have c_reached_from := cl_reached_from (P := P) (w := w) (base := base) g (df_of X G c 27 27 rfl rfl) (c_steps_of.mono (by omega))
  have c_reached := cl_reached (P := P) (w := w) (base := base) g (df_of X G c 28 28 rfl rfl) (c_need_asked.mono (by omega)) (c_reached_from.mono (by omega))
  have c_shortest_way := cl_shortest_way (P := P) (w := w) (base := base) g (df_of X G c 29 29 rfl rfl) (c_need_plan.mono (by omega)) (c_need_asked.mono (by omega)) (c_reached_from.mono (by omega))
  have c__law_parts := cl__law_parts (P := P) (w := w) (base := base) g (df_of X G c 38 38 rfl rfl)  9 (by omega)
  have c__law_spelling := cl__law_spelling (P := P) (w := w) (base := base) g (df_of X G c 41 41 rfl rfl)  9 (by omega)
  have c__law_is_probed_right := cl__law_is_probed_right (P := P) (w := w) (base := base) g (df_of X G c 42 42 rfl rfl)  9 (by omega)
  have c__law_met := cl__law_met (P := P) (w := w) (base := base) g (df_of X G c 39 39 rfl rfl) 
  have c__law_no_cross := cl__law_no_cross (P := P) (w := w) (base := base) g (df_of X G c 40 40 rfl rfl) (c__law_parts.mono (by omega)) (c__law_met.mono (by omega)) 9 (by omega)
  have c__law_mixed := cl__law_mixed (P := P) (w := w) (base := base) g (df_of X G c 30 30 rfl rfl) 
  have c__law_draw := cl__law_draw (P := P) (w := w) (base := base) g (df_of X G c 32 32 rfl rfl) (c__law_mixed.mono (by omega))
  have c__law_folded := cl__law_folded (P := P) (w := w) (base := base) g (df_of X G c 31 31 rfl rfl) 
  have c__law_begun := cl__law_begun (P := P) (w := w) (base := base) g (df_of X G c 33 33 rfl rfl) (c__law_folded.mono (by omega))
  have c__law_changed := cl__law_changed (P := P) (w := w) (base := base) g (df_of X G c 43 43 rfl rfl)  9 (by omega)
  have c__law_values := cl__law_values (P := P) (w := w) (base := base) g (df_of X G c 35 35 rfl rfl) (c__law_draw.mono (by omega))
  have c__law_asked := cl__law_asked (P := P) (w := w) (base := base) g (df_of X G c 36 36 rfl rfl) (c__law_draw.mono (by omega)) (c__law_values.mono (by omega))
  have c__law_scheme := cl__law_scheme (P := P) (w := w) (base := base) g (df_of X G c 37 37 rfl rfl) (c__law_draw.mono (by omega)) 4 (by omega)
  have c__law_linked_scheme := cl__law_linked_scheme (P := P) (w := w) (base := base) g (df_of X G c 45 45 rfl rfl) (c__law_draw.mono (by omega)) (c__law_scheme.mono (by omega)) (c__law_no_cross.mono (by omega))
  have c__law_like := cl__law_like (P := P) (w := w) (base := base) g (df_of X G c 34 34 rfl rfl) 
  have c__law_steps := cl__law_steps (P := P) (w := w) (base := base) TB g (dfC_of X G c 44 44 rfl rfl) (c__law_spelling.mono (by omega)) (c__law_changed.mono (by omega)) (c__law_is_probed_right.mono (by omega)) (c__law_no_cross.mono (by omega))
  have c__law_all_from := cl__law_all_from (P := P) (w := w) (base := base) g (df_of X G c 46 46 rfl rfl) (c__law_steps.mono (by omega))
  have c__law_row_right := cl__law_row_right (P := P) (w := w) (base := base) g (df_of X G c 47 47 rfl rfl) (c__law_steps.mono (by omega))
  have c__law_far_right := cl__law_far_right (P := P) (w := w) (base := base) g (df_of X G c 48 48 rfl rfl) (c__law_all_from.mono (by omega)) c__law_like (c_reached.mono (by omega)) (c__law_scheme.mono (by omega)) (c__law_no_cross.mono (by omega)) (c_shortest_way.mono (by omega)) (c__law_row_right.mono (by omega))
  have c_law := cl_law (P := P) (w := w) (base := base) g (df_of X G c 49 49 rfl rfl) (c__law_begun.mono (by omega)) (c__law_asked.mono (by omega)) (c__law_linked_scheme.mono (by omega)) (c__law_steps.mono (by omega)) c__law_like (c_steps.mono (by omega)) (c_reached.mono (by omega)) (c_shortest_way.mono (by omega)) c__law_far_right
  exact c_law
end
end Pc
open PySem PySem.W PySem.Calls PyProof.Rows
theorem PySem.Challenge.cw_plancorners_k09_whole_steps_holds : PySem.Challenge.rw_plancorners_k09_whole_steps.Holds := by
  w_on; o_law
  refine HandSHeadRun.head_any (r := Pc.R) (q := view Pc.R.prog [74]) (H := Pc.hk) (ob := Pc.ob) (M := 8000) (loose := Pc.looseAll) (d := HandSHeadRun.topDef Pc.R.prog 74) (kwd := []) Pc.ob_eq
    (by kernel_rfl) (fun s => by kernel_rfl) Pc.run (by kernel_rfl) (by kernel_rfl) (by kernel_rfl) (by rfl) (by first | assumption | decide +kernel) (by decide +kernel) ⟨rfl, rfl, rfl, rfl, rfl, by decide +kernel⟩ ?hw ?hc
  case hw => w_witness2
  case hc =>
    refine Pc.walk_G (l := PySem.Challenge.rw_plancorners_k09_whole_steps) (n := 63) (k := 27) (x := "law") rfl (by decide) (by kernel_rfl) ⟨rfl, by decide, by decide⟩ ?F
    intro w mg fa h Y G named
    obtain ⟨K, X, c⟩ := Y
    have e : (HandSHeadRun.topDef Pc.R.prog 74).name = ("law" : PySem.Str) := by kernel_rfl
    rw [e] at named
    refine ⟨K, (He.cT K ("_law_steps", none)).1, (He.cT K ("_law_steps", none)).2, Pc.sp_law K (He.cT K ("_law_steps", none)).2, X, c.empty _ (List.mem_singleton.mpr rfl), c.out _ (List.mem_singleton.mpr rfl), codeHd_of_K X (c.hd _ (List.mem_singleton.mpr rfl)), named, fun H a ns hl hT hS => ⟨a, ns, rfl, hS, hl, LamX.TabS.nil hT, fun _ => rfl⟩, fun base _ _ TB => Pc.law_ok X G c TB⟩

import PyProof.Rows.All
import Wide.All
import OpenK.AllK
import Wide.FinOn
import HandS.ForMost
import HandS.Defaults
import HandS.Head0
import HandS.Head1
import HandS.Head2
import HandS.HeadEnd
import HandS.HeadHook1
import HandS.HeadHook2
import HandS.HeadNt
import HandS.ClsMeth
import PySem.Challenge.RW_allknow_k35_whole_least_and_cheapest
import HandS.Walk
import HandS.TupAny
import HandS.TupLe
import HandS.Deep
import HandS.Style
import HandS.SortKw
import HandS.IsInst
import HandS.WideBits
import HandS.StrMore
import KE.SortData
import KE.GoesEnum
import HandS.Iter
import HandS.Evl
import KE.KEqDeep
import HandS.Conv
set_option Elab.async false
set_option linter.all false
set_option maxRecDepth 100000
set_option maxHeartbeats 0
namespace AK
open PySem PySem.Spec PyProof.Rows L2
/-! ### the text by places -/
def topS (i : Nat) : Stmt := PySem.Challenge.pw_allknow_k35_whole_least_and_cheapest.main.body.getD i (.Pass ⟨0, 0, 0, 0⟩)
abbrev s_is_ascending : Stmt := topS 13
abbrev s_is_message : Stmt := topS 14
abbrev s_is_link : Stmt := topS 15
abbrev s_check_nodes : Stmt := topS 16
abbrev s_check_links : Stmt := topS 17
abbrev s_Network_init : Stmt := inClass (topS 18) 0
abbrev s_Network_made : Stmt := inClass (topS 18) 1
abbrev s_Network_node_letters : Stmt := inClass (topS 18) 2
abbrev s_node_number : Stmt := topS 19
abbrev s_set_mask : Stmt := topS 20
abbrev s_check_link : Stmt := topS 21
abbrev s_check_transmission : Stmt := topS 22
abbrev s_mask_of : Stmt := topS 26
abbrev s_Span_init : Stmt := inClass (topS 27) 0
abbrev s_Span_rank : Stmt := inClass (topS 27) 1
abbrev s_Span_left : Stmt := inClass (topS 27) 2
abbrev s_Span_has : Stmt := inClass (topS 27) 3
abbrev s_Span_add : Stmt := inClass (topS 27) 4
abbrev s_Span_copied : Stmt := inClass (topS 27) 5
abbrev s_State_init : Stmt := inClass (topS 29) 0
abbrev s_State_message : Stmt := inClass (topS 29) 1
abbrev s_State_messages : Stmt := inClass (topS 29) 2
abbrev s_State_sets : Stmt := inClass (topS 29) 3
abbrev s_State_span : Stmt := inClass (topS 29) 5
abbrev s_State_rank : Stmt := inClass (topS 29) 6
abbrev s_State_demand : Stmt := inClass (topS 29) 7
abbrev s_State_entering : Stmt := inClass (topS 29) 8
abbrev s_State_slack : Stmt := inClass (topS 29) 9
abbrev s_State_deficient : Stmt := inClass (topS 29) 10
abbrev s_State_tight : Stmt := inClass (topS 29) 11
abbrev s_State_why_not : Stmt := inClass (topS 29) 12
abbrev s_State_after : Stmt := inClass (topS 29) 13
abbrev s_State_without : Stmt := inClass (topS 29) 14
abbrev s_State_is_done : Stmt := inClass (topS 29) 15
abbrev s_State_largest_without : Stmt := inClass (topS 29) 16
abbrev s_State_carried : Stmt := inClass (topS 29) 17
abbrev s_State_following : Stmt := inClass (topS 29) 18
abbrev s_Needs_init : Stmt := inClass (topS 33) 0
abbrev s_Needs_is_enough : Stmt := inClass (topS 33) 1
abbrev s_Needs_of_node : Stmt := inClass (topS 33) 2
abbrev s_is_feasible : Stmt := topS 34
abbrev s_reduced : Stmt := topS 35
abbrev s_with_link : Stmt := topS 36
abbrev s_helping_links : Stmt := topS 37
abbrev s_chosen : Stmt := topS 38
abbrev s_least_sets : Stmt := topS 39
abbrev s_check_costs : Stmt := topS 40
abbrev s_cheapest : Stmt := topS 41
abbrev s_checked_weights : Stmt := topS 42
abbrev s_bound : Stmt := topS 43
abbrev s_schedule_from : Stmt := topS 45
abbrev s_first_schedule : Stmt := topS 46
abbrev s_checked : Stmt := topS 47
abbrev s_last_state : Stmt := topS 48
abbrev s_is_complete : Stmt := topS 49
abbrev s_law_pool : Stmt := topS 51
abbrev s_law_take : Stmt := topS 52
abbrev s_law_is_integer : Stmt := topS 53
abbrev s_law_same : Stmt := topS 54
abbrev s_law_pick : Stmt := topS 55
abbrev s_law_parity : Stmt := topS 56
abbrev s_law_message : Stmt := topS 57
abbrev s_law_sum : Stmt := topS 58
abbrev s_law_derived : Stmt := topS 59
abbrev s_law_rank : Stmt := topS 60
abbrev s_law_some_messages : Stmt := topS 61
abbrev s_law_drawn : Stmt := topS 62
abbrev s_law_filled : Stmt := topS 63
abbrev s_law_network : Stmt := topS 64
abbrev s_law_sets : Stmt := topS 65
abbrev s_law_messages_of : Stmt := topS 66
abbrev s_law_demand : Stmt := topS 67
abbrev s_law_entering : Stmt := topS 68
abbrev s_law_deficient : Stmt := topS 69
abbrev s_law_only : Stmt := topS 70
abbrev s_law_is_least : Stmt := topS 71
abbrev s_law : Stmt := topS 72
def d_is_ascending : He5.DefA := ⟨fun K => He.ga K "is_ascending", "is_ascending", "is_ascending", defArgs s_is_ascending, defBody s_is_ascending, defScope s_is_ascending, [], []⟩
def d_is_message : He5.DefA := ⟨fun K => He.ga K "is_message", "is_message", "is_message", defArgs s_is_message, defBody s_is_message, defScope s_is_message, [], []⟩
def d_is_link : He5.DefA := ⟨fun K => He.ga K "is_link", "is_link", "is_link", defArgs s_is_link, defBody s_is_link, defScope s_is_link, [], []⟩
def d_check_nodes : He5.DefA := ⟨fun K => He.ga K "check_nodes", "check_nodes", "check_nodes", defArgs s_check_nodes, defBody s_check_nodes, defScope s_check_nodes, [], []⟩
def d_check_links : He5.DefA := ⟨fun K => He.ga K "check_links", "check_links", "check_links", defArgs s_check_links, defBody s_check_links, defScope s_check_links, [], []⟩
def d_Network_init : He5.DefA := ⟨fun K => He.ma K (He.ga K "Network") "__init__", "__init__", "Network.__init__", defArgs s_Network_init, defBody s_Network_init, defScope s_Network_init, [], []⟩
def d_Network_made : He5.DefA := ⟨fun K => He5.wf K (He.ga K "Network") "classmethod" "made", "made", "Network.made", defArgs s_Network_made, defBody s_Network_made, defScope s_Network_made, [], []⟩
def d_Network_node_letters : He5.DefA := ⟨fun K => He.ma K (He.ga K "Network") "node_letters", "node_letters", "Network.node_letters", defArgs s_Network_node_letters, defBody s_Network_node_letters, defScope s_Network_node_letters, [], []⟩
def d_node_number : He5.DefA := ⟨fun K => He.ga K "node_number", "node_number", "node_number", defArgs s_node_number, defBody s_node_number, defScope s_node_number, [], []⟩
def d_set_mask : He5.DefA := ⟨fun K => He.ga K "set_mask", "set_mask", "set_mask", defArgs s_set_mask, defBody s_set_mask, defScope s_set_mask, [], []⟩
def d_check_link : He5.DefA := ⟨fun K => He.ga K "check_link", "check_link", "check_link", defArgs s_check_link, defBody s_check_link, defScope s_check_link, [], []⟩
def d_check_transmission : He5.DefA := ⟨fun K => He.ga K "check_transmission", "check_transmission", "check_transmission", defArgs s_check_transmission, defBody s_check_transmission, defScope s_check_transmission, [], []⟩
def d_mask_of : He5.DefA := ⟨fun K => He.ga K "mask_of", "mask_of", "mask_of", defArgs s_mask_of, defBody s_mask_of, defScope s_mask_of, [], []⟩
def d_Span_init : He5.DefA := ⟨fun K => He.ma K (He.ga K "Span") "__init__", "__init__", "Span.__init__", defArgs s_Span_init, defBody s_Span_init, defScope s_Span_init, [.adr (He.dflAt ("Span", some "__init__") 0)], []⟩
def d_Span_rank : He5.DefA := ⟨fun K => He.ma K (He.ga K "Span") "rank", "rank", "Span.rank", defArgs s_Span_rank, defBody s_Span_rank, defScope s_Span_rank, [], []⟩
def d_Span_left : He5.DefA := ⟨fun K => He.ma K (He.ga K "Span") "left", "left", "Span.left", defArgs s_Span_left, defBody s_Span_left, defScope s_Span_left, [], []⟩
def d_Span_has : He5.DefA := ⟨fun K => He.ma K (He.ga K "Span") "has", "has", "Span.has", defArgs s_Span_has, defBody s_Span_has, defScope s_Span_has, [], []⟩
def d_Span_add : He5.DefA := ⟨fun K => He.ma K (He.ga K "Span") "add", "add", "Span.add", defArgs s_Span_add, defBody s_Span_add, defScope s_Span_add, [], []⟩
def d_Span_copied : He5.DefA := ⟨fun K => He.ma K (He.ga K "Span") "copied", "copied", "Span.copied", defArgs s_Span_copied, defBody s_Span_copied, defScope s_Span_copied, [], []⟩
def d_State_init : He5.DefA := ⟨fun K => He.ma K (He.ga K "State") "__init__", "__init__", "State.__init__", defArgs s_State_init, defBody s_State_init, defScope s_State_init, [], []⟩
def d_State_message : He5.DefA := ⟨fun K => He.ma K (He.ga K "State") "message", "message", "State.message", defArgs s_State_message, defBody s_State_message, defScope s_State_message, [], []⟩
def d_State_messages : He5.DefA := ⟨fun K => He.ma K (He.ga K "State") "messages", "messages", "State.messages", defArgs s_State_messages, defBody s_State_messages, defScope s_State_messages, [], []⟩
def d_State_sets : He5.DefA := ⟨fun K => He.ma K (He.ga K "State") "sets", "sets", "State.sets", defArgs s_State_sets, defBody s_State_sets, defScope s_State_sets, [], []⟩
def d_State_span : He5.DefA := ⟨fun K => He.ma K (He.ga K "State") "span", "span", "State.span", defArgs s_State_span, defBody s_State_span, defScope s_State_span, [], []⟩
def d_State_rank : He5.DefA := ⟨fun K => He.ma K (He.ga K "State") "rank", "rank", "State.rank", defArgs s_State_rank, defBody s_State_rank, defScope s_State_rank, [], []⟩
def d_State_demand : He5.DefA := ⟨fun K => He.ma K (He.ga K "State") "demand", "demand", "State.demand", defArgs s_State_demand, defBody s_State_demand, defScope s_State_demand, [], []⟩
def d_State_entering : He5.DefA := ⟨fun K => He.ma K (He.ga K "State") "entering", "entering", "State.entering", defArgs s_State_entering, defBody s_State_entering, defScope s_State_entering, [], []⟩
def d_State_slack : He5.DefA := ⟨fun K => He.ma K (He.ga K "State") "slack", "slack", "State.slack", defArgs s_State_slack, defBody s_State_slack, defScope s_State_slack, [], []⟩
def d_State_deficient : He5.DefA := ⟨fun K => He.ma K (He.ga K "State") "deficient", "deficient", "State.deficient", defArgs s_State_deficient, defBody s_State_deficient, defScope s_State_deficient, [], []⟩
def d_State_tight : He5.DefA := ⟨fun K => He.ma K (He.ga K "State") "tight", "tight", "State.tight", defArgs s_State_tight, defBody s_State_tight, defScope s_State_tight, [], []⟩
def d_State_why_not : He5.DefA := ⟨fun K => He.ma K (He.ga K "State") "why_not", "why_not", "State.why_not", defArgs s_State_why_not, defBody s_State_why_not, defScope s_State_why_not, [], []⟩
def d_State_after : He5.DefA := ⟨fun K => He.ma K (He.ga K "State") "after", "after", "State.after", defArgs s_State_after, defBody s_State_after, defScope s_State_after, [], []⟩
def d_State_without : He5.DefA := ⟨fun K => He.ma K (He.ga K "State") "without", "without", "State.without", defArgs s_State_without, defBody s_State_without, defScope s_State_without, [], []⟩
def d_State_is_done : He5.DefA := ⟨fun K => He.ma K (He.ga K "State") "is_done", "is_done", "State.is_done", defArgs s_State_is_done, defBody s_State_is_done, defScope s_State_is_done, [], []⟩
def d_State_largest_without : He5.DefA := ⟨fun K => He.ma K (He.ga K "State") "largest_without", "largest_without", "State.largest_without", defArgs s_State_largest_without, defBody s_State_largest_without, defScope s_State_largest_without, [], []⟩
def d_State_carried : He5.DefA := ⟨fun K => He.ma K (He.ga K "State") "carried", "carried", "State.carried", defArgs s_State_carried, defBody s_State_carried, defScope s_State_carried, [], []⟩
def d_State_following : He5.DefA := ⟨fun K => He.ma K (He.ga K "State") "following", "following", "State.following", defArgs s_State_following, defBody s_State_following, defScope s_State_following, [], []⟩
def d_Needs_init : He5.DefA := ⟨fun K => He.ma K (He.ga K "Needs") "__init__", "__init__", "Needs.__init__", defArgs s_Needs_init, defBody s_Needs_init, defScope s_Needs_init, [], []⟩
def d_Needs_is_enough : He5.DefA := ⟨fun K => He.ma K (He.ga K "Needs") "is_enough", "is_enough", "Needs.is_enough", defArgs s_Needs_is_enough, defBody s_Needs_is_enough, defScope s_Needs_is_enough, [], []⟩
def d_Needs_of_node : He5.DefA := ⟨fun K => He.ma K (He.ga K "Needs") "of_node", "of_node", "Needs.of_node", defArgs s_Needs_of_node, defBody s_Needs_of_node, defScope s_Needs_of_node, [], []⟩
def d_is_feasible : He5.DefA := ⟨fun K => He.ga K "is_feasible", "is_feasible", "is_feasible", defArgs s_is_feasible, defBody s_is_feasible, defScope s_is_feasible, [], []⟩
def d_reduced : He5.DefA := ⟨fun K => He.ga K "reduced", "reduced", "reduced", defArgs s_reduced, defBody s_reduced, defScope s_reduced, [], []⟩
def d_with_link : He5.DefA := ⟨fun K => He.ga K "with_link", "with_link", "with_link", defArgs s_with_link, defBody s_with_link, defScope s_with_link, [], []⟩
def d_helping_links : He5.DefA := ⟨fun K => He.ga K "helping_links", "helping_links", "helping_links", defArgs s_helping_links, defBody s_helping_links, defScope s_helping_links, [], []⟩
def d_chosen : He5.DefA := ⟨fun K => He.ga K "chosen", "chosen", "chosen", defArgs s_chosen, defBody s_chosen, defScope s_chosen, [], []⟩
def d_least_sets : He5.DefA := ⟨fun K => He.ga K "least_sets", "least_sets", "least_sets", defArgs s_least_sets, defBody s_least_sets, defScope s_least_sets, [], []⟩
def d_check_costs : He5.DefA := ⟨fun K => He.ga K "check_costs", "check_costs", "check_costs", defArgs s_check_costs, defBody s_check_costs, defScope s_check_costs, [], []⟩
def d_cheapest : He5.DefA := ⟨fun K => He.ga K "cheapest", "cheapest", "cheapest", defArgs s_cheapest, defBody s_cheapest, defScope s_cheapest, [], []⟩
def d_checked_weights : He5.DefA := ⟨fun K => He.ga K "checked_weights", "checked_weights", "checked_weights", defArgs s_checked_weights, defBody s_checked_weights, defScope s_checked_weights, [], []⟩
def d_bound : He5.DefA := ⟨fun K => He.ga K "bound", "bound", "bound", defArgs s_bound, defBody s_bound, defScope s_bound, [], []⟩
def d_schedule_from : He5.DefA := ⟨fun K => He.ga K "schedule_from", "schedule_from", "schedule_from", defArgs s_schedule_from, defBody s_schedule_from, defScope s_schedule_from, [], []⟩
def d_first_schedule : He5.DefA := ⟨fun K => He.ga K "first_schedule", "first_schedule", "first_schedule", defArgs s_first_schedule, defBody s_first_schedule, defScope s_first_schedule, [], []⟩
def d_checked : He5.DefA := ⟨fun K => He.ga K "checked", "checked", "checked", defArgs s_checked, defBody s_checked, defScope s_checked, [], []⟩
def d_last_state : He5.DefA := ⟨fun K => He.ga K "last_state", "last_state", "last_state", defArgs s_last_state, defBody s_last_state, defScope s_last_state, [], []⟩
def d_is_complete : He5.DefA := ⟨fun K => He.ga K "is_complete", "is_complete", "is_complete", defArgs s_is_complete, defBody s_is_complete, defScope s_is_complete, [], []⟩
def d_law_pool : He5.DefA := ⟨fun K => He.ga K "_law_pool", "_law_pool", "_law_pool", defArgs s_law_pool, defBody s_law_pool, defScope s_law_pool, [], []⟩
def d_law_take : He5.DefA := ⟨fun K => He.ga K "_law_take", "_law_take", "_law_take", defArgs s_law_take, defBody s_law_take, defScope s_law_take, [], []⟩
def d_law_is_integer : He5.DefA := ⟨fun K => He.ga K "_law_is_integer", "_law_is_integer", "_law_is_integer", defArgs s_law_is_integer, defBody s_law_is_integer, defScope s_law_is_integer, [], []⟩
def d_law_same : He5.DefA := ⟨fun K => He.ga K "_law_same", "_law_same", "_law_same", defArgs s_law_same, defBody s_law_same, defScope s_law_same, [], []⟩
def d_law_pick : He5.DefA := ⟨fun K => He.ga K "_law_pick", "_law_pick", "_law_pick", defArgs s_law_pick, defBody s_law_pick, defScope s_law_pick, [], []⟩
def d_law_parity : He5.DefA := ⟨fun K => He.ga K "_law_parity", "_law_parity", "_law_parity", defArgs s_law_parity, defBody s_law_parity, defScope s_law_parity, [], []⟩
def d_law_message : He5.DefA := ⟨fun K => He.ga K "_law_message", "_law_message", "_law_message", defArgs s_law_message, defBody s_law_message, defScope s_law_message, [], []⟩
def d_law_sum : He5.DefA := ⟨fun K => He.ga K "_law_sum", "_law_sum", "_law_sum", defArgs s_law_sum, defBody s_law_sum, defScope s_law_sum, [], []⟩
def d_law_derived : He5.DefA := ⟨fun K => He.ga K "_law_derived", "_law_derived", "_law_derived", defArgs s_law_derived, defBody s_law_derived, defScope s_law_derived, [], []⟩
def d_law_rank : He5.DefA := ⟨fun K => He.ga K "_law_rank", "_law_rank", "_law_rank", defArgs s_law_rank, defBody s_law_rank, defScope s_law_rank, [], []⟩
def d_law_some_messages : He5.DefA := ⟨fun K => He.ga K "_law_some_messages", "_law_some_messages", "_law_some_messages", defArgs s_law_some_messages, defBody s_law_some_messages, defScope s_law_some_messages, [], []⟩
def d_law_drawn : He5.DefA := ⟨fun K => He.ga K "_law_drawn", "_law_drawn", "_law_drawn", defArgs s_law_drawn, defBody s_law_drawn, defScope s_law_drawn, [], []⟩
def d_law_filled : He5.DefA := ⟨fun K => He.ga K "_law_filled", "_law_filled", "_law_filled", defArgs s_law_filled, defBody s_law_filled, defScope s_law_filled, [], []⟩
def d_law_network : He5.DefA := ⟨fun K => He.ga K "_law_network", "_law_network", "_law_network", defArgs s_law_network, defBody s_law_network, defScope s_law_network, [], []⟩
def d_law_sets : He5.DefA := ⟨fun K => He.ga K "_law_sets", "_law_sets", "_law_sets", defArgs s_law_sets, defBody s_law_sets, defScope s_law_sets, [], []⟩
def d_law_messages_of : He5.DefA := ⟨fun K => He.ga K "_law_messages_of", "_law_messages_of", "_law_messages_of", defArgs s_law_messages_of, defBody s_law_messages_of, defScope s_law_messages_of, [], []⟩
def d_law_demand : He5.DefA := ⟨fun K => He.ga K "_law_demand", "_law_demand", "_law_demand", defArgs s_law_demand, defBody s_law_demand, defScope s_law_demand, [], []⟩
def d_law_entering : He5.DefA := ⟨fun K => He.ga K "_law_entering", "_law_entering", "_law_entering", defArgs s_law_entering, defBody s_law_entering, defScope s_law_entering, [], []⟩
def d_law_deficient : He5.DefA := ⟨fun K => He.ga K "_law_deficient", "_law_deficient", "_law_deficient", defArgs s_law_deficient, defBody s_law_deficient, defScope s_law_deficient, [], []⟩
def d_law_only : He5.DefA := ⟨fun K => He.ga K "_law_only", "_law_only", "_law_only", defArgs s_law_only, defBody s_law_only, defScope s_law_only, [], []⟩
def d_law_is_least : He5.DefA := ⟨fun K => He.ga K "_law_is_least", "_law_is_least", "_law_is_least", defArgs s_law_is_least, defBody s_law_is_least, defScope s_law_is_least, [], []⟩
def d_law : He5.DefA := ⟨fun K => He.ga K "law", "law", "law", defArgs s_law, defBody s_law, defScope s_law, [], []⟩
def fnsA : List He5.DefA := [d_is_ascending, d_is_message, d_is_link, d_check_nodes, d_check_links, d_Network_init, d_Network_made, d_Network_node_letters, d_node_number, d_set_mask, d_check_link, d_check_transmission, d_mask_of, d_Span_init, d_Span_rank, d_Span_left, d_Span_has, d_Span_add, d_Span_copied, d_State_init, d_State_message, d_State_messages, d_State_sets, d_State_span, d_State_rank, d_State_demand, d_State_entering, d_State_slack, d_State_deficient, d_State_tight, d_State_why_not, d_State_after, d_State_without, d_State_is_done, d_State_largest_without, d_State_carried, d_State_following, d_Needs_init, d_Needs_is_enough, d_Needs_of_node, d_is_feasible, d_reduced, d_with_link, d_helping_links, d_chosen, d_least_sets, d_check_costs, d_cheapest, d_checked_weights, d_bound, d_schedule_from, d_first_schedule, d_checked, d_last_state, d_is_complete, d_law_pool, d_law_take, d_law_is_integer, d_law_same, d_law_pick, d_law_parity, d_law_message, d_law_sum, d_law_derived, d_law_rank, d_law_some_messages, d_law_drawn, d_law_filled, d_law_network, d_law_sets, d_law_messages_of, d_law_demand, d_law_entering, d_law_deficient, d_law_only, d_law_is_least, d_law]
def factsA : List He.Fa := [.glo "is_ascending",
  .glo "is_message",
  .glo "is_link",
  .glo "check_nodes",
  .glo "check_links",
  .glo "node_number",
  .glo "set_mask",
  .glo "check_link",
  .glo "check_transmission",
  .glo "mask_of",
  .glo "is_feasible",
  .glo "reduced",
  .glo "with_link",
  .glo "helping_links",
  .glo "chosen",
  .glo "least_sets",
  .glo "check_costs",
  .glo "cheapest",
  .glo "checked_weights",
  .glo "bound",
  .glo "schedule_from",
  .glo "first_schedule",
  .glo "checked",
  .glo "last_state",
  .glo "is_complete",
  .glo "_law_pool",
  .glo "_law_take",
  .glo "_law_is_integer",
  .glo "_law_same",
  .glo "_law_pick",
  .glo "_law_parity",
  .glo "_law_message",
  .glo "_law_sum",
  .glo "_law_derived",
  .glo "_law_rank",
  .glo "_law_some_messages",
  .glo "_law_drawn",
  .glo "_law_filled",
  .glo "_law_network",
  .glo "_law_sets",
  .glo "_law_messages_of",
  .glo "_law_demand",
  .glo "_law_entering",
  .glo "_law_deficient",
  .glo "_law_only",
  .glo "_law_is_least",
  .glo "law",
  .glo "Network",
  .glo "Span",
  .glo "State",
  .glo "Needs",
  .free "len",
  .free "range",
  .free "all",
  .free "any",
  .free "zip",
  .free "enumerate",
  .free "sum",
  .free "min",
  .free "max",
  .free "sorted",
  .free "list",
  .free "tuple",
  .free "int",
  .free "isinstance",
  .free "bool",
  .free "str",
  .str "VARIABLE_LETTERS" "abcdef",
  .str "NODE_LETTERS" "ABCDEF",
  .str "LETTERS" "abcdefgh",
  .int "MOST_MESSAGES" 4,
  .int "MOST_LINKS" 16,
  .cls "Network",
  .mkr "Network",
  .noat "Network" "variables",
  .noat "Network" "nodes",
  .noat "Network" "links",
  .cls "Span",
  .mkr "Span",
  .noat "Span" "rows",
  .cls "State",
  .mkr "State",
  .noat "State" "network",
  .noat "State" "links",
  .noat "State" "had",
  .noat "State" "unused",
  .noat "State" "_spans",
  .noat "State" "_tight",
  .cls "Needs",
  .mkr "Needs",
  .noat "Needs" "nodes",
  .noat "Needs" "rows",
  .noat "Needs" "links",
  .meth "Network" "node_letters",
  .meth "Span" "rank",
  .meth "Span" "left",
  .meth "Span" "has",
  .meth "Span" "add",
  .meth "Span" "copied",
  .meth "State" "message",
  .meth "State" "messages",
  .meth "State" "sets",
  .meth "State" "span",
  .meth "State" "rank",
  .meth "State" "demand",
  .meth "State" "entering",
  .meth "State" "slack",
  .meth "State" "deficient",
  .meth "State" "tight",
  .meth "State" "why_not",
  .meth "State" "after",
  .meth "State" "without",
  .meth "State" "is_done",
  .meth "State" "largest_without",
  .meth "State" "carried",
  .meth "State" "following",
  .meth "Needs" "is_enough",
  .meth "Needs" "of_node"]
def exA (K : PySem.W.Frag) : Bool := He5.wrapB K (He.ga K "Network") "classmethod" "classmethod.__get__" "made" && (PySem.W.fnIn K (He5.wf K (He.ga K "Network") "classmethod" "made") && (PySem.W.readsIn K (He.ga K "Network") (.type "type") && (PySem.W.keepIn K (.ref (He.ga K "Network")) && (match K.lookup (He.dflAt ("Span", some "__init__") 0 K) with
  | some ⟨.type c, _, .seq its _, _⟩ => decide (c = "tuple") && its.isEmpty
  | _ => false))))
/-! ### where the head's facts stand: what the names reach, the codes' own parts left out -/
def held0 : List PySem.Addr := [3, 6, 4, 21, 31, 51, 63, 75, 87, 99, 106, 113, 120, 125, 132, 190, 201, 206, 213, 220, 239, 248, 302, 427, 441, 460, 489, 500]
def held1 : List PySem.Addr := [505, 512, 517, 522, 527, 532, 537, 542, 547, 554, 561, 566, 573, 580, 585, 592, 599, 604, 611, 616, 623, 628, 633, 640, 645, 650, 655, 662]
def held2 : List PySem.Addr := [667, 674, 681, 686, 693, 698, 703, 708, 0, 30, 50, 62, 74, 86, 98, 189, 238, 301, 426, 440, 459, 488, 29, 32, 48, 49, 61, 73]
def held3 : List PySem.Addr := [85, 97, 144, 151, 159, 166, 173, 180, 187, 188, 191, 192, 236, 237, 264, 271, 278, 285, 292, 299, 300, 303, 304, 318, 325, 330, 335, 340]
def held4 : List PySem.Addr := [347, 354, 361, 366, 373, 378, 383, 390, 397, 402, 407, 414, 419, 424, 425, 428, 429, 439, 457, 458, 474, 479, 486, 487, 490, 491, 149, 150]
def held5 : List PySem.Addr := [257, 152, 256, 20, 105, 112, 119, 124, 131, 200, 205, 212, 219, 247, 499, 504, 511, 516, 521, 526, 531, 536, 541, 546, 553, 560, 565, 572]
def held6 : List PySem.Addr := [579, 584, 591, 598, 603, 610, 615, 622, 627, 632, 639, 644, 649, 654, 661, 666, 673, 680, 685, 692, 697, 702, 707, 47, 143, 158, 165, 172]
def held7 : List PySem.Addr := [179, 186, 235, 263, 270, 277, 284, 291, 298, 317, 324, 329, 334, 339, 346, 353, 360, 365, 372, 377, 382, 389, 396, 401, 406, 413, 418, 423]
def held8 : List PySem.Addr := [456, 473, 478, 485, 148, 2]
def heldA : List PySem.Addr := held0 ++ held1 ++ held2 ++ held3 ++ held4 ++ held5 ++ held6 ++ held7 ++ held8
/-! ### the head's hook -/
def hookK : PySem.W.Hook where
  α := He.AlD × Bool
  obs := fun s => (He5.obsA factsA fnsA (He.frG s.heap.get? heldA), exA (He.frG s.heap.get? heldA))
  val := fun _ => (He5.valA fnsA, true)
  says := fun _ h => ∃ K : PySem.W.Frag, K.In h ∧ He5.SaysA factsA fnsA K ∧ exA K = true
  of := fun _ _ e => ⟨_, He.frG_in, congrArg (fun z : He.AlD × Bool => z.1) e, congrArg (fun z : He.AlD × Bool => z.2) e⟩
  keeps := fun _ _ _ ⟨K, hK, c⟩ k => ⟨K, PySem.W.Frag.In.keeps hK k, c⟩
def obK (s : PySem.W.SharedT) : He.AlD × Bool := (He5.obsA factsA fnsA (He.frG (HandSHeadRun.getT s) heldA), exA (He.frG (HandSHeadRun.getT s) heldA))
theorem obK_eq (s : PySem.W.SharedT) : obK s = hookK.obs s.abs := by
  have e : HandSHeadRun.getT s = s.abs.heap.get? := funext (HandSHeadRun.getT_eq s)
  unfold obK
  rw [e]
  rfl
abbrev R : PySem.W.OpenRow := PySem.W.OpenLaw.row PySem.Challenge.rw_allknow_k35_whole_least_and_cheapest
def loose0 : List PySem.Str := ["_wall", "__name__", "KnowError", "VARIABLE_LETTERS", "NODE_LETTERS", "MOST_MESSAGES", "MOST_LINKS", "BadNetwork", "NoNode", "NoSet", "NoLink", "NoMessage", "is_ascending", "is_message", "is_link"]
def loose1 : List PySem.Str := ["check_nodes", "check_links", "Network", "node_number", "set_mask", "check_link", "check_transmission", "LETTERS", "BadParity", "mask_of", "Span", "State", "BadCosts", "BadWeights", "Needs"]
def loose2 : List PySem.Str := ["is_feasible", "reduced", "with_link", "helping_links", "chosen", "least_sets", "check_costs", "cheapest", "checked_weights", "bound", "schedule_from", "first_schedule", "checked", "last_state", "is_complete"]
def loose3 : List PySem.Str := ["_law_pool", "_law_take", "_law_is_integer", "_law_same", "_law_pick", "_law_parity", "_law_message", "_law_sum", "_law_derived", "_law_rank", "_law_some_messages", "_law_drawn", "_law_filled", "_law_network", "_law_sets"]
def loose4 : List PySem.Str := ["_law_messages_of", "_law_demand", "_law_entering", "_law_deficient", "_law_only", "_law_is_least"]
abbrev looseA : List PySem.Str := loose0 ++ loose1 ++ loose2 ++ loose3 ++ loose4
end AK
set_option Elab.async false
set_option linter.all false
set_option maxRecDepth 100000
set_option maxHeartbeats 0
namespace AK
open PySem PySem.Spec PyProof.Rows L2
theorem run (w : World) : HandSHeadRun.RunEq R (PySem.W.view R.prog [72]) hookK obK 6000 looseA w := by
  intro os
  kernel_rfl
end AK
set_option Elab.async false
set_option linter.all false
set_option maxRecDepth 100000
set_option maxHeartbeats 4000000
/-! The calculus over data: readings of the hand layer, told by plain data. G: what stands for good; S: the cells that may change; F: what is kept aside. -/
namespace AK
open PySem PySem.Spec PyProof.Rows L2

inductive D where
  | non | bl (b : Bool) | int (i : Int) | str (s : Str) | tup (l : List D) | lst (l : List D) | ob (C : Addr) (ns : List Str) (l : List D) | ref (a : Addr) | ty (n : String) | scr (a : Addr) (p : Hp → Prop)

mutual
inductive Rep (G : Hp) : D → V → Prop
  | non : Rep G .non .non
  | bl {b} : Rep G (.bl b) (.bl b)
  | int {i} : Rep G (.int i) (.int i)
  | str {s} : Rep G (.str s) (.str s)
  | ref {a} : Rep G (.ref a) (.ref a)
  | ty {n} : Rep G (.ty n) (.ty n)
  | scr {a p} (h : ∀ H' : Hp, Same G H' → p H') : Rep G (.scr a p) (.ref a)
  | tup {a l xs} (h : G a = some (.tup xs)) (r : Reps G l xs) : Rep G (.tup l) (.ref a)
  | lst {a l xs} (h : G a = some (.lst xs)) (r : Reps G l xs) : Rep G (.lst l) (.ref a)
  | ob {a C dx fs ns l} (h : G a = some (.ins C dx fs)) (e : fs.map (·.1) = ns) (r : Reps G l (fs.map (·.2))) : Rep G (.ob C ns l) (.ref a)
inductive Reps (G : Hp) : List D → List V → Prop
  | nil : Reps G [] []
  | cons {d v l xs} (h : Rep G d v) (t : Reps G l xs) : Reps G (d :: l) (v :: xs)
end

mutual
theorem Rep.mono {G G' : Hp} (e : Same G G') : ∀ {d v}, Rep G d v → Rep G' d v
  | _, _, .non => .non
  | _, _, .bl => .bl
  | _, _, .int => .int
  | _, _, .str => .str
  | _, _, .ref => .ref
  | _, _, .ty => .ty
  | _, _, .scr h => .scr fun H' e' => h H' (e.trans e')
  | _, _, .tup h r => .tup (e _ _ h) (Reps.mono e r)
  | _, _, .lst h r => .lst (e _ _ h) (Reps.mono e r)
  | _, _, .ob h q r => .ob (e _ _ h) q (Reps.mono e r)
theorem Reps.mono {G G' : Hp} (e : Same G G') : ∀ {l xs}, Reps G l xs → Reps G' l xs
  | _, _, .nil => .nil
  | _, _, .cons h t => .cons (Rep.mono e h) (Reps.mono e t)
end
theorem Reps.length {G : Hp} : ∀ {l xs}, Reps G l xs → l.length = xs.length
  | _, _, .nil => rfl
  | _, _, .cons _ t => congrArg Nat.succ (Reps.length t)
theorem Reps.get {G : Hp} : ∀ {l : List D} {xs : List V} {i : Nat} {d : D}, Reps G l xs → l[i]? = some d → ∃ v, xs[i]? = some v ∧ Rep G d v
  | _, _, _, _, .nil, e => by simp at e
  | _, _, 0, _, .cons h _, e => by
    simp at e
    subst e
    exact ⟨_, rfl, h⟩
  | _, _, i + 1, _, .cons _ t, e => by
    obtain ⟨v, h1, h2⟩ := Reps.get (i := i) t (by simpa using e)
    exact ⟨v, by simpa using h1, h2⟩
theorem Reps.append {G : Hp} : ∀ {l l' : List D} {xs xs' : List V}, Reps G l xs → Reps G l' xs' → Reps G (l ++ l') (xs ++ xs')
  | _, _, _, _, .nil, s => s
  | _, _, _, _, .cons h t, s => .cons h (Reps.append t s)
theorem Reps.set {G : Hp} {d : D} {v : V} (h : Rep G d v) : ∀ {l : List D} {xs : List V} (i : Nat), Reps G l xs → Reps G (l.set i d) (xs.set i v)
  | _, _, _, .nil => .nil
  | _, _, 0, .cons _ t => .cons h t
  | _, _, i + 1, .cons q t => .cons q (Reps.set h i t)
theorem Reps.take {G : Hp} : ∀ {l : List D} {xs : List V} (n : Nat), Reps G l xs → Reps G (l.take n) (xs.take n)
  | _, _, 0, _ => .nil
  | _, _, _ + 1, .nil => .nil
  | _, _, n + 1, .cons h t => .cons h (Reps.take n t)
theorem Reps.drop {G : Hp} : ∀ {l : List D} {xs : List V} (n : Nat), Reps G l xs → Reps G (l.drop n) (xs.drop n)
  | _, _, 0, h => h
  | _, _, _ + 1, .nil => .nil
  | _, _, n + 1, .cons _ t => Reps.drop n t
theorem Reps.one {G : Hp} {d : D} {v : V} (h : Rep G d v) : Reps G [d] [v] := .cons h .nil
theorem Reps.ints {G : Hp} : ∀ {ns : List Int} {xs : List V}, Reps G (ns.map D.int) xs → xs = ns.map V.int
  | [], _, h => by cases h; rfl
  | n :: ns, _, h => by
    cases h with
    | cons h t =>
      cases h
      rw [Reps.ints t]
      rfl
theorem Reps.strs {G : Hp} : ∀ {ns : List Str} {xs : List V}, Reps G (ns.map D.str) xs → xs = ns.map V.str
  | [], _, h => by cases h; rfl
  | n :: ns, _, h => by
    cases h with
    | cons h t =>
      cases h
      rw [Reps.strs t]
      rfl
theorem Reps.bls {G : Hp} : ∀ {ns : List Bool} {xs : List V}, Reps G (ns.map D.bl) xs → xs = ns.map V.bl
  | [], _, h => by cases h; rfl
  | n :: ns, _, h => by
    cases h with
    | cons h t =>
      cases h
      rw [Reps.bls t]
      rfl
theorem Reps.of_ints {G : Hp} : ∀ {ns : List Int}, Reps G (ns.map D.int) (ns.map V.int)
  | [] => .nil
  | _ :: _ => .cons .int Reps.of_ints
theorem Reps.of_strs {G : Hp} : ∀ {ns : List Str}, Reps G (ns.map D.str) (ns.map V.str)
  | [] => .nil
  | _ :: _ => .cons .str Reps.of_strs

/-! ### cells -/
inductive Cell where
  | lst (l : List D) | ins (C : Addr) (ns : List Str) (l : List D) | dk (ks : List Str) (l : List D)
abbrev Sto := Addr → Option Cell
def Sto.put (S : Sto) (a : Addr) (c : Cell) : Sto := fun b => if b = a then some c else S b
def Sto.del (S : Sto) (a : Addr) : Sto := fun b => if b = a then none else S b
def SLe (S S' : Sto) : Prop := ∀ a c, S a = some c → S' a = some c
theorem SLe.refl (S : Sto) : SLe S S := fun _ _ h => h
theorem SLe.trans {S T U : Sto} (a : SLe S T) (b : SLe T U) : SLe S U := fun x c h => b x c (a x c h)
theorem put_same {S : Sto} {a : Addr} {c : Cell} : S.put a c a = some c := if_pos rfl
theorem put_ne {S : Sto} {a b : Addr} {c : Cell} (h : b ≠ a) : S.put a c b = S b := if_neg h
theorem del_same {S : Sto} {a : Addr} : S.del a a = none := if_pos rfl
theorem del_ne {S : Sto} {a b : Addr} (h : b ≠ a) : S.del a b = S b := if_neg h
theorem put_put {S : Sto} {a : Addr} {c e : Cell} : (S.put a c).put a e = S.put a e := by
  funext b
  unfold Sto.put
  split <;> rfl
theorem del_put {S : Sto} {a : Addr} {c : Cell} (h : S a = none) : (S.put a c).del a = S := by
  funext b
  by_cases e : b = a
  · rw [e, del_same, h]
  · rw [del_ne e, put_ne e]
theorem put_comm {S : Sto} {a b : Addr} {c e : Cell} (h : a ≠ b) : (S.put a c).put b e = (S.put b e).put a c := by
  funext x
  unfold Sto.put
  by_cases h1 : x = b
  · rw [if_pos h1]
    by_cases h2 : x = a
    · exact absurd (h2.symm.trans h1) h
    · rw [if_neg h2, if_pos h1]
  · rw [if_neg h1]
    by_cases h2 : x = a
    · rw [if_pos h2, if_pos h2]
    · rw [if_neg h2, if_neg h2, if_neg h1]
theorem SLe.put {S : Sto} {a : Addr} {c : Cell} (h : S a = none) : SLe S (S.put a c) := fun b e hb => by
  have : b ≠ a := fun q => by
    rw [q, h] at hb
    cases hb
  rw [put_ne this]
  exact hb
theorem put_id {S : Sto} {a : Addr} {c : Cell} (h : S a = some c) : S.put a c = S := by
  funext b
  unfold Sto.put
  split
  · rename_i e
    rw [e, h]
  · rfl
theorem SLe.put2 {S S' : Sto} {a : Addr} {c : Cell} (h : SLe S S') : SLe (S.put a c) (S'.put a c) := fun b e hb => by
  unfold Sto.put at hb ⊢
  split
  · rename_i q
    rw [if_pos q] at hb
    exact hb
  · rename_i q
    rw [if_neg q] at hb
    exact h b e hb

inductive CRep (G : Hp) : Cell → HO → Prop
  | lst {l xs} (r : Reps G l xs) : CRep G (.lst l) (.lst xs)
  | ins {C dx fs ns l} (e : fs.map (·.1) = ns) (r : Reps G l (fs.map (·.2))) : CRep G (.ins C ns l) (.ins C dx fs)
  | dk {kvs ks l} (e : kvs.map (·.1) = ks.map (fun k => (Sum.inr k : Key))) (r : Reps G l (kvs.map (·.2))) : CRep G (.dk ks l) (.dK kvs)
theorem CRep.mono {G G' : Hp} (e : Same G G') {c : Cell} {o : HO} (h : CRep G c o) : CRep G' c o := by
  cases h with
  | lst r => exact .lst (r.mono e)
  | ins q r => exact .ins q (r.mono e)
  | dk q r => exact .dk q (r.mono e)

/-- the world is as told -/
structure Wd (S : Sto) (F G H : Hp) : Prop where
  ext : Same G H
  hid : ∀ a c, S a = some c → G a = none ∧ ∃ o, H a = some o ∧ CRep G c o
  frm : ∀ a o, F a = some o → H a = some o ∧ G a = none ∧ S a = none

section
variable {S S' : Sto} {F G G' H H' : Hp} {p a : Addr} {o : HO} {c : Cell}
theorem Wd.gfree (w : Wd S F G H) (h : H p = none) : G p = none := w.ext.free h
theorem Wd.sfree (w : Wd S F G H) (h : H p = none) : S p = none := by
  cases e : S p with
  | none => rfl
  | some c =>
    obtain ⟨_, o, q, _⟩ := w.hid p c e
    rw [h] at q
    cases q
theorem Wd.ffree (w : Wd S F G H) (h : H p = none) : F p = none := by
  cases e : F p with
  | none => rfl
  | some c =>
    have q := (w.frm p c e).1
    rw [h] at q
    cases q
theorem same_new {H : Hp} {p : Addr} {o : HO} (h : H p = none) : Same H (upd H p o) := fun b u e => by
  rw [upd_ne (ne_of_none e h)]
  exact e
theorem same_upd2 {G H : Hp} {p : Addr} {o : HO} (e : Same G H) : Same (upd G p o) (upd H p o) := fun b u q => by
  by_cases h : b = p
  · subst h
    rw [upd_same] at q ⊢
    exact q
  · rw [upd_ne h] at q ⊢
    exact e _ _ q
/-- a new thing for good -/
theorem Wd.newD (w : Wd S F G H) (h : H p = none) : Wd S F (upd G p o) (upd H p o) := by
  refine ⟨same_upd2 w.ext, fun a c e => ?_, fun a u e => ?_⟩
  · obtain ⟨g, u, hu, r⟩ := w.hid a c e
    have ne : a ≠ p := ne_of_none hu h
    exact ⟨by rw [upd_ne ne]; exact g, u, by rw [upd_ne ne]; exact hu, r.mono (same_new (w.gfree h))⟩
  · obtain ⟨q1, q2, q3⟩ := w.frm a u e
    have ne : a ≠ p := ne_of_none q1 h
    exact ⟨by rw [upd_ne ne]; exact q1, by rw [upd_ne ne]; exact q2, q3⟩
/-- a new cell -/
theorem Wd.newH (w : Wd S F G H) (h : H p = none) (r : CRep G c o) : Wd (S.put p c) F G (upd H p o) := by
  refine ⟨w.ext.trans (same_new h), fun a e he => ?_, fun a u e => ?_⟩
  · by_cases hp : a = p
    · subst hp
      rw [put_same] at he
      cases he
      exact ⟨w.gfree h, o, upd_same, r⟩
    · rw [put_ne hp] at he
      obtain ⟨g, u, hu, r'⟩ := w.hid a e he
      exact ⟨g, u, by rw [upd_ne hp]; exact hu, r'⟩
  · obtain ⟨q1, q2, q3⟩ := w.frm a u e
    have ne : a ≠ p := ne_of_none q1 h
    exact ⟨by rw [upd_ne ne]; exact q1, q2, by rw [put_ne ne]; exact q3⟩
/-- a cell is written -/
theorem Wd.mut {c0 : Cell} (w : Wd S F G H) (h : S p = some c0) (r : CRep G c o) : Wd (S.put p c) F G (upd H p o) := by
  obtain ⟨g0, u0, hu0, _⟩ := w.hid p c0 h
  refine ⟨fun b u q => ?_, fun a e he => ?_, fun a u e => ?_⟩
  · have ne : b ≠ p := fun z => by
      rw [z, g0] at q
      cases q
    rw [upd_ne ne]
    exact w.ext _ _ q
  · by_cases hp : a = p
    · subst hp
      rw [put_same] at he
      cases he
      exact ⟨g0, o, upd_same, r⟩
    · rw [put_ne hp] at he
      obtain ⟨g, u, hu, r'⟩ := w.hid a e he
      exact ⟨g, u, by rw [upd_ne hp]; exact hu, r'⟩
  · obtain ⟨q1, q2, q3⟩ := w.frm a u e
    have ne : a ≠ p := fun z => by
      rw [z, h] at q3
      cases q3
    exact ⟨by rw [upd_ne ne]; exact q1, q2, by rw [put_ne ne]; exact q3⟩
/-- fewer cells told -/
theorem Wd.less (w : Wd S F G H) (h : SLe S' S) : Wd S' F G H := by
  refine ⟨w.ext, fun a c e => w.hid a c (h a c e), fun a u e => ?_⟩
  obtain ⟨q1, q2, q3⟩ := w.frm a u e
  refine ⟨q1, q2, ?_⟩
  cases z : S' a with
  | none => rfl
  | some c =>
    rw [h a c z] at q3
    cases q3
/-- a cell stands for good from here on -/
theorem Wd.frz (w : Wd S F G H) (h : S p = some c) : ∃ o, H p = some o ∧ CRep G c o ∧ G p = none ∧ Wd (S.del p) F (upd G p o) H := by
  obtain ⟨g0, o, ho, r⟩ := w.hid p c h
  refine ⟨o, ho, r, g0, fun b u q => ?_, fun a e he => ?_, fun a u e => ?_⟩
  · by_cases hb : b = p
    · subst hb
      rw [upd_same] at q
      rw [← q]
      exact ho
    · rw [upd_ne hb] at q
      exact w.ext _ _ q
  · by_cases hp : a = p
    · subst hp
      rw [del_same] at he
      cases he
    · rw [del_ne hp] at he
      obtain ⟨g, u, hu, r'⟩ := w.hid a e he
      exact ⟨by rw [upd_ne hp]; exact g, u, hu, r'.mono (same_new g0)⟩
  · obtain ⟨q1, q2, q3⟩ := w.frm a u e
    have ne : a ≠ p := fun z => by
      rw [z, h] at q3
      cases q3
    exact ⟨q1, by rw [upd_ne ne]; exact q2, by rw [del_ne ne]; exact q3⟩
/-- one more thing is kept aside -/
theorem Wd.aside (w : Wd S F G H) (h : H p = none) : Wd S (upd F p o) G (upd H p o) := by
  refine ⟨w.ext.trans (same_new h), fun a e he => ?_, fun a u e => ?_⟩
  · obtain ⟨g, u, hu, r'⟩ := w.hid a e he
    have ne : a ≠ p := ne_of_none hu h
    exact ⟨g, u, by rw [upd_ne ne]; exact hu, r'⟩
  · by_cases hp : a = p
    · subst hp
      rw [upd_same] at e
      cases e
      exact ⟨upd_same, w.gfree h, w.sfree h⟩
    · rw [upd_ne hp] at e
      obtain ⟨q1, q2, q3⟩ := w.frm a u e
      exact ⟨by rw [upd_ne hp]; exact q1, q2, q3⟩
theorem Wd.aside_mut {o' : HO} (w : Wd S (upd F p o) G H) : Wd S (upd F p o') G (upd H p o') := by
  obtain ⟨z1, z2, z3⟩ := w.frm p o upd_same
  refine ⟨fun b u q => ?_, fun a e he => ?_, fun a u e => ?_⟩
  · have ne : b ≠ p := fun z => by
      rw [z, z2] at q
      cases q
    rw [upd_ne ne]
    exact w.ext _ _ q
  · obtain ⟨g, u, hu, r'⟩ := w.hid a e he
    have ne : a ≠ p := fun z => by
      rw [z, z3] at he
      cases he
    exact ⟨g, u, by rw [upd_ne ne]; exact hu, r'⟩
  · by_cases hp : a = p
    · subst hp
      rw [upd_same] at e
      cases e
      exact ⟨upd_same, z2, z3⟩
    · rw [upd_ne hp] at e
      obtain ⟨q1, q2, q3⟩ := w.frm a u (by rw [upd_ne hp]; exact e)
      exact ⟨by rw [upd_ne hp]; exact q1, q2, q3⟩
/-- what was aside is for good, or a cell -/
theorem Wd.asideD (w : Wd S (upd F p o) G H) (hF : F p = none) : Wd S F (upd G p o) H ∧ G p = none := by
  obtain ⟨z1, z2, z3⟩ := w.frm p o upd_same
  refine ⟨⟨fun b u q => ?_, fun a e he => ?_, fun a u e => ?_⟩, z2⟩
  · by_cases hb : b = p
    · subst hb
      rw [upd_same] at q
      rw [← q]
      exact z1
    · rw [upd_ne hb] at q
      exact w.ext _ _ q
  · obtain ⟨g, u, hu, r'⟩ := w.hid a e he
    have ne : a ≠ p := fun z => by
      rw [z, z3] at he
      cases he
    exact ⟨by rw [upd_ne ne]; exact g, u, hu, r'.mono (same_new z2)⟩
  · have ne : a ≠ p := fun z => by
      rw [z, hF] at e
      cases e
    obtain ⟨q1, q2, q3⟩ := w.frm a u (by rw [upd_ne ne]; exact e)
    exact ⟨q1, by rw [upd_ne ne]; exact q2, q3⟩
theorem Wd.asideH (w : Wd S (upd F p o) G H) (hF : F p = none) (r : CRep G c o) : Wd (S.put p c) F G H ∧ S p = none := by
  obtain ⟨z1, z2, z3⟩ := w.frm p o upd_same
  refine ⟨⟨w.ext, fun a e he => ?_, fun a u e => ?_⟩, z3⟩
  · by_cases hp : a = p
    · subst hp
      rw [put_same] at he
      cases he
      exact ⟨z2, o, z1, r⟩
    · rw [put_ne hp] at he
      exact w.hid a e he
  · have ne : a ≠ p := fun z => by
      rw [z, hF] at e
      cases e
    obtain ⟨q1, q2, q3⟩ := w.frm a u (by rw [upd_ne ne]; exact e)
    exact ⟨q1, q2, by rw [put_ne ne]; exact q3⟩
end

/-! ### slots -/
abbrev Env := List (Option D)
structure Slots (G : Hp) (ρ : Env) (σ : L2.St) : Prop where
  len : ρ.length = σ.length
  at_ : ∀ (i : Nat) (d : D), ρ[i]? = some (some d) → ∃ v, σ[i]? = some (some v) ∧ Rep G d v
theorem Slots.mono {G G' : Hp} {ρ : Env} {σ : L2.St} (s : Slots G ρ σ) (e : Same G G') : Slots G' ρ σ :=
  ⟨s.len, fun i d h => let ⟨v, h1, h2⟩ := s.at_ i d h; ⟨v, h1, h2.mono e⟩⟩
theorem Slots.set {G : Hp} {ρ : Env} {σ : L2.St} {d : D} {v : V} (s : Slots G ρ σ) (r : Rep G d v) (i : Nat) : Slots G (ρ.set i (some d)) (σ.set i (some v)) := by
  refine ⟨by rw [List.length_set, List.length_set]; exact s.len, fun j e h => ?_⟩
  by_cases hj : i = j
  · subst hj
    by_cases hl : i < ρ.length
    · rw [List.getElem?_set_self hl] at h
      cases h
      exact ⟨v, List.getElem?_set_self (by rw [← s.len]; exact hl), r⟩
    · rw [List.getElem?_eq_none (by rw [List.length_set]; omega)] at h
      cases h
  · rw [List.getElem?_set_ne hj] at h ⊢
    exact s.at_ j e h
theorem Slots.forget {G : Hp} {ρ : Env} {σ : L2.St} (s : Slots G ρ σ) (i : Nat) (x : Option V) : Slots G (ρ.set i none) (σ.set i x) := by
  refine ⟨by rw [List.length_set, List.length_set]; exact s.len, fun j e h => ?_⟩
  by_cases hj : i = j
  · subst hj
    by_cases hl : i < ρ.length
    · rw [List.getElem?_set_self hl] at h
      cases h
    · rw [List.getElem?_eq_none (by rw [List.length_set]; omega)] at h
      cases h
  · rw [List.getElem?_set_ne hj] at h ⊢
    exact s.at_ j e h
/-- less is told of the slots -/
theorem Slots.weak {G : Hp} {ρ ρ' : Env} {σ : L2.St} (s : Slots G ρ σ) (hl : ρ'.length = ρ.length) (h : ∀ (i : Nat) (d : D), ρ'[i]? = some (some d) → ρ[i]? = some (some d)) : Slots G ρ' σ :=
  ⟨hl.trans s.len, fun i d e => s.at_ i d (h i d e)⟩
def wipeD (ρ : Env) : List Nat → Env
  | [] => ρ
  | v :: vs => (wipeD ρ vs).set v none
theorem Slots.wipe {G : Hp} {ρ : Env} {σ : L2.St} (s : Slots G ρ σ) : ∀ vs : List Nat, Slots G (wipeD ρ vs) (L2.wipe σ vs)
  | [] => s
  | v :: vs => (Slots.wipe s vs).forget v none

/-! ### judgements -/
def Pq (F G : Hp) (P : Sto → D → Prop) (Q : VK) : Prop := ∀ v d S' G' H', Same G G' → Wd S' F G' H' → P S' d → Rep G' d v → Q v H'
def Bq (F G : Hp) (P : Sto → Bool → Prop) (Q : Bool → Hp → Prop) : Prop := ∀ b S' G' H', Same G G' → Wd S' F G' H' → P S' b → Q b H'
def Aq (F G : Hp) (P : Sto → List D → Prop) (Q : List V → Hp → Prop) : Prop := ∀ vs ds S' G' H', Same G G' → Wd S' F G' H' → P S' ds → Reps G' ds vs → Q vs H'
def Oq (F G : Hp) (P : Sto → Option Int → Prop) (Q : Option Int → Hp → Prop) : Prop := ∀ b S' G' H', Same G G' → Wd S' F G' H' → P S' b → Q b H'
theorem Pq.mono {F G G' : Hp} {P Q} (e : Same G G') (h : Pq F G P Q) : Pq F G' P Q := fun v d S' G2 H' e2 w p r => h v d S' G2 H' (e.trans e2) w p r
theorem Bq.mono {F G G' : Hp} {P Q} (e : Same G G') (h : Bq F G P Q) : Bq F G' P Q := fun b S' G2 H' e2 w p => h b S' G2 H' (e.trans e2) w p
theorem Aq.mono {F G G' : Hp} {P Q} (e : Same G G') (h : Aq F G P Q) : Aq F G' P Q := fun v d S' G2 H' e2 w p r => h v d S' G2 H' (e.trans e2) w p r
theorem Oq.mono {F G G' : Hp} {P Q} (e : Same G G') (h : Oq F G P Q) : Oq F G' P Q := fun b S' G2 H' e2 w p => h b S' G2 H' (e.trans e2) w p

def Ev (S : Sto) (ρ : Env) (te : TE) (P : Sto → D → Prop) : Prop := ∀ F G H σ, Wd S F G H → Slots G ρ σ → ∀ Q, Pq F G P Q → te σ H Q
def EvT (S : Sto) (ρ : Env) (tt : TT) (P : Sto → Bool → Prop) : Prop := ∀ F G H σ, Wd S F G H → Slots G ρ σ → ∀ Q, Bq F G P Q → tt σ H Q
def EvA (S : Sto) (ρ : Env) (ta : TA) (P : Sto → List D → Prop) : Prop := ∀ F G H σ, Wd S F G H → Slots G ρ σ → ∀ Q, Aq F G P Q → ta σ H Q
def EvO (S : Sto) (ρ : Env) (to : TO) (P : Sto → Option Int → Prop) : Prop := ∀ F G H σ, Wd S F G H → Slots G ρ σ → ∀ Q, Oq F G P Q → to σ H Q
/-- operations by values -/
def R2D (r : R2) (S : Sto) (x y : D) (P : Sto → D → Prop) : Prop := ∀ F G H vx vy, Wd S F G H → Rep G x vx → Rep G y vy → ∀ Q, Pq F G P Q → r vx vy H Q
def R1D (r : V → Hp → VK → Prop) (S : Sto) (x : D) (P : Sto → D → Prop) : Prop := ∀ F G H vx, Wd S F G H → Rep G x vx → ∀ Q, Pq F G P Q → r vx H Q
def RCD (r : List V → Hp → VK → Prop) (S : Sto) (xs : List D) (P : Sto → D → Prop) : Prop := ∀ F G H vs, Wd S F G H → Reps G xs vs → ∀ Q, Pq F G P Q → r vs H Q
def RMD (r : V → List V → Hp → VK → Prop) (S : Sto) (x : D) (xs : List D) (P : Sto → D → Prop) : Prop := ∀ F G H vx vs, Wd S F G H → Rep G x vx → Reps G xs vs → ∀ Q, Pq F G P Q → r vx vs H Q

structure DE where
  nx : Sto → Env → Prop
  rt : Sto → D → Prop
  bk : Sto → Env → Prop := fun _ _ => False
  ct : Sto → Env → Prop := fun _ _ => False
structure Conn (F G : Hp) (E : DE) (N : Ends) : Prop where
  nx : ∀ S' ρ' G' H' σ', Same G G' → Wd S' F G' H' → Slots G' ρ' σ' → E.nx S' ρ' → N.nx σ' H'
  rt : ∀ S' d v G' H', Same G G' → Wd S' F G' H' → Rep G' d v → E.rt S' d → N.rt v H'
  bk : ∀ S' ρ' G' H' σ', Same G G' → Wd S' F G' H' → Slots G' ρ' σ' → E.bk S' ρ' → N.bk σ' H'
  ct : ∀ S' ρ' G' H' σ', Same G G' → Wd S' F G' H' → Slots G' ρ' σ' → E.ct S' ρ' → N.ct σ' H'
theorem Conn.mono {F G G' : Hp} {E N} (e : Same G G') (h : Conn F G E N) : Conn F G' E N :=
  ⟨fun S' ρ' G2 H' σ' e2 => h.nx S' ρ' G2 H' σ' (e.trans e2), fun S' d v G2 H' e2 => h.rt S' d v G2 H' (e.trans e2), fun S' ρ' G2 H' σ' e2 => h.bk S' ρ' G2 H' σ' (e.trans e2), fun S' ρ' G2 H' σ' e2 => h.ct S' ρ' G2 H' σ' (e.trans e2)⟩
def Sx (S : Sto) (ρ : Env) (ts : TS) (E : DE) : Prop := ∀ F G H σ, Wd S F G H → Slots G ρ σ → ∀ N, Conn F G E N → ts N σ H
def GD (S : Sto) (ρ : Env) (g : TG) (d : D) (P : Sto → Env → Prop) : Prop := ∀ F G H σ v, Wd S F G H → Slots G ρ σ → Rep G d v → ∀ Q : L2.St → Hp → Prop,
  (∀ S' ρ' G' H' σ', Same G G' → Wd S' F G' H' → Slots G' ρ' σ' → P S' ρ' → Q σ' H') → g v σ H Q
def GDs (S : Sto) (ρ : Env) (g : TGs) (ds : List D) (P : Sto → Env → Prop) : Prop := ∀ F G H σ vs, Wd S F G H → Slots G ρ σ → Reps G ds vs → ∀ Q : L2.St → Hp → Prop,
  (∀ S' ρ' G' H' σ', Same G G' → Wd S' F G' H' → Slots G' ρ' σ' → P S' ρ' → Q σ' H') → g vs σ H Q

/-! ### a def's promise over data -/
abbrev Phi := Sto → List D → (Sto → D → Prop) → Prop
def toSp (φ : Phi) : Sp := fun vs H Q _ => ∃ (S : Sto) (F G : Hp) (ds : List D) (P : Sto → D → Prop), Wd S F G H ∧ Reps G ds vs ∧ φ S ds P ∧ Pq F G P Q
theorem sp_len {φ : Phi} {n : Nat} (h : ∀ S ds P, φ S ds P → ds.length = n) : ∀ vs H Q E, toSp φ vs H Q E → vs.length = n := by
  rintro vs H Q E ⟨S, F, G, ds, P, w, r, p, _⟩
  rw [← r.length]
  exact h S ds P p
def startD (n : Nat) (ds : List D) : Env := ds.map some ++ List.replicate (n - ds.length) none
theorem slots_start {G : Hp} {N : List Str} {ds : List D} {vs : List V} (r : Reps G ds vs) : Slots G (startD N.length ds) (L2.start N vs) := by
  have hl := r.length
  refine ⟨by unfold startD L2.start; simp [hl], fun i d h => ?_⟩
  unfold startD at h
  unfold L2.start
  by_cases hi : i < ds.length
  · rw [List.getElem?_append_left (by simpa using hi), List.getElem?_map] at h
    cases e : ds[i]? with
    | none =>
      rw [e] at h
      cases h
    | some d' =>
      rw [e] at h
      cases h
      obtain ⟨v, h1, h2⟩ := r.get e
      refine ⟨v, ?_, h2⟩
      rw [List.getElem?_append_left (by simp; omega), List.getElem?_map, h1]
      rfl
  · rw [List.getElem?_append_right (by simpa using hi), List.getElem?_replicate] at h
    split at h <;> cases h
/-- a body, from its data -/
theorem fn_run {φ : Phi} {N : List Str} {t : TS} {vs : List V} {H : Hp} {Q : VK} {E : XK} (h : toSp φ vs H Q E)
    (b : ∀ S ds P, φ S ds P → Sx S (startD N.length ds) t { nx := fun S' _ => P S' .non, rt := P }) : t { nx := fun _ H' => Q .non H', rt := Q } (L2.start N vs) H := by
  obtain ⟨S, F, G, ds, P, w, r, p, q⟩ := h
  refine b S ds P p F G H _ w (slots_start r) _ ⟨fun S' ρ' G' H' σ' e w' _ p' => q _ _ _ _ _ e w' p' .non, fun S' d v G' H' e w' r' p' => q _ _ _ _ _ e w' p' r', fun _ _ _ _ _ _ _ _ z => z.elim, fun _ _ _ _ _ _ _ _ z => z.elim⟩

/-! ### expressions -/
section
variable {K : PySem.W.Frag} {S : Sto} {ρ : Env} {ta tb te tc : TE} {tt tu : TT} {P : Sto → D → Prop} {PB : Sto → Bool → Prop} {PA' : Sto → List D → Prop} {d x y : D}
theorem ev_var {i : Nat} (h : ρ[i]? = some (some d)) (q : P S d) : Ev S ρ (tVar i) P := fun F G H σ w s Q k => by
  obtain ⟨v, h1, h2⟩ := s.at_ i d h
  exact ⟨v, h1, k v d S G H (Same.refl _) w q h2⟩
theorem ev_int {i : Int} (q : P S (.int i)) : Ev S ρ (tC (.int i)) P := fun F G H σ w s Q k => k _ _ S G H (Same.refl _) w q .int
theorem ev_bl {i : Bool} (q : P S (.bl i)) : Ev S ρ (tC (.bl i)) P := fun F G H σ w s Q k => k _ _ S G H (Same.refl _) w q .bl
theorem ev_str {i : Str} (q : P S (.str i)) : Ev S ρ (tC (.str i)) P := fun F G H σ w s Q k => k _ _ S G H (Same.refl _) w q .str
theorem ev_ty {n : String} (q : P S (.ty n)) : Ev S ρ (tC (.ty n)) P := fun F G H σ w s Q k => k _ _ S G H (Same.refl _) w q .ty
theorem ev_cls {a : Addr} (q : P S (.ref a)) : Ev S ρ (tC (.ref a)) P := fun F G H σ w s Q k => k _ _ S G H (Same.refl _) w q .ref
theorem ev_non (q : P S .non) : Ev S ρ (tC .non) P := fun F G H σ w s Q k => k _ _ S G H (Same.refl _) w q .non
theorem ev_op {r : R2} (h : Ev S ρ ta fun S1 x => Ev S1 ρ tb fun S2 y => R2D r S2 x y P) : Ev S ρ (tOp r ta tb) P := fun F G H σ w s Q k =>
  h F G H σ w s _ fun v1 d1 S1 G1 H1 e1 w1 p1 r1 => p1 F G1 H1 σ w1 (s.mono e1) _ fun v2 d2 S2 G2 H2 e2 w2 p2 r2 =>
    p2 F G2 H2 v1 v2 w2 (r1.mono e2) r2 Q (k.mono (e1.trans e2))
theorem ev_un {r : V → Hp → VK → Prop} (h : Ev S ρ ta fun S1 x => R1D r S1 x P) : Ev S ρ (tUn r ta) P := fun F G H σ w s Q k =>
  h F G H σ w s _ fun v1 d1 S1 G1 H1 e1 w1 p1 r1 => p1 F G1 H1 v1 w1 r1 Q (k.mono e1)
theorem ev_mono {P' : Sto → D → Prop} (h : Ev S ρ te P') (k : ∀ S' d, P' S' d → P S' d) : Ev S ρ te P := fun F G H σ w s Q q => h F G H σ w s Q fun v d S' G' H' e w' p r => q v d S' G' H' e w' (k S' d p) r
theorem evT_mono {P' : Sto → Bool → Prop} (h : EvT S ρ tt P') (k : ∀ S' d, P' S' d → PB S' d) : EvT S ρ tt PB := fun F G H σ w s Q q => h F G H σ w s Q fun b S' G' H' e w' p => q b S' G' H' e w' (k S' b p)
/-- fewer cells are told behind -/
theorem ev_less (h : Ev S ρ te fun S' d => ∃ S0, SLe S0 S' ∧ P S0 d) : Ev S ρ te P := fun F G H σ w s Q q => h F G H σ w s Q fun v d S' G' H' e w' ⟨S0, l, p⟩ r => q v d S0 G' H' e (w'.less l) p r
/-- the value, a cell's address, is the thing for good -/
theorem ev_frzL (h : Ev S ρ te fun S' d => ∃ a l, d = .ref a ∧ S' a = some (.lst l) ∧ P (S'.del a) (.lst l)) : Ev S ρ te P := fun F G H σ w s Q q => h F G H σ w s Q fun v d S' G' H' e w' ⟨a, l, ed, hs, p⟩ r => by
  subst ed
  obtain ⟨o, ho, cr, g0, w2⟩ := w'.frz hs
  cases cr with
  | lst rs =>
    cases r
    exact q _ _ _ _ _ (e.trans (same_new g0)) w2 p (.lst upd_same (rs.mono (same_new g0)))
theorem ev_frzO (h : Ev S ρ te fun S' d => ∃ a C ns l, d = .ref a ∧ S' a = some (.ins C ns l) ∧ P (S'.del a) (.ob C ns l)) : Ev S ρ te P := fun F G H σ w s Q q => h F G H σ w s Q fun v d S' G' H' e w' ⟨a, C, ns, l, ed, hs, p⟩ r => by
  subst ed
  obtain ⟨o, ho, cr, g0, w2⟩ := w'.frz hs
  cases cr with
  | ins en rs =>
    cases r
    exact q _ _ _ _ _ (e.trans (same_new g0)) w2 p (.ob upd_same en (rs.mono (same_new g0)))
theorem ev_andV (h : Ev S ρ ta fun S1 x => ∃ c, x = .bl c ∧ (c = true → Ev S1 ρ tb P) ∧ (c = false → P S1 (.bl false))) : Ev S ρ (tAndV ta tb) P := fun F G H σ w s Q k =>
  h F G H σ w s _ fun v1 d1 S1 G1 H1 e1 w1 ⟨c, ec, p1, p2⟩ r1 => by
    subst ec
    cases r1
    refine ⟨c, rfl, ?_⟩
    cases c with
    | true => exact p1 rfl F G1 H1 σ w1 (s.mono e1) Q (k.mono e1)
    | false => exact k _ _ _ _ _ e1 w1 (p2 rfl) .bl
theorem ev_orV (h : Ev S ρ ta fun S1 x => ∃ c, x = .bl c ∧ (c = false → Ev S1 ρ tb P) ∧ (c = true → P S1 (.bl true))) : Ev S ρ (tOrV ta tb) P := fun F G H σ w s Q k =>
  h F G H σ w s _ fun v1 d1 S1 G1 H1 e1 w1 ⟨c, ec, p1, p2⟩ r1 => by
    subst ec
    cases r1
    refine ⟨c, rfl, ?_⟩
    cases c with
    | false => exact p1 rfl F G1 H1 σ w1 (s.mono e1) Q (k.mono e1)
    | true => exact k _ _ _ _ _ e1 w1 (p2 rfl) .bl
theorem ev_notV (h : Ev S ρ ta fun S1 x => ∃ c, x = .bl c ∧ P S1 (.bl (!c))) : Ev S ρ (tNotV ta) P := fun F G H σ w s Q k =>
  h F G H σ w s _ fun v1 d1 S1 G1 H1 e1 w1 ⟨c, ec, p1⟩ r1 => by
    subst ec
    cases r1
    exact ⟨c, rfl, k _ _ _ _ _ e1 w1 p1 .bl⟩
theorem ev_if (h : EvT S ρ tt fun S1 c => (c = true → Ev S1 ρ ta P) ∧ (c = false → Ev S1 ρ tb P)) : Ev S ρ (tIf tt ta tb) P := fun F G H σ w s Q k =>
  h F G H σ w s _ fun c S1 G1 H1 e1 w1 ⟨p1, p2⟩ => by
    cases c with
    | true => exact p1 rfl F G1 H1 σ w1 (s.mono e1) Q (k.mono e1)
    | false => exact p2 rfl F G1 H1 σ w1 (s.mono e1) Q (k.mono e1)

/-! ### tests -/
theorem evT_B (h : Ev S ρ ta fun S1 x => ∃ c, x = .bl c ∧ PB S1 c) : EvT S ρ (tB ta) PB := fun F G H σ w s Q k =>
  h F G H σ w s _ fun v1 d1 S1 G1 H1 e1 w1 ⟨c, ec, p1⟩ r1 => by
    subst ec
    cases r1
    exact ⟨c, rfl, k _ _ _ _ e1 w1 p1⟩
theorem evT_test (h : Ev S ρ ta fun S1 x => ∃ c, x = .bl c ∧ PB S1 c) : EvT S ρ (tTest ta) PB := evT_B h
theorem evT_and (h : EvT S ρ tt fun S1 c => (c = true → EvT S1 ρ tu PB) ∧ (c = false → PB S1 false)) : EvT S ρ (tAnd tt tu) PB := fun F G H σ w s Q k =>
  h F G H σ w s _ fun c S1 G1 H1 e1 w1 ⟨p1, p2⟩ => by
    cases c with
    | true => exact p1 rfl F G1 H1 σ w1 (s.mono e1) Q (k.mono e1)
    | false => exact k _ _ _ _ e1 w1 (p2 rfl)
theorem evT_or (h : EvT S ρ tt fun S1 c => (c = false → EvT S1 ρ tu PB) ∧ (c = true → PB S1 true)) : EvT S ρ (tOr tt tu) PB := fun F G H σ w s Q k =>
  h F G H σ w s _ fun c S1 G1 H1 e1 w1 ⟨p1, p2⟩ => by
    cases c with
    | false => exact p1 rfl F G1 H1 σ w1 (s.mono e1) Q (k.mono e1)
    | true => exact k _ _ _ _ e1 w1 (p2 rfl)
theorem evT_not (h : EvT S ρ tt fun S1 c => PB S1 (!c)) : EvT S ρ (tNot tt) PB := fun F G H σ w s Q k =>
  h F G H σ w s _ fun c S1 G1 H1 e1 w1 p => k _ _ _ _ e1 w1 p
theorem evT_yes (h : PB S true) : EvT S ρ tYes PB := fun F G H σ w s Q k => k _ _ _ _ (Same.refl _) w h

/-! ### arguments, displays -/
theorem evA_nil (h : PA' S []) : EvA S ρ tNil PA' := fun F G H σ w s Q k => k _ _ _ _ _ (Same.refl _) w h .nil
theorem evA_cons {tr : TA} (h : Ev S ρ ta fun S1 x => EvA S1 ρ tr fun S2 xs => PA' S2 (x :: xs)) : EvA S ρ (tCons ta tr) PA' := fun F G H σ w s Q k =>
  h F G H σ w s _ fun v1 d1 S1 G1 H1 e1 w1 p1 r1 => p1 F G1 H1 σ w1 (s.mono e1) _ fun vs ds S2 G2 H2 e2 w2 p2 r2 => k _ _ _ _ _ (e1.trans e2) w2 p2 (.cons (r1.mono e2) r2)
theorem ev_tup {t : TA} (h : EvA S ρ t fun S1 xs => xs.length ≤ 16777216 ∧ P S1 (.tup xs)) : Ev S ρ (tTup t) P := fun F G H σ w s Q k =>
  h F G H σ w s _ fun vs ds S1 G1 H1 e1 w1 ⟨hl, p1⟩ r1 => ⟨by rw [← r1.length, sizeLine_eq]; exact hl, fun p hp =>
    k _ _ _ _ _ (e1.trans (same_new (w1.gfree hp))) (w1.newD hp) p1 (.tup upd_same (r1.mono (same_new (w1.gfree hp))))⟩
theorem ev_lst {t : TA} (h : EvA S ρ t fun S1 xs => xs.length ≤ 16777216 ∧ P S1 (.lst xs)) : Ev S ρ (tLst t) P := fun F G H σ w s Q k =>
  h F G H σ w s _ fun vs ds S1 G1 H1 e1 w1 ⟨hl, p1⟩ r1 => ⟨by rw [← r1.length, sizeLine_eq]; exact hl, fun p hp =>
    k _ _ _ _ _ (e1.trans (same_new (w1.gfree hp))) (w1.newD hp) p1 (.lst upd_same (r1.mono (same_new (w1.gfree hp))))⟩
/-- the new list is a cell -/
theorem ev_lstH {t : TA} (h : EvA S ρ t fun S1 xs => xs.length ≤ 16777216 ∧ ∀ p, S1 p = none → P (S1.put p (.lst xs)) (.ref p)) : Ev S ρ (tLst t) P := fun F G H σ w s Q k =>
  h F G H σ w s _ fun vs ds S1 G1 H1 e1 w1 ⟨hl, p1⟩ r1 => ⟨by rw [← r1.length, sizeLine_eq]; exact hl, fun p hp =>
    k _ _ _ _ _ e1 (w1.newH hp (.lst r1)) (p1 p (w1.sfree hp)) .ref⟩

/-! ### fields, calls -/
def look (f : Str) (ns : List Str) (l : List D) : Option D := (ns.zip l).lookup f
theorem look_rep {G : Hp} {f : Str} : ∀ {fs : List (Str × V)} {l : List D} {d : D}, Reps G l (fs.map (·.2)) → look f (fs.map (·.1)) l = some d → ∃ v, fs.lookup f = some v ∧ Rep G d v
  | [], _, _, r, h => by
    cases r
    cases h
  | (n, v) :: fs, _, d, r, h => by
    cases r with
    | @cons d0 v0 l0 xs0 hr ht =>
      have h2 : (match f == n with | true => some d0 | false => look f (fs.map (·.1)) l0) = some d := h
      show ∃ w, (match f == n with | true => some v | false => fs.lookup f) = some w ∧ _
      cases e : f == n with
      | true =>
        rw [e] at h2
        cases h2
        exact ⟨v, rfl, hr⟩
      | false =>
        rw [e] at h2
        exact look_rep ht h2
theorem lookup_none {f : Str} : ∀ {fs : List (Str × V)}, f ∉ fs.map (·.1) → fs.lookup f = none
  | [], _ => rfl
  | (n, v) :: fs, h => by
    have h1 : f ≠ n := fun e => h (by rw [e]; exact List.mem_cons_self)
    have h2 : f ∉ fs.map (·.1) := fun e => h (List.mem_cons_of_mem _ e)
    show (match f == n with | true => some v | false => fs.lookup f) = none
    rw [beq_eq_false_iff_ne.mpr h1]
    exact lookup_none h2
/-- an instance: for good, or a cell -/
def OV (S : Sto) (d : D) (C : Addr) (ns : List Str) (l : List D) : Prop := d = .ob C ns l ∨ ∃ a, d = .ref a ∧ S a = some (.ins C ns l)
theorem OV.o {C : Addr} {ns : List Str} {l : List D} : OV S (.ob C ns l) C ns l := .inl rfl
theorem OV.h {a C : Addr} {ns : List Str} {l : List D} (h : S a = some (.ins C ns l)) : OV S (.ref a) C ns l := .inr ⟨a, rfl, h⟩
theorem OV.at_ {F G H : Hp} {v : V} {C : Addr} {ns : List Str} {l : List D} (o : OV S d C ns l) (w : Wd S F G H) (r : Rep G d v) :
    ∃ a dx fs, v = .ref a ∧ H a = some (.ins C dx fs) ∧ fs.map (·.1) = ns ∧ Reps G l (fs.map (·.2)) := by
  rcases o with e | ⟨a, e, hs⟩
  · subst e
    cases r with
    | ob h e r => exact ⟨_, _, _, rfl, w.ext _ _ h, e, r⟩
  · subst e
    cases r
    obtain ⟨_, o, ho, cr⟩ := w.hid a _ hs
    cases cr with
    | ins e r => exact ⟨a, _, _, rfl, ho, e, r⟩
/-- a list: for good, or a cell -/
def LV (S : Sto) (d : D) (l : List D) : Prop := d = .lst l ∨ ∃ a, d = .ref a ∧ S a = some (.lst l)
theorem LV.o {l : List D} : LV S (.lst l) l := .inl rfl
theorem LV.h {a : Addr} {l : List D} (h : S a = some (.lst l)) : LV S (.ref a) l := .inr ⟨a, rfl, h⟩
theorem LV.at_ {F G H : Hp} {v : V} {l : List D} (o : LV S d l) (w : Wd S F G H) (r : Rep G d v) : ∃ a xs, v = .ref a ∧ H a = some (.lst xs) ∧ Reps G l xs := by
  rcases o with e | ⟨a, e, hs⟩
  · subst e
    cases r with
    | lst h r => exact ⟨_, _, rfl, w.ext _ _ h, r⟩
  · subst e
    cases r
    obtain ⟨_, o, ho, cr⟩ := w.hid a _ hs
    cases cr with
    | lst r => exact ⟨a, _, rfl, ho, r⟩
theorem ev_fld {f : Str} (h : Ev S ρ ta fun S1 x => ∃ C ns l d, OV S1 x C ns l ∧ Cls K C ∧ NoAttr K C f ∧ look f ns l = some d ∧ P S1 d) : Ev S ρ (tFld K ta f) P := fun F G H σ w s Q k =>
  h F G H σ w s _ fun v1 d1 S1 G1 H1 e1 w1 ⟨C, ns, l, d, o, c, n, lk, p⟩ r1 => by
    obtain ⟨a, dx, fs, rfl, ha, e, r⟩ := o.at_ w1 r1
    subst e
    obtain ⟨v, h1, h2⟩ := look_rep r lk
    exact ⟨a, C, dx, fs, v, rfl, ha, c, n, h1, k _ _ _ _ _ e1 w1 p h2⟩
theorem ev_call {φ : Phi} {E : XK} {t : TA} (h : EvA S ρ t fun S1 xs => φ S1 xs P) : Ev S ρ (tCall (toSp φ) [] E t) P := fun F G H σ w s Q k =>
  h F G H σ w s _ fun vs ds S1 G1 H1 e1 w1 p1 r1 => ⟨S1, F, G1, ds, P, w1, by rw [List.append_nil]; exact r1, p1, k.mono e1⟩
theorem ev_meth {φ : Phi} {E : XK} {t : TA} {C : Addr} {m : Str} (h : Ev S ρ ta fun S1 x => (∃ ns l, OV S1 x C ns l ∧ m ∉ ns) ∧ EvA S1 ρ t fun S2 xs => φ S2 (x :: xs) P) : Ev S ρ (tMeth C m (toSp φ) [] E ta t) P := fun F G H σ w s Q k =>
  h F G H σ w s _ fun v1 d1 S1 G1 H1 e1 w1 ⟨⟨ns, l, o, hm⟩, p1⟩ r1 => by
    obtain ⟨a, dx, fs, rfl, ha, e, r⟩ := o.at_ w1 r1
    subst e
    exact ⟨a, dx, fs, rfl, ha, lookup_none hm, p1 F G1 H1 σ w1 (s.mono e1) _ fun vs ds S2 G2 H2 e2 w2 p2 r2 =>
      ⟨S2, F, G2, d1 :: ds, P, w2, by rw [List.append_nil]; exact .cons (r1.mono e2) r2, p2, k.mono (e1.trans e2)⟩⟩
theorem ev_cmeth {φ : Phi} {E : XK} {t : TA} {C : Addr} (h : Ev S ρ ta fun S1 x => x = .ref C ∧ EvA S1 ρ t fun S2 xs => φ S2 (.ref C :: xs) P) : Ev S ρ (ClX.tCMeth C (toSp φ) E ta t) P := fun F G H σ w s Q k =>
  h F G H σ w s _ fun v1 d1 S1 G1 H1 e1 w1 ⟨ex, p1⟩ r1 => by
    subst ex
    cases r1
    exact ⟨rfl, p1 F G1 H1 σ w1 (s.mono e1) _ fun vs ds S2 G2 H2 e2 w2 p2 r2 => ⟨S2, F, G2, .ref C :: ds, P, w2, .cons .ref r2, p2, k.mono (e1.trans e2)⟩⟩
theorem ev_make {φ : Phi} {E : XK} {t : TA} {C : Addr} (h : EvA S ρ t fun S1 xs => ∀ a, S1 a = none → φ (S1.put a (.ins C [] [])) (.ref a :: xs) fun S2 d => d = .non ∧ P S2 (.ref a)) : Ev S ρ (tMake C (toSp φ) [] E t) P := fun F G H σ w s Q k =>
  h F G H σ w s _ fun vs ds S1 G1 H1 e1 w1 p1 r1 x dx hx hdx ne => by
    have gdx := w1.gfree hdx
    have w2 : Wd S1 F (upd G1 dx (.own x)) (upd H1 dx (.own x)) := w1.newD hdx
    have hx2 : (upd H1 dx (.own x)) x = none := by
      rw [upd_ne (Ne.symm ne)]
      exact hx
    have w3 : Wd (S1.put x (.ins C [] [])) F (upd G1 dx (.own x)) (upd (upd H1 dx (.own x)) x (.ins C dx [])) := w2.newH hx2 (.ins rfl .nil)
    refine ⟨_, F, _, .ref x :: ds, _, w3, ?_, p1 x (w1.sfree hx), fun v d S' G' H' e' w' ⟨p', q'⟩ r' => ?_⟩
    · rw [List.append_nil]
      exact .cons .ref (r1.mono (same_new gdx))
    · subst p'
      cases r'
      exact ⟨rfl, k _ _ _ _ _ (e1.trans ((same_new gdx).trans e')) w' q' .ref⟩
theorem ev_cb {r : List V → Hp → VK → Prop} {t : TA} (h : EvA S ρ t fun S1 xs => RCD r S1 xs P) : Ev S ρ (tCB r t) P := fun F G H σ w s Q k =>
  h F G H σ w s _ fun vs ds S1 G1 H1 e1 w1 p1 r1 => p1 F G1 H1 vs w1 r1 Q (k.mono e1)
/-- the type of what a built-in's method is called of -/
def TyD (S : Sto) (T : String) (x : D) : Prop := match x with
  | .str _ => T = "str"
  | .int _ => T = "int"
  | .lst _ => T = "list"
  | .ref a => T = "list" ∧ ∃ l, S a = some (.lst l)
  | _ => False
theorem TyD.of {T : String} {F G H : Hp} {v : V} (h : TyD S T x) (w : Wd S F G H) (r : Rep G x v) : tyV K T v H := by
  cases x with
  | str z =>
    cases r
    exact h
  | int z =>
    cases r
    exact h
  | lst l =>
    cases r with
    | lst h' r' => exact .inl ⟨h, _, SqL.of (w.ext _ _ h')⟩
  | ref a =>
    cases r
    obtain ⟨h1, l, h2⟩ := h
    obtain ⟨_, o, ho, cr⟩ := w.hid a _ h2
    cases cr with
    | lst r' => exact .inl ⟨h1, _, SqL.of ho⟩
  | _ => exact False.elim h
theorem ev_bm {T : String} {r : V → List V → Hp → VK → Prop} {t : TA} (h : Ev S ρ ta fun S1 x => TyD S1 T x ∧ EvA S1 ρ t fun S2 xs => RMD r S2 x xs P) : Ev S ρ (tBM K T r ta t) P := fun F G H σ w s Q k =>
  h F G H σ w s _ fun v1 d1 S1 G1 H1 e1 w1 ⟨ty, p1⟩ r1 => ⟨ty.of w1 r1, p1 F G1 H1 σ w1 (s.mono e1) _ fun vs ds S2 G2 H2 e2 w2 p2 r2 => p2 F G2 H2 v1 vs w2 (r1.mono e2) r2 Q (k.mono (e1.trans e2))⟩
theorem ev_bm0 {T : String} {r : V → List V → Hp → VK → Prop} (h : Ev S ρ ta fun S1 x => TyD S1 T x ∧ RMD r S1 x [] P) : Ev S ρ (tBM0 K T r ta) P := fun F G H σ w s Q k =>
  h F G H σ w s _ fun v1 d1 S1 G1 H1 e1 w1 ⟨ty, p1⟩ r1 => ⟨ty.of w1 r1, p1 F G1 H1 v1 [] w1 r1 .nil Q (k.mono e1)⟩
theorem ev_chain {r r' : R2} (h : Ev S ρ ta fun S1 x => Ev S1 ρ tb fun S2 y => R2D r S2 x y fun S3 z => ∃ k, z = .bl k ∧ (k = true → Ev S3 ρ tc fun S4 z' => R2D r' S4 y z' P) ∧ (k = false → P S3 (.bl false))) : Ev S ρ (tChain r r' ta tb tc) P := fun F G H σ w s Q k =>
  h F G H σ w s _ fun v1 d1 S1 G1 H1 e1 w1 p1 r1 => p1 F G1 H1 σ w1 (s.mono e1) _ fun v2 d2 S2 G2 H2 e2 w2 p2 r2 =>
    p2 F G2 H2 v1 v2 w2 (r1.mono e2) r2 _ fun v3 d3 S3 G3 H3 e3 w3 ⟨c, ec, q1, q2⟩ r3 => by
      subst ec
      cases r3
      refine ⟨c, rfl, ?_⟩
      cases c with
      | true =>
        show tc σ H3 _
        exact q1 rfl F G3 H3 σ w3 (s.mono ((e1.trans e2).trans e3)) _ fun v4 d4 S4 G4 H4 e4 w4 p4 r4 => p4 F G4 H4 v2 v4 w4 (r2.mono (e3.trans e4)) r4 Q (k.mono (((e1.trans e2).trans e3).trans e4))
      | false => exact k _ _ _ _ _ ((e1.trans e2).trans e3) w3 (q2 rfl) .bl
end

/-! ### statements -/
section
variable {K : PySem.W.Frag} {S : Sto} {ρ : Env} {ta tb te tc : TE} {tt tu : TT} {ts tr : TS} {E : DE} {d x y : D} {g : TG}
theorem sx_seq (h : Sx S ρ ts { E with nx := fun S' ρ' => Sx S' ρ' tr E }) : Sx S ρ (tSeq ts tr) E := fun F G H σ w s N c =>
  h F G H σ w s _ ⟨fun S' ρ' G' H' σ' e w' s' p => p F G' H' σ' w' s' N (c.mono e), c.rt, c.bk, c.ct⟩
theorem sx_next (h : E.nx S ρ) : Sx S ρ tNext E := fun F G H σ w s N c => c.nx _ _ _ _ _ (Same.refl _) w s h
theorem sx_break (h : E.bk S ρ) : Sx S ρ tBreak E := fun F G H σ w s N c => c.bk _ _ _ _ _ (Same.refl _) w s h
theorem gd_name {i : Nat} {P : Sto → Env → Prop} (h : P S (ρ.set i (some d))) : GD S ρ (gName i) d P := fun F G H σ v w s r Q k => k _ _ _ _ _ (Same.refl _) w (s.set r i) h
theorem sx_asgG (h : Ev S ρ te fun S1 x => GD S1 ρ g x E.nx) : Sx S ρ (tAsg te g) E := fun F G H σ w s N c =>
  h F G H σ w s _ fun v1 d1 S1 G1 H1 e1 w1 p1 r1 => p1 F G1 H1 σ v1 w1 (s.mono e1) r1 _ fun S' ρ' G' H' σ' e w' s' p => c.nx _ _ _ _ _ (e1.trans e) w' s' p
theorem sx_asg {i : Nat} (h : Ev S ρ te fun S1 x => E.nx S1 (ρ.set i (some x))) : Sx S ρ (tAsg te (gName i)) E := sx_asgG (ev_mono h fun _ _ p => gd_name p)
theorem sx_drop (h : Ev S ρ te fun S1 _ => E.nx S1 ρ) : Sx S ρ (tDrop te) E := fun F G H σ w s N c =>
  h F G H σ w s _ fun v1 d1 S1 G1 H1 e1 w1 p1 r1 => c.nx _ _ _ _ _ e1 w1 (s.mono e1) p1
theorem sx_ret (h : Ev S ρ te E.rt) : Sx S ρ (tRet te) E := fun F G H σ w s N c =>
  h F G H σ w s _ fun v1 d1 S1 G1 H1 e1 w1 p1 r1 => c.rt _ _ _ _ _ e1 w1 r1 p1
theorem sx_if (h : EvT S ρ tt fun S1 b => (b = true → Sx S1 ρ ts E) ∧ (b = false → Sx S1 ρ tr E)) : Sx S ρ (tIfS tt ts tr) E := fun F G H σ w s N c =>
  h F G H σ w s _ fun b S1 G1 H1 e1 w1 ⟨p1, p2⟩ => by
    cases b with
    | true => exact p1 rfl F G1 H1 σ w1 (s.mono e1) N (c.mono e1)
    | false => exact p2 rfl F G1 H1 σ w1 (s.mono e1) N (c.mono e1)
theorem sx_aug {i : Nat} {f : Int → Int → Int} {a : Int} (hx : ρ[i]? = some (some (.int a))) (h : Ev S ρ te fun S1 x => ∃ b, x = .int b ∧ E.nx S1 (ρ.set i (some (.int (f a b))))) : Sx S ρ (tAug i te (ipI f)) E := fun F G H σ w s N c => by
  obtain ⟨v, h1, h2⟩ := s.at_ i _ hx
  cases h2
  refine ⟨_, h1, h F G H σ w s _ fun v1 d1 S1 G1 H1 e1 w1 ⟨b, ed, p1⟩ r1 => ?_⟩
  subst ed
  cases r1
  exact ⟨a, b, rfl, rfl, c.nx _ _ _ _ _ e1 w1 ((s.mono e1).set .int i) p1⟩
theorem sx_mono {E' : DE} (h : Sx S ρ ts E') (h1 : ∀ S ρ, E'.nx S ρ → E.nx S ρ) (h2 : ∀ S d, E'.rt S d → E.rt S d) (h3 : ∀ S ρ, E'.bk S ρ → E.bk S ρ) (h4 : ∀ S ρ, E'.ct S ρ → E.ct S ρ) : Sx S ρ ts E := fun F G H σ w s N c =>
  h F G H σ w s N ⟨fun S' ρ' G' H' σ' e w' s' p => c.nx _ _ _ _ _ e w' s' (h1 _ _ p), fun S' d v G' H' e w' r p => c.rt _ _ _ _ _ e w' r (h2 _ _ p), fun S' ρ' G' H' σ' e w' s' p => c.bk _ _ _ _ _ e w' s' (h3 _ _ p), fun S' ρ' G' H' σ' e w' s' p => c.ct _ _ _ _ _ e w' s' (h4 _ _ p)⟩
/-- fewer cells, fewer slots are told -/
theorem sx_less {S' : Sto} {ρ' : Env} (l : SLe S' S) (hl : ρ'.length = ρ.length) (hr : ∀ (i : Nat) (d : D), ρ'[i]? = some (some d) → ρ[i]? = some (some d)) (h : Sx S' ρ' ts E) : Sx S ρ ts E := fun F G H σ w s N c => h F G H σ (w.less l) (s.weak hl hr) N c
/-- o.f = e, o a cell -/
def putN (f : Str) (d : D) : List Str → List D → List Str × List D
  | n :: ns, x :: l => if n = f then (n :: ns, d :: l) else (n :: (putN f d ns l).1, x :: (putN f d ns l).2)
  | _, _ => ([f], [d])
theorem putN_rep {G : Hp} {f : Str} {d : D} {v : V} (h : Rep G d v) : ∀ {fs : List (Str × V)} {l : List D}, Reps G l (fs.map (·.2)) →
    (putF f v fs).map (·.1) = (putN f d (fs.map (·.1)) l).1 ∧ Reps G (putN f d (fs.map (·.1)) l).2 ((putF f v fs).map (·.2))
  | [], _, r => by
    cases r
    exact ⟨rfl, .cons h .nil⟩
  | (n, z) :: fs, _, r => by
    cases r with
    | @cons d0 v0 l0 xs0 hr ht =>
      by_cases hn : n = f
      · have e1 : putF f v ((n, z) :: fs) = (n, v) :: fs := if_pos hn
        have e2 : putN f d (((n, z) :: fs).map (·.1)) (d0 :: l0) = (n :: fs.map (·.1), d :: l0) := if_pos hn
        rw [e1, e2]
        exact ⟨rfl, .cons h ht⟩
      · have e1 : putF f v ((n, z) :: fs) = (n, z) :: putF f v fs := if_neg hn
        have e2 : putN f d (((n, z) :: fs).map (·.1)) (d0 :: l0) = (n :: (putN f d (fs.map (·.1)) l0).1, d0 :: (putN f d (fs.map (·.1)) l0).2) := if_neg hn
        obtain ⟨i1, i2⟩ := putN_rep h (fs := fs) ht
        rw [e1, e2]
        exact ⟨congrArg (n :: ·) i1, .cons hr i2⟩
theorem sx_fld {f : Str} (h : Ev S ρ te fun S1 y => Ev S1 ρ ta fun S2 x => ∃ a C ns l, x = .ref a ∧ S2 a = some (.ins C ns l) ∧ Cls K C ∧ NoAttr K C f ∧ ns.length < 1000 ∧ E.nx (S2.put a (.ins C (putN f y ns l).1 (putN f y ns l).2)) ρ) : Sx S ρ (sFld K ta te f) E := fun F G H σ w s N c =>
  h F G H σ w s _ fun v1 d1 S1 G1 H1 e1 w1 p1 r1 => p1 F G1 H1 σ w1 (s.mono e1) _ fun v2 d2 S2 G2 H2 e2 w2 ⟨a, C, ns, l, ex, hs, hc, hn, hl, p⟩ r2 => by
    subst ex
    cases r2
    obtain ⟨_, o, ho, cr⟩ := w2.hid a _ hs
    cases cr with
    | @ins _ dx fs _ _ e r =>
      subst e
      obtain ⟨i1, i2⟩ := putN_rep (f := f) (r1.mono e2) r
      exact ⟨a, C, dx, fs, rfl, ho, hc, hn, by rw [← List.length_map (f := Prod.fst)]; exact hl, c.nx _ _ _ _ _ (e1.trans e2) (w2.mut hs (.ins i1 i2)) (s.mono (e1.trans e2)) p⟩
/-- while: W, a word of the measure, the cells and the slots -/
theorem sx_while (W : Nat → Sto → Env → Prop) (m0 : Nat) (h0 : W m0 S ρ)
    (hs : ∀ m S' ρ', W m S' ρ' → EvT S' ρ' tt fun S1 b => (b = true → Sx S1 ρ' ts { E with nx := fun S2 ρ2 => ∃ m', m' < m ∧ W m' S2 ρ2, ct := fun S2 ρ2 => ∃ m', m' < m ∧ W m' S2 ρ2, bk := E.nx }) ∧ (b = false → E.nx S1 ρ')) : Sx S ρ (tWhile tt ts) E := fun F G H σ w s N c => by
  refine ⟨fun m σ' H' => ∃ S' ρ' G', Same G G' ∧ Wd S' F G' H' ∧ Slots G' ρ' σ' ∧ W m S' ρ', ⟨m0, S, ρ, G, Same.refl _, w, s, h0⟩, ?_⟩
  rintro m σ' H' ⟨S', ρ', G', e', w', s', hw⟩
  refine hs m S' ρ' hw F G' H' σ' w' s' _ fun b S1 G1 H1 e1 w1 ⟨p1, p2⟩ => ?_
  cases b with
  | true =>
    show ∃ N' : L2.St → Hp → Prop, _
    refine ⟨fun σ2 H2 => ∃ m', m' < m ∧ ∃ S2 ρ2 G2, Same G G2 ∧ Wd S2 F G2 H2 ∧ Slots G2 ρ2 σ2 ∧ W m' S2 ρ2, fun σ2 H2 q => q, ?_⟩
    exact p1 rfl F G1 H1 σ' w1 (s'.mono e1) _ ⟨fun S2 ρ2 G2 H2 σ2 e2 w2 s2 ⟨m', hm, q⟩ => ⟨m', hm, S2, ρ2, G2, (e'.trans e1).trans e2, w2, s2, q⟩,
      fun S2 d v G2 H2 e2 w2 r2 q => c.rt _ _ _ _ _ ((e'.trans e1).trans e2) w2 r2 q, fun S2 ρ2 G2 H2 σ2 e2 w2 s2 q => c.nx _ _ _ _ _ ((e'.trans e1).trans e2) w2 s2 q,
      fun S2 ρ2 G2 H2 σ2 e2 w2 s2 ⟨m', hm, q⟩ => ⟨m', hm, S2, ρ2, G2, (e'.trans e1).trans e2, w2, s2, q⟩⟩
  | false => exact c.nx _ _ _ _ _ (e'.trans e1) w1 (s'.mono e1) (p2 rfl)
/-- the name's value, a cell, is for good from here on -/
theorem sx_frz {a : Addr} {l : List D} (h0 : S a = some (.lst l)) (S' : Sto) (ρ' : Env) (hl : ρ'.length = ρ.length)
    (hr : ∀ (i : Nat) (d : D), ρ'[i]? = some (some d) → ρ[i]? = some (some d) ∨ (ρ[i]? = some (some (.ref a)) ∧ d = .lst l)) (hS : SLe S' (S.del a)) (h : Sx S' ρ' ts E) : Sx S ρ ts E := fun F G H σ w s N c => by
  obtain ⟨o, ho, cr, g0, w2⟩ := w.frz h0
  cases cr with
  | @lst _ xs rs =>
    have e := same_new (o := HO.lst xs) g0
    refine h F _ H σ (w2.less hS) ⟨hl.trans s.len, fun i d hi => ?_⟩ N (c.mono e)
    rcases hr i d hi with q | ⟨q, ed⟩
    · obtain ⟨v, h1, h2⟩ := s.at_ i d q
      exact ⟨v, h1, h2.mono e⟩
    · obtain ⟨v, h1, h2⟩ := s.at_ i _ q
      cases h2
      subst ed
      exact ⟨_, h1, .lst upd_same (rs.mono e)⟩
/-- a cell is told by other data of the same things: a, a cell, stands for good, and the cell at p names it -/
theorem sx_frzF {a p : Addr} {l : List D} {C : Addr} {ns : List Str} {fs fs' : List D} (h0 : S a = some (.lst l)) (hp : S p = some (.ins C ns fs)) (hap : p ≠ a)
    (hf : fs'.length = fs.length ∧ ∀ (i : Nat) (d : D), fs'[i]? = some d → fs[i]? = some d ∨ (fs[i]? = some (.ref a) ∧ d = .lst l)) (h : Sx ((S.del a).put p (.ins C ns fs')) ρ ts E) : Sx S ρ ts E := fun F G H σ w s N c => by
  obtain ⟨o, ho, cr, g0, w2⟩ := w.frz h0
  cases cr with
  | @lst _ xs rs =>
    have e := same_new (o := HO.lst xs) g0
    have hp2 : (S.del a) p = some (.ins C ns fs) := by
      rw [del_ne hap]
      exact hp
    obtain ⟨gp, o2, ho2, cr2⟩ := w2.hid p _ hp2
    refine h F _ H σ ⟨w2.ext, fun b c' hb => ?_, fun b u hb => ?_⟩ (s.mono e) N (c.mono e)
    · by_cases hbp : b = p
      · subst hbp
        rw [put_same] at hb
        cases hb
        refine ⟨gp, o2, ho2, ?_⟩
        cases cr2 with
        | @ins _ dx fv _ _ en rv =>
          refine .ins en ?_
          have hlen : fs'.length = (fv.map (·.2)).length := hf.1.trans rv.length
          have all : ∀ (l1 : List D) (l2 : List V), l1.length = l2.length → (∀ (i : Nat) (d : D), l1[i]? = some d → ∃ v, l2[i]? = some v ∧ Rep (upd G a (.lst xs)) d v) → Reps (upd G a (.lst xs)) l1 l2 := by
            intro l1
            induction l1 with
            | nil =>
              intro l2 hl _
              cases l2 with
              | nil => exact .nil
              | cons _ _ => cases hl
            | cons d0 l1 ih =>
              intro l2 hl hh
              cases l2 with
              | nil => cases hl
              | cons v0 l2 =>
                obtain ⟨v, q1, q2⟩ := hh 0 d0 rfl
                cases q1
                exact .cons q2 (ih l2 (Nat.succ.inj hl) fun i d hi => hh (i + 1) d hi)
          refine all _ _ hlen fun i d hi => ?_
          rcases hf.2 i d hi with q | ⟨q, ed⟩
          · exact rv.get q
          · obtain ⟨v, h1, h2⟩ := rv.get q
            cases h2
            subst ed
            exact ⟨_, h1, .lst upd_same (rs.mono e)⟩
      · rw [put_ne hbp] at hb
        exact w2.hid b c' hb
    · obtain ⟨q1, q2, q3⟩ := w2.frm b u hb
      have nb : b ≠ p := fun z => by
        rw [z, hp2] at q3
        cases q3
      exact ⟨q1, q2, by rw [put_ne nb]; exact q3⟩
end
end AK
set_option Elab.async false
set_option linter.all false
set_option maxRecDepth 100000
set_option maxHeartbeats 4000000
/-! Operators and built-ins over data. -/
namespace AK
open PySem PySem.Spec PyProof.Rows L2
section
variable {K : PySem.W.Frag} {S : Sto} {ρ : Env} {P : Sto → D → Prop} {d x y : D}
/-! ### ints -/
theorem rd_int {f : Int → Int → Int} {i j : Int} (q : P S (.int (f i j))) : R2D (rI0 fun i j => .int (f i j)) S (.int i) (.int j) P := fun F G H vx vy w r1 r2 Q k => by
  cases r1
  cases r2
  exact ⟨i, j, rfl, rfl, k _ _ _ _ _ (Same.refl _) w q .int⟩
theorem rd_intC {C : Int → Int → Prop} {f : Int → Int → Int} {i j : Int} (hc : C i j) (q : P S (.int (f i j))) : R2D (rI C fun i j => .int (f i j)) S (.int i) (.int j) P := fun F G H vx vy w r1 r2 Q k => by
  cases r1
  cases r2
  exact ⟨i, j, rfl, rfl, hc, k _ _ _ _ _ (Same.refl _) w q .int⟩
theorem rd_cmp {f : Int → Int → Bool} {i j : Int} (q : P S (.bl (f i j))) : R2D (rI0 fun i j => .bl (f i j)) S (.int i) (.int j) P := fun F G H vx vy w r1 r2 Q k => by
  cases r1
  cases r2
  exact ⟨i, j, rfl, rfl, k _ _ _ _ _ (Same.refl _) w q .bl⟩
theorem r1_neg {i : Int} {f : Int → Int} (q : P S (.int (f i))) : R1D (rU fun i => .int (f i)) S (.int i) P := fun F G H vx w r1 Q k => by
  cases r1
  exact ⟨i, rfl, k _ _ _ _ _ (Same.refl _) w q .int⟩
theorem dec_int (i j : Int) : decide (V.int i = V.int j) = decide (i = j) := by simp
theorem dec_str (i j : Str) : decide (V.str i = V.str j) = decide (i = j) := by simp
theorem dec_bl (i j : Bool) : decide (V.bl i = V.bl j) = decide (i = j) := by simp
theorem rd_eqI {i j : Int} (q : P S (.bl (decide (i = j)))) : R2D rEq S (.int i) (.int j) P := fun F G H vx vy w r1 r2 Q k => by
  cases r1
  cases r2
  exact ⟨rfl, by rw [dec_int]; exact k _ _ _ _ _ (Same.refl _) w q .bl⟩
theorem rd_neI {i j : Int} (q : P S (.bl (!decide (i = j)))) : R2D rNe S (.int i) (.int j) P := fun F G H vx vy w r1 r2 Q k => by
  cases r1
  cases r2
  exact ⟨rfl, by rw [dec_int]; exact k _ _ _ _ _ (Same.refl _) w q .bl⟩
theorem rd_eqS {i j : Str} (q : P S (.bl (decide (i = j)))) : R2D rEq S (.str i) (.str j) P := fun F G H vx vy w r1 r2 Q k => by
  cases r1
  cases r2
  exact ⟨rfl, by rw [dec_str]; exact k _ _ _ _ _ (Same.refl _) w q .bl⟩
theorem rd_neS {i j : Str} (q : P S (.bl (!decide (i = j)))) : R2D rNe S (.str i) (.str j) P := fun F G H vx vy w r1 r2 Q k => by
  cases r1
  cases r2
  exact ⟨rfl, by rw [dec_str]; exact k _ _ _ _ _ (Same.refl _) w q .bl⟩
theorem rd_neB {i j : Bool} (q : P S (.bl (!decide (i = j)))) : R2D rNe S (.bl i) (.bl j) P := fun F G H vx vy w r1 r2 Q k => by
  cases r1
  cases r2
  exact ⟨rfl, by rw [dec_bl]; exact k _ _ _ _ _ (Same.refl _) w q .bl⟩
/-! ### None, True -/
def isNon : D → Bool
  | .non => true
  | _ => false
theorem rep_non {G : Hp} {v : V} (r : Rep G x v) : decide (v = .non) = isNon x := by
  cases r <;> simp [isNon]
def rIsNone : R2 := fun x y H Q => y = .non ∧ Q (.bl (decide (x = .non))) H
def rNotNone : R2 := fun x y H Q => y = .non ∧ Q (.bl (!decide (x = .non))) H
theorem oIsN {X : Cx} : OpR X (compareOp .Is) rIsNone := op_isN
theorem oNotN {X : Cx} : OpR X (compareOp .IsNot) rNotNone := op_notN
theorem rd_isN (q : P S (.bl (isNon x))) : R2D rIsNone S x .non P := fun F G H vx vy w r1 r2 Q k => by
  cases r2
  exact ⟨rfl, by rw [rep_non r1]; exact k _ _ _ _ _ (Same.refl _) w q .bl⟩
theorem rd_notN (q : P S (.bl (!isNon x))) : R2D rNotNone S x .non P := fun F G H vx vy w r1 r2 Q k => by
  cases r2
  exact ⟨rfl, by rw [rep_non r1]; exact k _ _ _ _ _ (Same.refl _) w q .bl⟩
theorem rd_notB {a b : Bool} (q : P S (.bl (!decide (a = b)))) : R2D rNotB S (.bl a) (.bl b) P := fun F G H vx vy w r1 r2 Q k => by
  cases r1
  cases r2
  exact ⟨a, b, rfl, rfl, k _ _ _ _ _ (Same.refl _) w q .bl⟩
/-! ### texts -/
def rAddStr : R2 := fun x y H Q => ∃ i j, x = .str i ∧ y = .str j ∧ i.length + j.length ≤ sizeLine ∧ Q (.str (i ++ j)) H
theorem oAddStr {X : Cx} : OpR X (binaryOp .Add) rAddStr := op_add_str
theorem rd_addS {i j : Str} (hz : i.length + j.length ≤ 16777216) (q : P S (.str (i ++ j))) : R2D rAddStr S (.str i) (.str j) P := fun F G H vx vy w r1 r2 Q k => by
  cases r1
  cases r2
  exact ⟨i, j, rfl, rfl, by rw [sizeLine_eq]; exact hz, k _ _ _ _ _ (Same.refl _) w q .str⟩
def rInSign : R2 := fun x y H Q => ∃ (c : Nat) (z : Str), x = .str ⟨#[c]⟩ ∧ y = .str z ∧ Q (.bl (decide (c ∈ z.cps.toList))) H
def rNotInSign : R2 := fun x y H Q => ∃ (c : Nat) (z : Str), x = .str ⟨#[c]⟩ ∧ y = .str z ∧ Q (.bl (!decide (c ∈ z.cps.toList))) H
theorem oInSign {X : Cx} : OpR X (compareOp .In) rInSign := op_in_sign
theorem oNotInSign {X : Cx} : OpR X (compareOp .NotIn) rNotInSign := op_notIn_sign
theorem rd_inS {c : Nat} {z : Str} (q : P S (.bl (decide (c ∈ z.cps.toList)))) : R2D rInSign S (.str ⟨#[c]⟩) (.str z) P := fun F G H vx vy w r1 r2 Q k => by
  cases r1
  cases r2
  exact ⟨c, z, rfl, rfl, k _ _ _ _ _ (Same.refl _) w q .bl⟩
theorem rd_ninS {c : Nat} {z : Str} (q : P S (.bl (!decide (c ∈ z.cps.toList)))) : R2D rNotInSign S (.str ⟨#[c]⟩) (.str z) P := fun F G H vx vy w r1 r2 Q k => by
  cases r1
  cases r2
  exact ⟨c, z, rfl, rfl, k _ _ _ _ _ (Same.refl _) w q .bl⟩
/-! ### items, slices -/
theorem Reps.atI {G : Hp} {l : List D} {xs : List V} {i : Int} (r : Reps G l xs) (h : L2.atI l i = some d) : ∃ v, L2.atI xs i = some v ∧ Rep G d v := by
  unfold L2.atI at h ⊢
  rw [← r.length]
  cases e : ixN l.length i with
  | none =>
    rw [e] at h
    cases h
  | some j =>
    rw [e] at h
    exact r.get h
theorem rd_ixL {l : List D} {i : Int} (h : LV S x l) (hi : L2.atI l i = some d) (q : P S d) : R2D (rIxL K) S x (.int i) P := fun F G H vx vy w r1 r2 Q k => by
  cases r2
  obtain ⟨a, xs, rfl, ha, r⟩ := h.at_ w r1
  obtain ⟨v, h1, h2⟩ := r.atI hi
  exact ⟨a, xs, i, v, rfl, rfl, SqL.of ha, h1, k _ _ _ _ _ (Same.refl _) w q h2⟩
theorem rd_ixT {l : List D} {i : Int} (hi : L2.atI l i = some d) (q : P S d) : R2D (rIxT K) S (.tup l) (.int i) P := fun F G H vx vy w r1 r2 Q k => by
  cases r2
  cases r1 with
  | tup ha r =>
    obtain ⟨v, h1, h2⟩ := r.atI hi
    exact ⟨_, _, i, v, rfl, rfl, SqT.of (w.ext _ _ ha), h1, k _ _ _ _ _ (Same.refl _) w q h2⟩
theorem rd_ixS {z : Str} {i : Int} {c : Nat} (hz : z.length ≤ 16777216) (hi : L2.atI z.cps.toList i = some c) (q : P S (.str ⟨#[c]⟩)) : R2D rIxS S (.str z) (.int i) P := fun F G H vx vy w r1 r2 Q k => by
  cases r2
  cases r1
  exact ⟨z, i, c, rfl, rfl, by rw [sizeLine_eq]; exact hz, hi, k _ _ _ _ _ (Same.refl _) w q .str⟩
theorem ev_sl {r : V → Option Int → Option Int → Hp → VK → Prop} {te : TE} {tl th : TO}
    (h : Ev S ρ te fun S1 x => EvO S1 ρ tl fun S2 lo => EvO S2 ρ th fun S3 hi => ∀ F G H vx, Wd S3 F G H → Rep G x vx → ∀ Q, Pq F G P Q → r vx lo hi H Q) : Ev S ρ (tSl r te tl th) P := fun F G H σ w s Q k =>
  h F G H σ w s _ fun v1 d1 S1 G1 H1 e1 w1 p1 r1 => p1 F G1 H1 σ w1 (s.mono e1) _ fun lo S2 G2 H2 e2 w2 p2 => p2 F G2 H2 σ w2 (s.mono (e1.trans e2)) _ fun hi S3 G3 H3 e3 w3 p3 =>
    p3 F G3 H3 v1 w3 (r1.mono (e2.trans e3)) Q (k.mono ((e1.trans e2).trans e3))
theorem evO_none {PO' : Sto → Option Int → Prop} (h : PO' S none) : EvO S ρ tNoPart PO' := fun F G H σ w s Q k => k _ _ _ _ (Same.refl _) w h
theorem evO_some {PO' : Sto → Option Int → Prop} {te : TE} (h : Ev S ρ te fun S1 x => ∃ i, x = .int i ∧ PO' S1 (some i)) : EvO S ρ (tPart te) PO' := fun F G H σ w s Q k =>
  h F G H σ w s _ fun v1 d1 S1 G1 H1 e1 w1 ⟨i, ei, p⟩ r1 => by
    subst ei
    cases r1
    exact ⟨i, rfl, k _ _ _ _ e1 w1 p⟩
def cutD (l : List D) (lo hi : Option Int) : List D := (l.drop (HT.sIx l.length 0 lo)).take (HT.sIx l.length l.length hi - HT.sIx l.length 0 lo)
theorem Reps.cut {G : Hp} {l : List D} {xs : List V} (r : Reps G l xs) (lo hi : Option Int) : Reps G (cutD l lo hi) (cutV xs lo hi) := by
  unfold cutD cutV
  rw [← r.length]
  exact (r.drop _).take _
/-- the readings of a slice, by values -/
def SlD (r : V → Option Int → Option Int → Hp → VK → Prop) (S : Sto) (x : D) (lo hi : Option Int) (P : Sto → D → Prop) : Prop := ∀ F G H vx, Wd S F G H → Rep G x vx → ∀ Q, Pq F G P Q → r vx lo hi H Q
theorem sl_L {l : List D} {lo hi : Option Int} (h : LV S x l) (q : P S (.lst (cutD l lo hi))) : SlD (rSlL K) S x lo hi P := fun F G H vx w r1 Q k => by
  obtain ⟨a, xs, rfl, ha, r⟩ := h.at_ w r1
  exact ⟨a, xs, rfl, SqL.of ha, fun p hp => k _ _ _ _ _ (same_new (w.gfree hp)) (w.newD hp) q (.lst upd_same ((r.cut lo hi).mono (same_new (w.gfree hp))))⟩
/-! ### in, not in -/
theorem in_ints {i : Int} {ns : List Int} : inV (.int i) (ns.map V.int) = decide (i ∈ ns) := by
  unfold inV
  induction ns with
  | nil => rfl
  | cons n ns ih =>
    rw [List.map_cons, List.any_cons, ih]
    show ((n == i) || decide (i ∈ ns)) = decide (i ∈ n :: ns)
    by_cases h : n = i
    · subst h
      simp
    · have h2 : ¬ i = n := fun e => h e.symm
      simp [h, h2]
theorem in_strs {i : Str} {ns : List Str} : inV (.str i) (ns.map V.str) = decide (i ∈ ns) := by
  unfold inV
  induction ns with
  | nil => rfl
  | cons n ns ih =>
    rw [List.map_cons, List.any_cons, ih]
    show ((n == i) || decide (i ∈ ns)) = decide (i ∈ n :: ns)
    by_cases h : n = i
    · subst h
      simp
    · have h2 : ¬ i = n := fun e => h e.symm
      simp [h, h2]
theorem flat_ints (ns : List Int) : (ns.map V.int).all flatV = true := by
  induction ns with
  | nil => rfl
  | cons n ns ih => rw [List.map_cons, List.all_cons, ih]; rfl
theorem flat_strs (ns : List Str) : (ns.map V.str).all flatV = true := by
  induction ns with
  | nil => rfl
  | cons n ns ih => rw [List.map_cons, List.all_cons, ih]; rfl
theorem rd_inI {i : Int} {ns : List Int} (h : LV S y (ns.map D.int)) (q : P S (.bl (decide (i ∈ ns)))) : R2D (rIn K false) S (.int i) y P := fun F G H vx vy w r1 r2 Q k => by
  cases r1
  obtain ⟨a, xs, rfl, ha, r⟩ := h.at_ w r2
  rw [r.ints] at ha
  exact ⟨a, _, rfl, .inl (SqL.of ha), rfl, flat_ints ns, by rw [in_ints]; exact k _ _ _ _ _ (Same.refl _) w q .bl⟩
theorem rd_ninI {i : Int} {ns : List Int} (h : LV S y (ns.map D.int)) (q : P S (.bl (!decide (i ∈ ns)))) : R2D (rIn K true) S (.int i) y P := fun F G H vx vy w r1 r2 Q k => by
  cases r1
  obtain ⟨a, xs, rfl, ha, r⟩ := h.at_ w r2
  rw [r.ints] at ha
  exact ⟨a, _, rfl, .inl (SqL.of ha), rfl, flat_ints ns, by rw [in_ints]; exact k _ _ _ _ _ (Same.refl _) w q .bl⟩
theorem rd_ninStr {i : Str} {ns : List Str} (h : LV S y (ns.map D.str)) (q : P S (.bl (!decide (i ∈ ns)))) : R2D (rIn K true) S (.str i) y P := fun F G H vx vy w r1 r2 Q k => by
  cases r1
  obtain ⟨a, xs, rfl, ha, r⟩ := h.at_ w r2
  rw [r.strs] at ha
  exact ⟨a, _, rfl, .inl (SqL.of ha), rfl, flat_strs ns, by rw [in_strs]; exact k _ _ _ _ _ (Same.refl _) w q .bl⟩
/-! ### lists and tuples put together -/
theorem rd_cat {l m : List D} (hx : LV S x l) (hy : LV S y m) (hz : l.length + m.length ≤ 16777216) (q : P S (.lst (l ++ m))) : R2D rCat S x y P := fun F G H vx vy w r1 r2 Q k => by
  obtain ⟨a, xs, rfl, ha, r⟩ := hx.at_ w r1
  obtain ⟨b, ys, rfl, hb, r'⟩ := hy.at_ w r2
  exact ⟨a, b, xs, ys, rfl, rfl, ha, hb, by rw [← r.length, ← r'.length, sizeLine_eq]; exact hz, fun p hp => k _ _ _ _ _ (same_new (w.gfree hp)) (w.newD hp) q (.lst upd_same ((r.append r').mono (same_new (w.gfree hp))))⟩
theorem rd_catT {l m : List D} (hz : l.length + m.length ≤ 16777216) (q : P S (.tup (l ++ m))) : R2D (rCatA K) S (.tup l) (.tup m) P := fun F G H vx vy w r1 r2 Q k => by
  cases r1 with
  | @tup a _ xs ha r =>
    cases r2 with
    | @tup b _ ys hb r' =>
      refine ⟨a, b, xs, ys, rfl, rfl, SqT.of (w.ext _ _ ha), SqT.of (w.ext _ _ hb), by rw [← r.length, ← r'.length, sizeLine_eq]; exact hz, fun e => ?_, fun e e2 => ?_, fun e e2 p hp => ?_⟩
      · subst e
        cases r
        exact k _ _ _ _ _ (Same.refl _) w q (.tup hb r')
      · subst e2
        cases r'
        exact k _ _ _ _ _ (Same.refl _) w q (.tup ha (by rw [List.append_nil]; exact r))
      · exact k _ _ _ _ _ (same_new (w.gfree hp)) (w.newD hp) q (.tup upd_same ((r.append r').mono (same_new (w.gfree hp))))
theorem Reps.rep {G : Hp} {l : List D} {xs : List V} (r : Reps G l xs) : ∀ n : Nat, Reps G (List.replicate n l).flatten (List.replicate n xs).flatten
  | 0 => .nil
  | n + 1 => by
    rw [List.replicate_succ, List.replicate_succ, List.flatten_cons, List.flatten_cons]
    exact r.append (Reps.rep r n)
theorem rd_rep {l : List D} {n : Int} (hx : LV S x l) (h1 : -(2 ^ 63) ≤ n) (h2 : n < 2 ^ 63) (hz : l.length * n.toNat ≤ 16777216) (q : P S (.lst (List.replicate n.toNat l).flatten)) : R2D rRep S x (.int n) P := fun F G H vx vy w r1 r2 Q k => by
  cases r2
  obtain ⟨a, xs, rfl, ha, r⟩ := hx.at_ w r1
  exact ⟨a, n, xs, rfl, rfl, ha, h1, h2, by rw [← r.length, sizeLine_eq]; exact hz, fun p hp => k _ _ _ _ _ (same_new (w.gfree hp)) (w.newD hp) q (.lst upd_same ((r.rep _).mono (same_new (w.gfree hp))))⟩
/-- the product is a cell -/
theorem rd_repH {l : List D} {n : Int} (hx : LV S x l) (h1 : -(2 ^ 63) ≤ n) (h2 : n < 2 ^ 63) (hz : l.length * n.toNat ≤ 16777216) (q : ∀ p, S p = none → P (S.put p (.lst (List.replicate n.toNat l).flatten)) (.ref p)) : R2D rRep S x (.int n) P := fun F G H vx vy w r1 r2 Q k => by
  cases r2
  obtain ⟨a, xs, rfl, ha, r⟩ := hx.at_ w r1
  exact ⟨a, n, xs, rfl, rfl, ha, h1, h2, by rw [← r.length, sizeLine_eq]; exact hz, fun p hp => k _ _ _ _ _ (Same.refl _) (w.newH hp (.lst (r.rep _))) (q p (w.sfree hp)) .ref⟩
/-! ### built-ins -/
def rLenD (K : PySem.W.Frag) : List V → Hp → VK → Prop := fun xs H Q => ∃ x n, xs = [x] ∧ LenV K x H n ∧ Q (.int n) H
theorem oLen {X : Cx} : CallR X (.builtin "len") (rLenD X.K) := call_len
def LenD (S : Sto) (x : D) (n : Nat) : Prop := (∃ l, LV S x l ∧ n = l.length) ∨ (∃ l, x = .tup l ∧ n = l.length) ∨ ∃ s, x = .str s ∧ s.length ≤ 16777216 ∧ n = s.length
theorem rc_len {n : Nat} (h : LenD S x n) (q : P S (.int n)) : RCD (rLenD K) S [x] P := fun F G H vs w r Q k => by
  cases r with
  | cons r t =>
    cases t
    refine ⟨_, n, rfl, ?_, k _ _ _ _ _ (Same.refl _) w q .int⟩
    rcases h with ⟨l, hl, e⟩ | ⟨l, el, e⟩ | ⟨s, es, hs, e⟩
    · obtain ⟨a, xs, rfl, ha, rr⟩ := hl.at_ w r
      exact .inl ⟨xs, SqL.of ha, e.trans rr.length⟩
    · subst el
      cases r with
      | tup ha rr => exact .inr ⟨_, SqT.of (w.ext _ _ ha), e.trans rr.length⟩
    · subst es
      cases r
      exact ⟨by rw [sizeLine_eq]; exact hs, e⟩
theorem rc_lenL {l : List D} (h : LV S x l) (q : P S (.int l.length)) : RCD (rLenD K) S [x] P := rc_len (.inl ⟨l, h, rfl⟩) q
theorem rc_lenT {l : List D} (q : P S (.int l.length)) : RCD (rLenD K) S [.tup l] P := rc_len (.inr (.inl ⟨l, rfl, rfl⟩)) q
theorem rc_lenS {s : Str} (h : s.length ≤ 16777216) (q : P S (.int s.length)) : RCD (rLenD K) S [.str s] P := rc_len (.inr (.inr ⟨s, rfl, h, rfl⟩)) q
theorem rc_all {bs : List Bool} (h : LV S x (bs.map D.bl)) (q : P S (.bl (bs.all id))) : RCD (rAll K) S [x] P := fun F G H vs w r Q k => by
  cases r with
  | cons r t =>
    cases t
    obtain ⟨a, xs, rfl, ha, rr⟩ := h.at_ w r
    rw [rr.bls] at ha
    exact ⟨a, bs, rfl, SqL.of ha, k _ _ _ _ _ (Same.refl _) w q .bl⟩
theorem rc_any {bs : List Bool} (h : LV S x (bs.map D.bl)) (q : P S (.bl (bs.any id))) : RCD (rAny K) S [x] P := fun F G H vs w r Q k => by
  cases r with
  | cons r t =>
    cases t
    obtain ⟨a, xs, rfl, ha, rr⟩ := h.at_ w r
    rw [rr.bls] at ha
    exact ⟨a, bs, rfl, SqL.of ha, k _ _ _ _ _ (Same.refl _) w q .bl⟩
theorem rc_sum {ns : List Int} (h : LV S x (ns.map D.int)) (q : P S (.int ns.sum)) : RCD (rSum K) S [x] P := fun F G H vs w r Q k => by
  cases r with
  | cons r t =>
    cases t
    obtain ⟨a, xs, rfl, ha, rr⟩ := h.at_ w r
    rw [rr.ints] at ha
    exact ⟨a, ns, rfl, SqL.of ha, k _ _ _ _ _ (Same.refl _) w q .int⟩
def rMax2 : List V → Hp → VK → Prop := fun xs H Q => ∃ i j, xs = [.int i, .int j] ∧ Q (.int (if j > i then j else i)) H
def rMin2 : List V → Hp → VK → Prop := fun xs H Q => ∃ i j, xs = [.int i, .int j] ∧ Q (.int (if j < i then j else i)) H
theorem oMax2 {X : Cx} (hc : X.calm = true) : CallR X (.builtin "max") rMax2 := call_max2 hc
theorem oMin2 {X : Cx} (hc : X.calm = true) : CallR X (.builtin "min") rMin2 := call_min2 hc
theorem rc_max2 {i j : Int} (q : P S (.int (if j > i then j else i))) : RCD rMax2 S [.int i, .int j] P := fun F G H vs w r Q k => by
  cases r with
  | cons r t =>
    cases t with
    | cons r' t =>
      cases t
      cases r
      cases r'
      exact ⟨i, j, rfl, k _ _ _ _ _ (Same.refl _) w q .int⟩
theorem rc_min2 {i j : Int} (q : P S (.int (if j < i then j else i))) : RCD rMin2 S [.int i, .int j] P := fun F G H vs w r Q k => by
  cases r with
  | cons r t =>
    cases t with
    | cons r' t =>
      cases t
      cases r
      cases r'
      exact ⟨i, j, rfl, k _ _ _ _ _ (Same.refl _) w q .int⟩
def rInt1 : List V → Hp → VK → Prop := fun xs H Q => (∃ i, xs = [.int i] ∧ Q (.int i) H) ∨ ∃ k, xs = [.bl k] ∧ Q (.int (if k then 1 else 0)) H
theorem oInt1 {X : Cx} : CallR X (.type "int") rInt1 := call_int1
theorem rc_int {i : Int} (q : P S (.int i)) : RCD rInt1 S [.int i] P := fun F G H vs w r Q k => by
  cases r with
  | cons r t =>
    cases t
    cases r
    exact .inl ⟨i, rfl, k _ _ _ _ _ (Same.refl _) w q .int⟩
def rListOf (K : PySem.W.Frag) : List V → Hp → VK → Prop := fun xs H Q => ∃ p ys, xs = [.ref p] ∧ (SqL K H p ys ∨ SqT K H p ys) ∧ ∀ l, H l = none → Q (.ref l) (upd H l (.lst ys))
theorem oListOf {X : Cx} : CallR X (.type "list") (rListOf X.K) := call_list_of
def SV (S : Sto) (x : D) (l : List D) : Prop := LV S x l ∨ x = .tup l
theorem SV.at_ {F G H : Hp} {v : V} {l : List D} (o : SV S x l) (w : Wd S F G H) (r : Rep G x v) : ∃ a xs, v = .ref a ∧ (SqL K H a xs ∨ SqT K H a xs) ∧ Reps G l xs := by
  rcases o with h | e
  · obtain ⟨a, xs, e, ha, rr⟩ := h.at_ w r
    exact ⟨a, xs, e, .inl (SqL.of ha), rr⟩
  · subst e
    cases r with
    | tup ha rr => exact ⟨_, _, rfl, .inr (SqT.of (w.ext _ _ ha)), rr⟩
theorem rc_list {l : List D} (h : SV S x l) (q : P S (.lst l)) : RCD (rListOf K) S [x] P := fun F G H vs w r Q k => by
  cases r with
  | cons r t =>
    cases t
    obtain ⟨a, xs, rfl, ha, rr⟩ := h.at_ w r
    exact ⟨a, xs, rfl, ha, fun p hp => k _ _ _ _ _ (same_new (w.gfree hp)) (w.newD hp) q (.lst upd_same (rr.mono (same_new (w.gfree hp))))⟩
theorem rc_listH {l : List D} (h : SV S x l) (q : ∀ p, S p = none → P (S.put p (.lst l)) (.ref p)) : RCD (rListOf K) S [x] P := fun F G H vs w r Q k => by
  cases r with
  | cons r t =>
    cases t
    obtain ⟨a, xs, rfl, ha, rr⟩ := h.at_ w r
    exact ⟨a, xs, rfl, ha, fun p hp => k _ _ _ _ _ (Same.refl _) (w.newH hp (.lst rr)) (q p (w.sfree hp)) .ref⟩
def rTupOf (K : PySem.W.Frag) : List V → Hp → VK → Prop := fun xs H Q => ∃ p ys, xs = [.ref p] ∧ ((SqL K H p ys ∧ ∀ l, H l = none → Q (.ref l) (upd H l (.tup ys))) ∨ (SqT K H p ys ∧ Q (.ref p) H))
theorem oTupOf {X : Cx} : CallR X (.type "tuple") (rTupOf X.K) := call_tuple_of
theorem rc_tuple {l : List D} (h : SV S x l) (q : P S (.tup l)) : RCD (rTupOf K) S [x] P := fun F G H vs w r Q k => by
  cases r with
  | cons r t =>
    cases t
    rcases h with h | e
    · obtain ⟨a, xs, rfl, ha, rr⟩ := h.at_ w r
      exact ⟨a, xs, rfl, .inl ⟨SqL.of ha, fun p hp => k _ _ _ _ _ (same_new (w.gfree hp)) (w.newD hp) q (.tup upd_same (rr.mono (same_new (w.gfree hp))))⟩⟩
    · subst e
      cases r with
      | tup ha rr => exact ⟨_, _, rfl, .inr ⟨SqT.of (w.ext _ _ ha), k _ _ _ _ _ (Same.refl _) w q (.tup ha rr)⟩⟩
theorem rc_sortedI {ns : List Int} (h : LV S x (ns.map D.int)) (hl : ns.length < 64) (q : ∀ ns' : List Int, ns'.Perm ns → ns'.Pairwise (· ≤ ·) → P S (.lst (ns'.map D.int))) : RCD (rSorted K) S [x] P := fun F G H vs w r Q k => by
  cases r with
  | cons r t =>
    cases t
    obtain ⟨a, xs, rfl, ha, rr⟩ := h.at_ w r
    rw [rr.ints] at ha
    exact ⟨a, ns, rfl, SqL.of ha, hl, fun ns' p h1 h2 hp => k _ _ _ _ _ (same_new (w.gfree hp)) (w.newD hp) (q ns' h1 h2) (.lst upd_same Reps.of_ints)⟩
theorem rc_sortedS {ns : List Str} (h : LV S x (ns.map D.str)) (hl : ns.length < 64) (q : ∀ ns' : List Str, ns'.Perm ns → P S (.lst (ns'.map D.str))) : RCD (rSortedS K) S [x] P := fun F G H vs w r Q k => by
  cases r with
  | cons r t =>
    cases t
    obtain ⟨a, xs, rfl, ha, rr⟩ := h.at_ w r
    rw [rr.strs] at ha
    exact ⟨a, ns, rfl, SqL.of ha, hl, fun ns' p h1 h2 hp => k _ _ _ _ _ (same_new (w.gfree hp)) (w.newD hp) (q ns' h1) (.lst upd_same Reps.of_strs)⟩
theorem evA_kw {r : List V → List V → Hp → VK → Prop} {t tk : TA} (h : EvA S ρ t fun S1 xs => EvA S1 ρ tk fun S2 zs => ∀ F G H vs ws, Wd S2 F G H → Reps G xs vs → Reps G zs ws → ∀ Q, Pq F G P Q → r vs ws H Q) : Ev S ρ (tCKw r t tk) P := fun F G H σ w s Q k =>
  h F G H σ w s _ fun vs ds S1 G1 H1 e1 w1 p1 r1 => p1 F G1 H1 σ w1 (s.mono e1) _ fun ws zs S2 G2 H2 e2 w2 p2 r2 => p2 F G2 H2 vs ws w2 (r1.mono e2) r2 Q (k.mono (e1.trans e2))
theorem kw_sortedRev {ns : List Int} (h : LV S x (ns.map D.int)) (q : ∀ ns' : List Int, ns'.Perm ns → ns'.Pairwise (· ≥ ·) → P S (.lst (ns'.map D.int))) :
    ∀ F G H vs ws, Wd S F G H → Reps G [x] vs → Reps G [.bl true] ws → ∀ Q, Pq F G P Q → rSortedKw K true [.bl true] vs ws H Q := fun F G H vs ws w r r2 Q k => by
  cases r with
  | cons r t =>
    cases t
    cases r2 with
    | cons r2 t2 =>
      cases t2
      cases r2
      obtain ⟨a, xs, rfl, ha, rr⟩ := h.at_ w r
      rw [rr.ints] at ha
      exact ⟨a, ns, rfl, rfl, SqL.of ha, fun ns' p h1 h2 hp => k _ _ _ _ _ (same_new (w.gfree hp)) (w.newD hp) (q ns' h1 h2) (.lst upd_same Reps.of_ints)⟩
/-! ### methods -/
end
end AK
namespace AK
open PySem PySem.Spec PyProof.Rows L2
section
variable {K : PySem.W.Frag} {S : Sto} {ρ : Env} {P : Sto → D → Prop} {d x y : D}
theorem rm_append {a : Addr} {l : List D} (h : S a = some (.lst l)) (hz : l.length < 16777216) (q : P (S.put a (.lst (l ++ [d]))) .non) : RMD rAppend S (.ref a) [d] P := fun F G H vx vs w r1 r2 Q k => by
  cases r1
  cases r2 with
  | cons rd t =>
    cases t
    obtain ⟨_, o, ho, cr⟩ := w.hid a _ h
    cases cr with
    | lst rl => exact ⟨a, _, _, rfl, rfl, ho, by rw [← rl.length, sizeLine_eq]; exact hz, k _ _ _ _ _ (Same.refl _) (w.mut h (.lst (rl.append (.cons rd .nil)))) q .non⟩
theorem rm_extend {a : Addr} {l m : List D} (h : S a = some (.lst l)) (hy : LV S y m) (hz : l.length + m.length ≤ 16777216) (q : P (S.put a (.lst (l ++ m))) .non) : RMD rExtend S (.ref a) [y] P := fun F G H vx vs w r1 r2 Q k => by
  cases r1
  cases r2 with
  | cons rd t =>
    cases t
    obtain ⟨b, zs, rfl, hb, rz⟩ := hy.at_ w rd
    obtain ⟨_, o, ho, cr⟩ := w.hid a _ h
    cases cr with
    | lst rl => exact ⟨a, b, _, _, rfl, rfl, ho, hb, by rw [← rl.length, ← rz.length, sizeLine_eq]; exact hz, k _ _ _ _ _ (Same.refl _) (w.mut h (.lst (rl.append rz))) q .non⟩
theorem rm_index {ns : List Int} {i : Int} {j : Nat} (h : LV S x (ns.map D.int)) (hj : ns[j]? = some i) (hf : ∀ m, m < j → ns[m]? ≠ some i) (q : P S (.int j)) : RMD (rIndex K) S x [.int i] P := fun F G H vx vs w r1 r2 Q k => by
  cases r2 with
  | cons rd t =>
    cases t
    cases rd
    obtain ⟨a, xs, rfl, ha, rr⟩ := h.at_ w r1
    rw [rr.ints] at ha
    refine ⟨a, _, .int i, j, .int i, rfl, rfl, SqL.of ha, rfl, flat_ints ns, by rw [List.getElem?_map, hj]; rfl, by show (i == i) = true; simp, fun m z' hm hz => ?_, k _ _ _ _ _ (Same.refl _) w q .int⟩
    rw [List.getElem?_map] at hz
    cases e : ns[m]? with
    | none =>
      rw [e] at hz
      cases hz
    | some n =>
      rw [e] at hz
      cases hz
      show (n == i) = false
      refine beq_eq_false_iff_ne.mpr fun z => hf m hm ?_
      rw [e, z]
def rFind : V → List V → Hp → VK → Prop := fun x xs H Q => ∃ a b, x = .str a ∧ xs = [.str b] ∧ Q (.int (Txt.find a b)) H
def rCount : V → List V → Hp → VK → Prop := fun x xs H Q => ∃ a b, x = .str a ∧ xs = [.str b] ∧ Q (.int (Txt.count a b)) H
def rJoin (K : PySem.W.Frag) : V → List V → Hp → VK → Prop := fun x xs H Q => ∃ a p, ∃ ys : List Str, x = .str a ∧ xs = [.ref p] ∧ (SqL K H p (ys.map V.str) ∨ SqT K H p (ys.map V.str)) ∧
    (ys.map (·.length)).sum + ys.length * a.length ≤ 16777216 ∧ Q (.str (Txt.join a ys)) H
theorem oFind {X : Cx} : MtR X "str.find" rFind := mt_find
theorem oCount {X : Cx} : MtR X "str.count" rCount := mt_count
theorem oJoin {X : Cx} : MtR X "str.join" (rJoin X.K) := mt_join
/-- s.index(t), found -/
def rIndexS : V → List V → Hp → VK → Prop := fun x xs H Q => ∃ (a b : Str) (k : Nat), x = .str a ∧ xs = [.str b] ∧ Txt.index0 a b = some k ∧ Q (.int (k : Nat)) H
theorem rm_find {a b : Str} (q : P S (.int (Txt.find a b))) : RMD rFind S (.str a) [.str b] P := fun F G H vx vs w r1 r2 Q k => by
  cases r1
  cases r2 with
  | cons rd t =>
    cases t
    cases rd
    exact ⟨a, b, rfl, rfl, k _ _ _ _ _ (Same.refl _) w q .int⟩
theorem rm_count {a b : Str} (q : P S (.int (Txt.count a b))) : RMD rCount S (.str a) [.str b] P := fun F G H vx vs w r1 r2 Q k => by
  cases r1
  cases r2 with
  | cons rd t =>
    cases t
    cases rd
    exact ⟨a, b, rfl, rfl, k _ _ _ _ _ (Same.refl _) w q .int⟩
theorem rm_join {a : Str} {ys : List Str} (h : LV S y (ys.map D.str)) (hz : (ys.map (·.length)).sum + ys.length * a.length ≤ 16777216) (q : P S (.str (Txt.join a ys))) : RMD (rJoin K) S (.str a) [y] P := fun F G H vx vs w r1 r2 Q k => by
  cases r1
  cases r2 with
  | cons rd t =>
    cases t
    obtain ⟨p, xs, rfl, ha, rr⟩ := h.at_ w rd
    rw [rr.strs] at ha
    exact ⟨a, p, ys, rfl, rfl, .inl (SqL.of ha), hz, k _ _ _ _ _ (Same.refl _) w q .str⟩
theorem rm_indexS {a b : Str} {j : Nat} (h : Txt.index0 a b = some j) (q : P S (.int j)) : RMD rIndexS S (.str a) [.str b] P := fun F G H vx vs w r1 r2 Q k => by
  cases r1
  cases r2 with
  | cons rd t =>
    cases t
    cases rd
    exact ⟨a, b, j, rfl, rfl, h, k _ _ _ _ _ (Same.refl _) w q .int⟩
theorem ev_bits {te : TE} (h : Ev S ρ te fun S1 x => ∃ i : Int, x = .int i ∧ P S1 (.int (Builtin.Int.intBits i : Nat))) : Ev S ρ (tBits te) P := fun F G H σ w s Q k =>
  h F G H σ w s _ fun v1 d1 S1 G1 H1 e1 w1 ⟨i, ei, p⟩ r1 => by
    subst ei
    cases r1
    exact ⟨i, rfl, k _ _ _ _ _ e1 w1 p .int⟩
/-- truth of a value -/
def TruD (S : Sto) (x : D) (b : Bool) : Prop := (∃ l, LV S x l ∧ b = !l.isEmpty) ∨ (∃ l, x = .tup l ∧ b = !l.isEmpty) ∨ (∃ i, x = .int i ∧ b = (i != 0)) ∨ ∃ c, x = .bl c ∧ b = c
def tTruth (K : PySem.W.Frag) (ta : TE) : TT := fun σ H Q => ta σ H fun x H' => ∃ k, TruV K x H' k ∧ Q k H'
theorem oTruth {X : Cx} {e : Expr} {te : TE} (h : PE X e te) (hh : ∀ whole, isTrue e X.env whole = (do let v ← whole; standAt e.pos; holding [v] (truthy v)) := by intro _; rfl) : PT X e (tTruth X.K te) := pt_truth h hh
theorem Reps.empty {G : Hp} {l : List D} {xs : List V} (r : Reps G l xs) : xs.isEmpty = l.isEmpty := by
  cases r <;> rfl
theorem evT_truth {te : TE} {PB : Sto → Bool → Prop} (h : Ev S ρ te fun S1 x => ∃ b, TruD S1 x b ∧ PB S1 b) : EvT S ρ (tTruth K te) PB := fun F G H σ w s Q k =>
  h F G H σ w s _ fun v1 d1 S1 G1 H1 e1 w1 ⟨b, hb, p⟩ r1 => by
    refine ⟨b, ?_, k _ _ _ _ e1 w1 p⟩
    rcases hb with ⟨l, hl, e⟩ | ⟨l, el, e⟩ | ⟨i, ei, e⟩ | ⟨c, ec, e⟩
    · obtain ⟨a, xs, rfl, ha, rr⟩ := hl.at_ w1 r1
      exact .inl ⟨xs, SqL.of ha, by rw [rr.empty]; exact e⟩
    · subst el
      cases r1 with
      | tup ha rr => exact .inr (.inl ⟨_, SqT.of (w1.ext _ _ ha), by rw [rr.empty]; exact e⟩)
    · subst ei
      cases r1
      exact e
    · subst ec
      cases r1
      exact e
end
end AK
set_option Elab.async false
set_option linter.all false
set_option maxRecDepth 100000
set_option maxHeartbeats 4000000
/-! enumerate over a tuple: the turns, and the rule. -/
namespace AK
open PySem PySem.Spec PyProof.Rows L2
set_option maxHeartbeats 4000000 in
theorem meets_enum1 {v : Value} {o : Obj} {HP : Heap → Prop} (B : Begins v o HP) :
    Meets (Builtin.«enumerate.__new__» ⟨[.type "enumerate", v], []⟩) (fun _ R s => HP s.heap ∧
      R (.ok (.ret (.ref (s.heap.push o).objs.size))) { s with heap := (s.heap.push o).push { cls := .type "enumerate", data := .fields #[.none, .bool false, .ref s.heap.objs.size, rawInt 0, .none, .none] } }) :=
  .of_wp fun prog w A R s hyp => by
    obtain ⟨hp, gs, dr, tk, osx⟩ := s
    obtain ⟨k1, k2⟩ := hyp
    have subE := sub_enumerate
    have itB : ∀ {A' : Around} {E : Value → Shared → Prop} {Q : Value → Shared → Prop}, Q (.ref hp.objs.size) ⟨hp.push o, gs, dr, tk, osx⟩ → wpAny (model prog w) A' (pyIter v) Q E ⟨hp, gs, dr, tk, osx⟩ :=
      fun q => B.iter prog w _ _ ⟨hp, gs, dr, tk, osx⟩ _ k1 q
    wp_walk using itB
    refine wpAny_stack_any fun stk => wpAny_pure ?_
    split
    · rename_i c _ _ _ _ _
      cases (c == Value.type "enumerate")
      · wp_walk using itB
        exact ⟨_, rfl, k2⟩
      · wp_walk using itB
        exact ⟨_, rfl, k2⟩
    · wp_walk using itB
      exact ⟨_, rfl, k2⟩
section
variable {prog : Program} {w : World} {A : Around} {E : Value → Shared → Prop} {s : Shared}
theorem call_enumT {t : Addr} {items : Array Value} {Q : Value → Shared → Prop} (ht : s.heap.IsTuple t items)
    (h : ∀ h', IsEnum h' (s.heap.objs.size + 1) s.heap.objs.size 0 .none → h'.IsTupleIter s.heap.objs.size t 0 → h'.objs.size = s.heap.objs.size + 2 →
      (∀ b o, s.heap.get? b = some o → h'.get? b = some o) → Q (.ref (s.heap.objs.size + 1)) { s with heap := h' }) : wpAny (model prog w) A (call (.type "enumerate") [.ref t]) Q E s := by
  refine callType_new F.called_enumerate (by decide) (F.typeCall_enumerate_1 _) (F.newCall_enumerate_1 _) (fun ob => F.args_object_init_2 ob _) F.entry_enumerate_new (meets_enum1 (begins_tuple t items)) ⟨ht, ?_⟩
  have sz : (s.heap.push { cls := .type "tuple_iterator", data := .fields #[.ref t, .int 0 0] }).objs.size = s.heap.objs.size + 1 := Heap.size_push ..
  show _ ∧ _
  rw [sz]
  have en : IsEnum ((s.heap.push { cls := .type "tuple_iterator", data := .fields #[.ref t, .int 0 0] }).push { cls := .type "enumerate", data := .fields #[.none, .bool false, .ref s.heap.objs.size, rawInt 0, .none, .none] }) (s.heap.objs.size + 1) s.heap.objs.size 0 .none := by
    have z := Heap.get?_push_size (s.heap.push { cls := .type "tuple_iterator", data := .fields #[.ref t, .int 0 0] }) (o := { cls := .type "enumerate", data := .fields #[.none, .bool false, .ref s.heap.objs.size, rawInt 0, .none, .none] }) rfl
    rw [sz] at z
    exact z
  exact ⟨⟨_, en, rfl⟩, h _ en ⟨_, Heap.get?_push_of_some _ (Heap.get?_push_size _ rfl), rfl, rfl⟩ (by rw [Heap.size_push, sz]) fun b o x => Heap.get?_push_of_some _ (Heap.get?_push_of_some _ x)⟩
end
/-- the tuple at a, each item in a new pair -/
def Itet (K : PySem.W.Frag) (a : Addr) : It :=
  ⟨fun i H => ∃ (xs : List V) (x : V), SqT K H a xs ∧ xs[i]? = some x, fun i H v H' => ∃ T x, v = .ref T ∧ H T = none ∧ H' = upd H T (.tup [.int (i : Nat), x]) ∧ ∀ xs, SqT K H a xs → xs[i]? = some x, fun i H => ∃ xs : List V, SqT K H a xs ∧ xs.length = i⟩
theorem turn_enumT {P : Program} {w : World} {K : PySem.W.Frag} {elts : List Expr} {kk : Nat} {tpos : Pos} (a e it : Addr) :
    Turn P w K (.Tuple elts kk tpos) (Itet K a) [e, it] e (fun i h => (∃ old, IsEnum h e it ((i : Nat) : Int) old) ∧ h.IsTupleIter it a i ∧ e ≠ it) where
  mem := by simp
  obj := fun i h st b hb => by
    obtain ⟨⟨old, he⟩, ⟨o, ho, hc, hd⟩, _⟩ := st
    have e' : b = e ∨ b = it := by simpa using hb
    rcases e' with z | z
    · rw [z]
      exact ⟨_, he, fun v q => nomatch q⟩
    · rw [z]
      exact ⟨o, ho, fun v q => by
        rw [hd] at q
        cases q⟩
  keep := fun i h h' st k => by
    obtain ⟨⟨old, he⟩, hi, hne⟩ := st
    exact ⟨⟨old, k e (by simp) _ he⟩, hi.at fun o q => k it (by simp) o q, hne⟩
  item := by
    intro X hP hw hK hc i pins s σ H E I hf st hg
    subst hP hw hK
    obtain ⟨⟨old, he⟩, hit, hne⟩ := st
    obtain ⟨xs, x, hq, hx⟩ := hg
    obtain ⟨its, rv, p, hz⟩ := I.tuple hq
    obtain ⟨u, hu, ru⟩ := rv.get hx
    have hp : s.heap.IsTuple a its.toArray := p
    have hel : e < s.heap.objs.size := Heap.lt_size he
    have hil : it < s.heap.objs.size := by
      obtain ⟨_, q, _⟩ := hit
      exact Heap.lt_size q
    have nea : e ≠ a := fun z => by
      obtain ⟨o, ho, hc2, _⟩ := hp
      have he2 := he
      unfold IsEnum at he2
      rw [z, ho] at he2
      have he3 := Option.some.inj he2
      rw [he3] at hc2
      injection hc2 with z2
      exact absurd z2 (by decide)
    have nai : a ≠ it := fun z => by
      obtain ⟨o, ho, hc2, _⟩ := hp
      obtain ⟨o2, ho2, hc3, _⟩ := hit
      rw [z, ho2] at ho
      cases ho
      rw [hc3] at hc2
      injection hc2 with z2
      exact absurd z2 (by decide)
    have DR := Draws.tuple (prog := X.prog) (w := X.w) (A := X.A.in1) (I.ok.hd hc) it a nai its.toArray
    have hlt : i < its.toArray.size := by
      have := (List.getElem?_eq_some_iff.mp hu).1
      simpa using this
    refine wpAny_pyNext_enum_itemD DR he ⟨hit, hp⟩ hlt hne (by simp; exact ⟨hne, nea⟩) fun y h' tk hy ho hst hT hsz hk => ?_
    have ey : y = u := by
      have h1 : its.toArray[i]? = some u := by simpa using hu
      rw [h1] at hy
      exact (Option.some.inj hy).symm
    subst ey
    refine ⟨_, rfl, wpAny_letOwnedTupleGo_enum (s := { s with heap := h', toks := tk + 1 }) ho fun h2 he2 sb => ?_⟩
    have hT2 : h2.get? s.heap.objs.size = some { cls := .type "tuple", data := .seq #[.int i tk, y] } := (sb.2 _ (Nat.ne_of_gt hel)).trans hT
    have new : ObjOk X.prog X.w (upd H s.heap.objs.size (.tup [.int (i : Nat), x])) h2 s.heap.objs.size (.tup [.int (i : Nat), x]) :=
      ⟨by show 2 ≤ sizeLine; decide, [.int i tk, y], .cons ⟨_, rfl⟩ (.cons ru .nil), ⟨_, hT2, rfl, _, rfl⟩⟩
    have I1 : Inv X pins σ (upd H s.heap.objs.size (.tup [.int (i : Nat), x])) { s with heap := h2, toks := tk + 1 } :=
      I.turnedNew (ch := [e, it]) (fun b ob hb q => (sb.2 b (fun z => hb (by simp [z]))).trans (hk b ob (fun z => hb (by simp [z])) (fun z => hb (by simp [z])) q)) hf (Nat.le_refl _) new
    refine ⟨.ref s.heap.objs.size, _, I1, rfl, ⟨_, x, rfl, I.hok.fresh (Nat.le_refl _), rfl, fun ys hy => by
      rw [I.tuple_inj hy hq]
      exact hx⟩, ⟨⟨y, ?_⟩, hst.1.at fun o q => (sb.2 it (Ne.symm hne)).trans q, hne⟩, fun b hb => ?_⟩
    · have e1 : ((i + 1 : Nat) : Int) = (i : Int) + 1 := by omega
      rw [e1]
      exact he2
    · have hb' : b < s.heap.objs.size := by
        have e' : b = e ∨ b = it := by simpa using hb
        rcases e' with z | z
        · rw [z]
          exact hel
        · rw [z]
          exact hil
      rw [upd_ne (Nat.ne_of_lt hb')]
      exact (hf b hb).1
  done := by
    intro X hP hw hK hc i pins s σ H E I hf st hg
    subst hP hw hK
    obtain ⟨⟨old, he⟩, hit, hne⟩ := st
    obtain ⟨xs, hq, hx⟩ := hg
    obtain ⟨its, rv, p, hz⟩ := I.tuple hq
    have hp : s.heap.IsTuple a its.toArray := p
    obtain ⟨f0, f1, f2, f3, f4, f5⟩ := hf it (by simp)
    have hl := rv.length
    have nai : a ≠ it := fun z => by
      obtain ⟨o, ho, hc2, _⟩ := hp
      obtain ⟨o2, ho2, hc3, _⟩ := hit
      rw [z, ho2] at ho
      cases ho
      rw [hc3] at hc2
      injection hc2 with z2
      exact absurd z2 (by decide)
    have DR := Draws.tuple (prog := X.prog) (w := X.w) (A := X.A.in1) (I.ok.hd hc) it a nai its.toArray
    have hsz : its.toArray.size = i := by
      simp only [List.size_toArray]
      omega
    exact wpAny_pyNext_enum_endD DR he (by rw [hsz]; exact ⟨hit, hp⟩) fun h' eb => ⟨rfl, I.turned (t' := s.toks) (fun b o hb q => eb b o hb q) f0 f1 f3 f4 f5⟩
  self := fun A i s Q E st h => let ⟨⟨_, he⟩, _⟩ := st; wpAny_pyIter_enum he h
def iEnumT (K : PySem.W.Frag) (ta : TA) : TI := fun σ H R => ta σ H fun vs H1 => ∃ a xs, vs = [.ref a] ∧ SqT K H1 a xs ∧ R (Itet K a) H1
theorem pi_enumT {X : Cx} {e : Expr} {ta : TA} {p pos tpos : Pos} {elts : List Expr} {kk : Nat} (hg : Gl X "enumerate") (hm : X.mg "enumerate" = none) (ha : PA X [e] ta) (hs : starEach [e] X.env = [(false, eval e X.env)] := by rfl) :
    PI X (.Tuple elts kk tpos) (.Call (.Name "enumerate" p) [e] [] pos) (iEnumT X.K ta) := by
  refine ⟨fun pins s σ H R I hyp => ?_⟩
  refine Call_ (ld_blt I hg hm boot_enumerate (PyProof.Rows.callWith_type1 (thn (ha.run pos pins s σ H _ I hyp) fun us s1 ⟨vs, H1, I1, r1, q1⟩ => ?_) hs rfl))
  obtain ⟨a, xs, ex, hq, q⟩ := q1
  subst ex
  cases r1 with
  | cons r rr =>
    cases rr
    cases r
    obtain ⟨its, rv, p', hz⟩ := I1.tuple hq
    refine call_enumT (show s1.heap.IsTuple a its.toArray from p') fun h' he hit hsz hk => wpAny_pyIter_enum he ?_
    have I2 : Inv X pins σ H1 { s1 with heap := h' } := I1.kept (t' := s1.toks) hk
    refine ⟨s1.heap.objs.size + 1, [s1.heap.objs.size + 1, s1.heap.objs.size], _, _, H1, rfl, I2, turn_enumT a (s1.heap.objs.size + 1) s1.heap.objs.size, ⟨⟨.none, he⟩, hit, Nat.succ_ne_self _⟩, fun b hb => ?_, q⟩
    have e' : b = s1.heap.objs.size + 1 ∨ b = s1.heap.objs.size := by simpa using hb
    have hle : s1.heap.objs.size ≤ b := by
      rcases e' with z | z
      · rw [z]
        exact Nat.le_add_right _ _
      · rw [z]
        exact Nat.le_refl _
    exact I1.fpOk hle (I1.hok.fresh hle)
end AK
set_option Elab.async false
set_option linter.all false
set_option maxRecDepth 100000
set_option maxHeartbeats 4000000
/-! Loops and comprehensions over data. -/
namespace AK
open PySem PySem.Spec PyProof.Rows L2

/-- what a walk gives, item by item, while need holds of the cells -/
structure DIt where
  items : List D
  need : Sto → Prop
def IR (G : Hp) (J : It) (T : DIt) : Prop := ∀ S' F' G' H', Same G G' → Wd S' F' G' H' → T.need S' →
  (∀ i, i < T.items.length → J.go i H' ∧ ∀ x H2, J.yld i H' x H2 → ∃ G2 d, Same G' G2 ∧ Wd S' F' G2 H2 ∧ T.items[i]? = some d ∧ Rep G2 d x) ∧ J.stop T.items.length H'
theorem IR.mono {G G' : Hp} {J : It} {T : DIt} (e : Same G G') (h : IR G J T) : IR G' J T := fun S' F' G2 H' e2 w n => h S' F' G2 H' (e.trans e2) w n
def EvI (S : Sto) (ρ : Env) (wi : TI) (P : Sto → DIt → Prop) : Prop := ∀ F G H σ, Wd S F G H → Slots G ρ σ → ∀ R : It → Hp → Prop, (∀ J T S' G' H', Same G G' → Wd S' F G' H' → IR G' J T → P S' T → R J H') → wi σ H R
section
variable {K : PySem.W.Frag} {S : Sto} {ρ : Env} {P : Sto → DIt → Prop} {d x y : D} {te : TE} {ta : TA}
theorem evI_list (h : Ev S ρ te fun S1 x => ∃ l, LV S1 x l ∧ P S1 ⟨l, fun S' => LV S' x l⟩) : EvI S ρ (iList K te) P := fun F G H σ w s R k =>
  h F G H σ w s _ fun v1 d1 S1 G1 H1 e1 w1 ⟨l, hl, p⟩ r1 => by
    obtain ⟨a, xs, rfl, ha, rr⟩ := hl.at_ w1 r1
    refine ⟨a, rfl, ⟨xs, SqL.of ha⟩, k _ _ _ _ _ e1 w1 (fun S' F' G' H' e' w' n' => ?_) p⟩
    obtain ⟨a', ys, ea, hy, ry⟩ := LV.at_ n' w' (r1.mono e')
    cases ea
    refine ⟨fun i hi => ?_, ys, SqL.of hy, by rw [← ry.length]; exact Nat.le_refl _⟩
    have gi : l[i]? = some l[i] := List.getElem?_eq_getElem hi
    obtain ⟨v, h1, h2⟩ := ry.get gi
    refine ⟨⟨ys, v, SqL.of hy, h1⟩, fun z H2 ⟨eh, q⟩ => ?_⟩
    subst eh
    have q2 := q ys (SqL.of hy)
    rw [h1] at q2
    cases q2
    exact ⟨G', l[i], Same.refl _, w', gi, h2⟩
theorem evI_tup (h : Ev S ρ te fun S1 x => ∃ l, x = .tup l ∧ P S1 ⟨l, fun _ => True⟩) : EvI S ρ (iTup K te) P := fun F G H σ w s R k =>
  h F G H σ w s _ fun v1 d1 S1 G1 H1 e1 w1 ⟨l, hl, p⟩ r1 => by
    subst hl
    cases r1 with
    | @tup a _ ys ha ry =>
      refine ⟨a, rfl, ⟨ys, SqT.of (w1.ext _ _ ha)⟩, k _ _ _ _ _ e1 w1 (fun S' F' G' H' e' w' n' => ?_) p⟩
      have hy : SqT K H' a ys := SqT.of (w'.ext _ _ (e' _ _ ha))
      refine ⟨fun i hi => ?_, ys, hy, by rw [← ry.length]; exact Nat.le_refl _⟩
      have gi : l[i]? = some l[i] := List.getElem?_eq_getElem hi
      obtain ⟨v, h1, h2⟩ := ry.get gi
      refine ⟨⟨ys, v, hy, h1⟩, fun z H2 ⟨eh, q⟩ => ?_⟩
      subst eh
      have q2 := q ys hy
      rw [h1] at q2
      cases q2
      exact ⟨G', l[i], Same.refl _, w', gi, h2.mono e'⟩
def rangeD (lo hi : Int) : List D := (List.range (hi - lo).toNat).map fun i => .int (lo + (i : Nat))
theorem rangeD_len (lo hi : Int) : (rangeD lo hi).length = (hi - lo).toNat := by
  unfold rangeD
  rw [List.length_map, List.length_range]
theorem rangeD_at {lo hi : Int} {i : Nat} (h : i < (hi - lo).toNat) : (rangeD lo hi)[i]? = some (.int (lo + (i : Nat))) := by
  unfold rangeD
  rw [List.getElem?_map, List.getElem?_range h]
  rfl
theorem ir_range {G : Hp} {lo hi : Int} : IR G (Itr lo (hi - lo).toNat) ⟨rangeD lo hi, fun _ => True⟩ := fun S' F' G' H' e' w' n' => by
  refine ⟨fun i hi' => ?_, by show (hi - lo).toNat ≤ (rangeD lo hi).length; rw [rangeD_len]; exact Nat.le_refl _⟩
  have hi2 : i < (hi - lo).toNat := by
    rw [← rangeD_len lo hi]
    exact hi'
  refine ⟨hi2, fun z H2 ⟨eh, q⟩ => ?_⟩
  subst eh q
  exact ⟨G', _, Same.refl _, w', rangeD_at hi2, .int⟩
theorem evI_rng1 (h : EvA S ρ ta fun S1 xs => ∃ n : Int, xs = [.int n] ∧ -(2 ^ 62) ≤ n ∧ n < 2 ^ 62 ∧ P S1 ⟨rangeD 0 n, fun _ => True⟩) : EvI S ρ (iRng1 ta) P := fun F G H σ w s R k =>
  h F G H σ w s _ fun vs ds S1 G1 H1 e1 w1 ⟨n, en, h1, h2, p⟩ r1 => by
    subst en
    cases r1 with
    | cons r t =>
      cases t
      cases r
      refine ⟨n, rfl, h1, h2, k _ _ _ _ _ e1 w1 ?_ p⟩
      have z := ir_range (G := G1) (lo := 0) (hi := n)
      rw [Int.sub_zero] at z
      exact z
theorem evI_rng2 (h : EvA S ρ ta fun S1 xs => ∃ m n : Int, xs = [.int m, .int n] ∧ (-(2 ^ 62) ≤ m ∧ m < 2 ^ 62 ∧ -(2 ^ 62) ≤ n ∧ n < 2 ^ 62) ∧ P S1 ⟨rangeD m n, fun _ => True⟩) : EvI S ρ (iRng2 ta) P := fun F G H σ w s R k =>
  h F G H σ w s _ fun vs ds S1 G1 H1 e1 w1 ⟨m, n, en, h1, p⟩ r1 => by
    subst en
    cases r1 with
    | cons r t =>
      cases t with
      | cons r' t =>
        cases t
        cases r
        cases r'
        exact ⟨m, n, rfl, h1, k _ _ _ _ _ e1 w1 ir_range p⟩
def signsD (z : Str) : List D := z.cps.toList.map fun c => .str ⟨#[c]⟩
theorem evI_str (h : Ev S ρ te fun S1 x => ∃ z, x = .str z ∧ P S1 ⟨signsD z, fun _ => True⟩) : EvI S ρ (iStr te) P := fun F G H σ w s R k =>
  h F G H σ w s _ fun v1 d1 S1 G1 H1 e1 w1 ⟨z, hz, p⟩ r1 => by
    subst hz
    cases r1
    refine ⟨z, rfl, k _ _ _ _ _ e1 w1 (fun S' F' G' H' e' w' n' => ?_) p⟩
    have hl : (signsD z).length = z.cps.size := by
      unfold signsD
      rw [List.length_map, Array.length_toList]
    refine ⟨fun i hi => ?_, by show z.cps.size ≤ (signsD z).length; rw [hl]; exact Nat.le_refl _⟩
    have hi2 : i < z.cps.size := by
      rw [← hl]
      exact hi
    refine ⟨hi2, fun v H2 ⟨eh, c, hc, ev⟩ => ?_⟩
    subst eh ev
    refine ⟨G', .str ⟨#[c]⟩, Same.refl _, w', ?_, .str⟩
    show (signsD z)[i]? = _
    unfold signsD
    rw [List.getElem?_map, Array.getElem?_toList, hc]
    rfl
def enumD (l : List D) : List D := (List.range l.length).map fun i => .tup [.int (i : Nat), (l[i]?).getD .non]
theorem enumD_len (l : List D) : (enumD l).length = l.length := by
  unfold enumD
  rw [List.length_map, List.length_range]
theorem enumD_at {l : List D} {i : Nat} {d : D} (h : l[i]? = some d) : (enumD l)[i]? = some (.tup [.int (i : Nat), d]) := by
  unfold enumD
  have hi := (List.getElem?_eq_some_iff.mp h).1
  rw [List.getElem?_map, List.getElem?_range hi]
  show some (D.tup [.int (i : Nat), (l[i]?).getD .non]) = _
  rw [h]
  rfl
theorem evI_enum (h : EvA S ρ ta fun S1 xs => ∃ x l, xs = [x] ∧ LV S1 x l ∧ P S1 ⟨enumD l, fun S' => LV S' x l⟩) : EvI S ρ (iEnum K ta) P := fun F G H σ w s R k =>
  h F G H σ w s _ fun vs ds S1 G1 H1 e1 w1 ⟨x, l, ex, hl, p⟩ r1 => by
    subst ex
    cases r1 with
    | cons r1 t =>
      cases t
      obtain ⟨a, xs, rfl, ha, rr⟩ := hl.at_ w1 r1
      refine ⟨a, xs, rfl, SqL.of ha, k _ _ _ _ _ e1 w1 (fun S' F' G' H' e' w' n' => ?_) p⟩
      obtain ⟨a', ys, ea, hy, ry⟩ := LV.at_ n' w' (r1.mono e')
      cases ea
      refine ⟨fun i hi => ?_, ys, SqL.of hy, by show ys.length ≤ (enumD l).length; rw [enumD_len, ← ry.length]; exact Nat.le_refl _⟩
      have hi' : i < (enumD l).length := hi
      rw [enumD_len] at hi'
      have gi : l[i]? = some l[i] := List.getElem?_eq_getElem hi'
      obtain ⟨v, h1, h2⟩ := ry.get gi
      refine ⟨⟨ys, v, SqL.of hy, h1⟩, fun z H2 ⟨T, u, ez, hT, eh, q⟩ => ?_⟩
      subst ez eh
      have q2 := q ys (SqL.of hy)
      rw [h1] at q2
      cases q2
      have sm := same_new (o := HO.tup [V.int (i : Nat), v]) (w'.gfree hT)
      exact ⟨upd G' T (.tup [.int (i : Nat), v]), _, sm, w'.newD hT, enumD_at gi, .tup upd_same (.cons .int (.cons (h2.mono sm) .nil))⟩
theorem evI_enumT (h : EvA S ρ ta fun S1 xs => ∃ l, xs = [.tup l] ∧ P S1 ⟨enumD l, fun _ => True⟩) : EvI S ρ (iEnumT K ta) P := fun F G H σ w s R k =>
  h F G H σ w s _ fun vs ds S1 G1 H1 e1 w1 ⟨l, ex, p⟩ r1 => by
    subst ex
    cases r1 with
    | cons r1 t =>
      cases t
      cases r1 with
      | @tup a _ ys ha ry =>
        refine ⟨a, ys, rfl, SqT.of (w1.ext _ _ ha), k _ _ _ _ _ e1 w1 (fun S' F' G' H' e' w' n' => ?_) p⟩
        have hy : SqT K H' a ys := SqT.of (w'.ext _ _ (e' _ _ ha))
        refine ⟨fun i hi => ?_, ys, hy, by show ys.length = (enumD l).length; rw [enumD_len, ← ry.length]⟩
        have hi' : i < (enumD l).length := hi
        rw [enumD_len] at hi'
        have gi : l[i]? = some l[i] := List.getElem?_eq_getElem hi'
        obtain ⟨v, h1, h2⟩ := ry.get gi
        refine ⟨⟨ys, v, hy, h1⟩, fun z H2 ⟨T, u, ez, hT, eh, q⟩ => ?_⟩
        subst ez eh
        have q2 := q ys hy
        rw [h1] at q2
        cases q2
        have sm := same_new (o := HO.tup [V.int (i : Nat), v]) (w'.gfree hT)
        exact ⟨upd G' T (.tup [.int (i : Nat), v]), _, sm, w'.newD hT, enumD_at gi, .tup upd_same (.cons .int (.cons ((h2.mono e').mono sm) .nil))⟩
def zipD (l m : List D) : List D := (l.zip m).map fun p => .tup [p.1, p.2]
theorem zipD_at {l m : List D} {i : Nat} {d e : D} (h : l[i]? = some d) (h' : m[i]? = some e) : (zipD l m)[i]? = some (.tup [d, e]) := by
  unfold zipD
  have z : (l.zip m)[i]? = some (d, e) := List.getElem?_zip_eq_some.mpr ⟨h, h'⟩
  rw [List.getElem?_map, z]
  rfl
theorem evI_zip (h : EvA S ρ ta fun S1 xs => ∃ x l y m, xs = [x, y] ∧ LV S1 x l ∧ LV S1 y m ∧ P S1 ⟨zipD l m, fun S' => LV S' x l ∧ LV S' y m⟩) : EvI S ρ (iZip K ta) P := fun F G H σ w s R k =>
  h F G H σ w s _ fun vs ds S1 G1 H1 e1 w1 ⟨x, l, y, m, ex, hl, hm, p⟩ r1 => by
    subst ex
    cases r1 with
    | cons r1 t =>
      cases t with
      | cons r2 t =>
        cases t
        obtain ⟨a, xs, rfl, ha, rr⟩ := hl.at_ w1 r1
        obtain ⟨b, zs, rfl, hb, rz⟩ := hm.at_ w1 r2
        refine ⟨a, b, xs, zs, rfl, SqL.of ha, SqL.of hb, k _ _ _ _ _ e1 w1 (fun S' F' G' H' e' w' n' => ?_) p⟩
        obtain ⟨a', ys, ea, hy, ry⟩ := LV.at_ n'.1 w' (r1.mono e')
        cases ea
        obtain ⟨b', ws, eb, hw, rw'⟩ := LV.at_ n'.2 w' (r2.mono e')
        cases eb
        have hlen : (zipD l m).length = min l.length m.length := by
          unfold zipD
          rw [List.length_map, List.length_zip]
        refine ⟨fun i hi => ?_, ys, ws, SqL.of hy, SqL.of hw, ?_⟩
        · have hi' : i < (zipD l m).length := hi
          rw [hlen] at hi'
          have g1 : l[i]? = some (l[i]'(by omega)) := List.getElem?_eq_getElem (by omega)
          have g2 : m[i]? = some (m[i]'(by omega)) := List.getElem?_eq_getElem (by omega)
          obtain ⟨v, h1, h2⟩ := ry.get g1
          obtain ⟨v', h1', h2'⟩ := rw'.get g2
          refine ⟨⟨ys, ws, v, v', SqL.of hy, SqL.of hw, h1, h1'⟩, fun z H2 ⟨T, u, u', ez, hT, eh, q, q'⟩ => ?_⟩
          subst ez eh
          have q2 := q ys (SqL.of hy)
          rw [h1] at q2
          cases q2
          have q3 := q' ws (SqL.of hw)
          rw [h1'] at q3
          cases q3
          have sm := same_new (o := HO.tup [v, v']) (w'.gfree hT)
          exact ⟨upd G' T (.tup [v, v']), _, sm, w'.newD hT, zipD_at g1 g2, .tup upd_same (.cons (h2.mono sm) (.cons (h2'.mono sm) .nil))⟩
        · show ys.length ≤ (zipD l m).length ∨ ws.length ≤ (zipD l m).length
          rw [hlen, ← ry.length, ← rw'.length]
          omega
end

/-- xs[i], 0 ≤ i -/
def rGetL (K : PySem.W.Frag) : R2 := fun x y H Q => ∃ (p : Addr) (xs : List V) (j : Nat) (v : V), x = .ref p ∧ y = .int (j : Nat) ∧ SqL K H p xs ∧ xs[j]? = some v ∧ Q v H
/-! ### for -/
section
variable {K : PySem.W.Frag} {S : Sto} {ρ : Env} {wi : TI} {g : TG} {ts : TS} {E : DE}
theorem sx_for (h : EvI S ρ wi fun S1 T => ∃ I : Nat → Sto → Env → Prop, I 0 S1 ρ ∧ (∀ i S' ρ', i ≤ T.items.length → I i S' ρ' → T.need S') ∧
      (∀ i d S' ρ', T.items[i]? = some d → I i S' ρ' → GD S' ρ' g d fun S2 ρ2 => Sx S2 ρ2 ts { E with nx := I (i + 1), ct := I (i + 1), bk := E.nx }) ∧
      ∀ S' ρ', I T.items.length S' ρ' → E.nx S' ρ') : Sx S ρ (tFor wi g ts) E := fun F G H σ w s N c =>
  h F G H σ w s _ fun J T S1 G1 H1 e1 w1 ir ⟨I, h0, hn, ht, hd⟩ => by
    refine ⟨fun i m σ' H' => m = T.items.length - i ∧ i ≤ T.items.length ∧ ∃ S' ρ' G', Same G1 G' ∧ Wd S' F G' H' ∧ Slots G' ρ' σ' ∧ I i S' ρ', ⟨_, rfl, Nat.zero_le _, S1, ρ, G1, Same.refl _, w1, s.mono e1, h0⟩, ?_⟩
    rintro i m σ' H' ⟨rfl, hi, S', ρ', G', e', w', s', hI⟩
    obtain ⟨go, stop⟩ := ir S' F G' H' e' w' (hn i S' ρ' hi hI)
    by_cases hlt : i < T.items.length
    · obtain ⟨g1, g2⟩ := go i hlt
      refine .inr ⟨g1, fun σ2 H2 => ∃ S2 ρ2 G2, Same G1 G2 ∧ Wd S2 F G2 H2 ∧ Slots G2 ρ2 σ2 ∧ I (i + 1) S2 ρ2, fun σ2 H2 q => ⟨T.items.length - (i + 1), by omega, rfl, hlt, q⟩, fun x H2 y => ?_⟩
      obtain ⟨G2, d, e2, w2, hd2, r2⟩ := g2 x H2 y
      refine ht i d S' ρ' hd2 hI F G2 H2 σ' x w2 (s'.mono e2) r2 _ fun S3 ρ3 G3 H3 σ3 e3 w3 s3 p3 => ?_
      have ee := (e'.trans e2).trans e3
      exact p3 F G3 H3 σ3 w3 s3 _ ⟨fun S4 ρ4 G4 H4 σ4 e4 w4 s4 p4 => ⟨S4, ρ4, G4, ee.trans e4, w4, s4, p4⟩, fun S4 d4 v4 G4 H4 e4 w4 r4 p4 => c.rt _ _ _ _ _ ((e1.trans ee).trans e4) w4 r4 p4,
        fun S4 ρ4 G4 H4 σ4 e4 w4 s4 p4 => c.nx _ _ _ _ _ ((e1.trans ee).trans e4) w4 s4 p4, fun S4 ρ4 G4 H4 σ4 e4 w4 s4 p4 => ⟨S4, ρ4, G4, ee.trans e4, w4, s4, p4⟩⟩
    · have e : i = T.items.length := by omega
      subst e
      exact .inl ⟨stop, c.nx _ _ _ _ _ (e1.trans e') w' s' (hd S' ρ' hI)⟩
/-- a for over a name -/
theorem sx_forN {j : Nat} (h : EvI S ρ wi fun S1 T => ∃ I : Nat → Sto → Env → Prop, I 0 S1 ρ ∧ (∀ i S' ρ', i ≤ T.items.length → I i S' ρ' → T.need S') ∧
      (∀ i d S' ρ', T.items[i]? = some d → I i S' ρ' → Sx S' (ρ'.set j (some d)) ts { E with nx := I (i + 1), ct := I (i + 1), bk := E.nx }) ∧
      ∀ S' ρ', I T.items.length S' ρ' → E.nx S' ρ') : Sx S ρ (tFor wi (gName j) ts) E := sx_for fun F G H σ w s R k => h F G H σ w s R fun J T S' G' H' e w' ir ⟨I, a, b, c, d⟩ => k J T S' G' H' e w' ir ⟨I, a, b, fun i x S2 ρ2 hx hI => gd_name (c i x S2 ρ2 hx hI), d⟩
/-! ### targets of several names -/
theorem gd_tup {n : Nat} {t : TGs} {ds : List D} {P : Sto → Env → Prop} (hn : ds.length = n) (h : GDs S ρ t ds P) : GD S ρ (gTup K n t) (.tup ds) P := fun F G H σ v w s r Q k => by
  cases r with
  | tup ha rr => exact ⟨_, _, rfl, SqT.of (w.ext _ _ ha), rr.length.symm.trans hn, h F G H σ _ w s rr Q k⟩
theorem gds_nil {P : Sto → Env → Prop} (h : P S ρ) : GDs S ρ gNil [] P := fun F G H σ v w s r Q k => by
  cases r
  exact ⟨rfl, k _ _ _ _ _ (Same.refl _) w s h⟩
theorem gds_name {i : Nat} {t : TGs} {d : D} {ds : List D} {P : Sto → Env → Prop} (h : GDs S (ρ.set i (some d)) t ds P) : GDs S ρ (gCons (gName i) t) (d :: ds) P := fun F G H σ v w s r Q k => by
  cases r with
  | cons r1 r2 => exact ⟨_, _, rfl, h F G H _ _ w (s.set r1 i) r2 Q k⟩
/-- o[i] = v, o a cell that is a list -/
theorem gd_sub {to ti : TE} {d : D} {P : Sto → Env → Prop} (h : Ev S ρ to fun S1 o => Ev S1 ρ ti fun S2 i => ∃ a l k j, o = .ref a ∧ i = .int k ∧ S2 a = some (.lst l) ∧ ixN l.length k = some j ∧ P (S2.put a (.lst (l.set j d))) ρ) : GD S ρ (gSub to ti rSetL) d P := fun F G H σ v w s r Q k =>
  h F G H σ w s _ fun v1 d1 S1 G1 H1 e1 w1 p1 r1 => p1 F G1 H1 σ w1 (s.mono e1) _ fun v2 d2 S2 G2 H2 e2 w2 ⟨a, l, m, j, eo, ei, hs, hj, p⟩ r2 => by
    subst eo ei
    cases r1
    cases r2
    obtain ⟨_, o, ho, cr⟩ := w2.hid a _ hs
    cases cr with
    | lst rl => exact ⟨a, _, m, j, rfl, rfl, ho, by rw [← rl.length]; exact hj, k _ _ _ _ _ (e1.trans e2) (w2.mut hs (.lst (rl.set (r.mono (e1.trans e2)) j))) (s.mono (e1.trans e2)) p⟩
/-- o[i] += e, o a cell that is a list of ints -/
theorem sx_augL {to ti te : TE} {f : Int → Int → Int} (h : Ev S ρ to fun S1 o => Ev S1 ρ ti fun S2 i => ∃ (a : Addr) (l : List D) (j : Nat) (x : Int), o = .ref a ∧ i = .int (j : Nat) ∧ S2 a = some (.lst l) ∧ l[j]? = some (.int x) ∧
    Ev S2 ρ te fun S3 y => ∃ z, y = .int z ∧ S3 a = some (.lst l) ∧ E.nx (S3.put a (.lst (l.set j (.int (f x z))))) ρ) : Sx S ρ (tAugS to ti te (rGetL K) (ipI f) rSetL) E := fun F G H σ w s N c =>
  h F G H σ w s _ fun v1 d1 S1 G1 H1 e1 w1 p1 r1 => p1 F G1 H1 σ w1 (s.mono e1) _ fun v2 d2 S2 G2 H2 e2 w2 ⟨a, l, j, x, eo, ei, hs, hx, p⟩ r2 => by
    subst eo ei
    cases r1
    cases r2
    obtain ⟨_, o, ho, cr⟩ := w2.hid a _ hs
    cases cr with
    | @lst _ xs rl =>
      obtain ⟨v, h1, h2⟩ := rl.get hx
      have hj := (List.getElem?_eq_some_iff.mp hx).1
      cases h2
      refine ⟨a, xs, j, .int x, rfl, rfl, SqL.of ho, h1, p F G2 H2 σ w2 (s.mono (e1.trans e2)) _ fun v3 d3 S3 G3 H3 e3 w3 ⟨z, ez, hs3, p3⟩ r3 => ?_⟩
      subst ez
      cases r3
      obtain ⟨_, o3, ho3, cr3⟩ := w3.hid a _ hs3
      cases cr3 with
      | lst rl3 => exact ⟨x, z, rfl, rfl, a, _, (j : Nat), j, rfl, rfl, ho3, by rw [← rl3.length]; exact Evl.ixN_nat hj, c.nx _ _ _ _ _ ((e1.trans e2).trans e3) (w3.mut hs3 (.lst (rl3.set .int j))) (s.mono ((e1.trans e2).trans e3)) p3⟩
end
theorem oGetL {X : Cx} : PGet X (rGetL X.K) := by
  intro pins s σ H o i ov iv Q I r1 r2 hyp
  obtain ⟨p, xs, j, v, rfl, rfl, hq, hv, q⟩ := hyp
  cases r1
  obtain ⟨t, rfl⟩ := r2
  obtain ⟨its, r, pl, hz⟩ := I.list hq
  obtain ⟨u, hu, ru⟩ := r.get hv
  have hl := r.length
  have hn := line63
  have hj := (List.getElem?_eq_some_iff.mp hv).1
  exact PyProof.Rows.getItem_listL (l := its) pl.isList (by omega) (by omega) (by simpa using hu) ⟨v, H, I, ru, q⟩

/-! ### comprehensions -/
section
variable {K : PySem.W.Frag} {S : Sto} {ρ : Env} {wi : TI} {g : TG} {tt : TT} {te : TE} {vs : List Nat} {P : Sto → D → Prop}
/-- a comprehension's turns: I by the turn, the cells, what is made so far -/
def Comp (S1 : Sto) (ρ : Env) (vs : List Nat) (g : TG) (tt : TT) (te : TE) (T : DIt) (Fin : Sto → List D → Prop) : Prop :=
  T.items.length ≤ 16777216 ∧ ∃ I : Nat → Sto → List D → Prop, I 0 S1 [] ∧ (∀ i S' acc, i ≤ T.items.length → I i S' acc → T.need S') ∧
      (∀ i d S' acc, T.items[i]? = some d → I i S' acc → acc.length ≤ i → GD S' (wipeD ρ vs) g d fun S2 ρ2 => EvT S2 ρ2 tt fun S3 b => (b = true → Ev S3 ρ2 te fun S4 y => I (i + 1) S4 (acc ++ [y])) ∧ (b = false → I (i + 1) S3 acc)) ∧
      ∀ S' acc, acc.length ≤ T.items.length → I T.items.length S' acc → Fin S' acc
theorem wipe_at : ∀ (vs : List Nat) (τ : L2.St) (i : Nat), i ∈ vs → i < τ.length → (L2.wipe τ vs)[i]? = some none
  | v :: vs, τ, i, hi, hl => by
    show ((L2.wipe τ vs).set v none)[i]? = some none
    by_cases e : v = i
    · subst e
      exact List.getElem?_set_self (by rw [wipe_length]; exact hl)
    · rw [List.getElem?_set_ne e]
      rcases List.mem_cons.mp hi with z | z
      · exact absurd z.symm e
      · exact wipe_at vs τ i z hl
theorem wipe_off : ∀ (vs : List Nat) (τ : L2.St) (i : Nat), i ∉ vs → (L2.wipe τ vs)[i]? = τ[i]?
  | [], _, _, _ => rfl
  | v :: vs, τ, i, hi => by
    show ((L2.wipe τ vs).set v none)[i]? = τ[i]?
    rw [List.getElem?_set_ne fun e => hi (by rw [e]; exact List.mem_cons_self)]
    exact wipe_off vs τ i fun e => hi (List.mem_cons_of_mem _ e)
theorem wipe_eq {vs : List Nat} {τ τ' : L2.St} (hl : τ.length = τ'.length) (h : ∀ i, i ∉ vs → τ[i]? = τ'[i]?) : L2.wipe τ vs = L2.wipe τ' vs := by
  refine List.ext_getElem? fun i => ?_
  by_cases hi : i ∈ vs
  · by_cases hz : i < τ.length
    · rw [wipe_at vs τ i hi hz, wipe_at vs τ' i hi (by omega)]
    · rw [List.getElem?_eq_none (by rw [wipe_length]; omega), List.getElem?_eq_none (by rw [wipe_length]; omega)]
  · rw [wipe_off vs τ i hi, wipe_off vs τ' i hi, h i hi]
theorem wipe_set (τ : L2.St) {j : Nat} (x : Option V) {vs : List Nat} (hj : j ∈ vs) : L2.wipe (τ.set j x) vs = L2.wipe τ vs :=
  wipe_eq (by rw [List.length_set]) fun i hi => List.getElem?_set_ne fun e => hi (by rw [← e]; exact hj)
theorem wipe_wipe (τ : L2.St) (vs : List Nat) : L2.wipe (L2.wipe τ vs) vs = L2.wipe τ vs := wipe_eq (by rw [wipe_length]) fun i hi => wipe_off vs τ i hi
/-- targets that store the block's own names alone -/
def OwnG (g : TG) (vs : List Nat) : Prop := ∀ (τ : L2.St) (x : V) (H : Hp) (Q : L2.St → Hp → Prop), g x τ H Q → g x τ H fun σ2 H2 => L2.wipe σ2 vs = L2.wipe τ vs ∧ Q σ2 H2
def OwnGs (t : TGs) (vs : List Nat) : Prop := ∀ (τ : L2.St) (xs : List V) (H : Hp) (Q : L2.St → Hp → Prop), t xs τ H Q → t xs τ H fun σ2 H2 => L2.wipe σ2 vs = L2.wipe τ vs ∧ Q σ2 H2
theorem OwnG.go {g : TG} {vs : List Nat} (gw : OwnG g vs) {σ : L2.St} {x : V} {H : Hp} {Q : L2.St → Hp → Prop} (h : g x (L2.wipe σ vs) H Q) : g x (L2.wipe σ vs) H fun σ2 H2 => L2.wipe σ2 vs = L2.wipe σ vs ∧ Q σ2 H2 := by
  have z := gw _ _ _ _ h
  rw [wipe_wipe] at z
  exact z
theorem own_name {j : Nat} {vs : List Nat} (hj : j ∈ vs) : OwnG (gName j) vs := fun τ x H Q h => ⟨wipe_set τ (some x) hj, h⟩
theorem own_nil {vs : List Nat} : OwnGs gNil vs := fun τ xs H Q h => ⟨h.1, rfl, h.2⟩
theorem own_cons {t : TGs} {j : Nat} {vs : List Nat} (hj : j ∈ vs) (h : OwnGs t vs) : OwnGs (gCons (gName j) t) vs := fun τ xs H Q q => by
  obtain ⟨v, r, e, q2⟩ := q
  refine ⟨v, r, e, ?_⟩
  have z := h _ r H Q q2
  rw [wipe_set τ (some v) hj] at z
  exact z
theorem own_tup {K : PySem.W.Frag} {t : TGs} {n : Nat} {vs : List Nat} (h : OwnGs t vs) : OwnG (gTup K n t) vs := fun τ x H Q q => by
  obtain ⟨a, xs, e, hs, hl, q2⟩ := q
  exact ⟨a, xs, e, hs, hl, h _ _ _ _ q2⟩
theorem lc_gen {Fin : Sto → List D → Prop} (gw : OwnG g vs)
    (h : EvI S ρ wi fun S1 T => Comp S1 ρ vs g tt te T Fin) (F G H : Hp) (σ : L2.St) (w : Wd S F G H) (s : Slots G ρ σ) (Q : VK)
    (k : ∀ S' acc G' H' D0 xs, Same G G' → F D0 = none → Wd S' (upd F D0 (.lst xs)) G' H' → Reps G' acc xs → Fin S' acc → Q (.ref D0) H') : tLc wi g tt te vs σ H Q :=
  h F G H σ w s _ fun J T S1 G1 H1 e1 w1 ir ⟨hz, I, h0, hn, ht, hd⟩ D0 hD => by
    have fD := w1.ffree hD
    refine ⟨fun i m H' => m = T.items.length - i ∧ i ≤ T.items.length ∧ ∃ S' acc xs G', Same G1 G' ∧ Wd S' (upd F D0 (.lst xs)) G' H' ∧ Reps G' acc xs ∧ acc.length ≤ i ∧ I i S' acc, ⟨_, rfl, Nat.zero_le _, S1, [], [], G1, Same.refl _, w1.aside hD, .nil, Nat.le_refl _, h0⟩, ?_⟩
    rintro i m H' ⟨rfl, hi, S', acc, xs, G', e', w', r', hl, hI⟩
    obtain ⟨go, stop⟩ := ir S' _ G' H' e' w' (hn i S' acc hi hI)
    by_cases hlt : i < T.items.length
    · obtain ⟨g1, g2⟩ := go i hlt
      refine .inr ⟨g1, fun H2 => ∃ S2 acc2 xs2 G2, Same G1 G2 ∧ Wd S2 (upd F D0 (.lst xs2)) G2 H2 ∧ Reps G2 acc2 xs2 ∧ acc2.length ≤ i + 1 ∧ I (i + 1) S2 acc2, fun H2 q => ⟨T.items.length - (i + 1), by omega, rfl, hlt, q⟩, fun x H2 y => ?_⟩
      obtain ⟨G2, d, e2, w2, hd2, r2⟩ := g2 x H2 y
      have sl : Slots G2 (wipeD ρ vs) (L2.wipe σ vs) := ((s.mono e1).mono (e'.trans e2)).wipe vs
      refine gw.go (ht i d S' acc hd2 hI hl _ G2 H2 _ x w2 sl r2 _ fun S3 ρ3 G3 H3 σ3 e3 w3 s3 p3 => ?_)
      refine p3 _ G3 H3 σ3 w3 s3 _ fun b S4 G4 H4 e4 w4 ⟨p4, p5⟩ => ?_
      have ee : Same G' G4 := (e2.trans e3).trans e4
      cases b with
      | true =>
        show te σ3 H4 _
        refine p4 rfl _ G4 H4 σ3 w4 (s3.mono e4) _ fun v d5 S5 G5 H5 e5 w5 p6 r5 => ?_
        have hD5 := (w5.frm D0 _ upd_same).1
        refine ⟨xs, hD5, by rw [← r'.length, sizeLine_eq]; omega, S5, acc ++ [d5], xs ++ [v], G5, (e'.trans ee).trans e5, w5.aside_mut, (r'.mono (ee.trans e5)).append (.cons r5 .nil), by rw [List.length_append]; simp; exact hl, p6⟩
      | false => exact ⟨S4, acc, xs, G4, e'.trans ee, w4, r'.mono ee, by omega, p5 rfl⟩
    · have e : i = T.items.length := by omega
      subst e
      exact .inl ⟨stop, k S' acc G' H' D0 xs (e1.trans e') fD w' r' (hd S' acc hl hI)⟩
theorem ev_lc (gw : OwnG g vs) (h : EvI S ρ wi fun S1 T => Comp S1 ρ vs g tt te T fun S2 acc => P S2 (.lst acc)) : Ev S ρ (tLc wi g tt te vs) P := fun F G H σ w s Q k =>
  lc_gen gw h F G H σ w s Q fun S' acc G' H' D0 xs e fD w' r p => by
    obtain ⟨w2, g0⟩ := w'.asideD fD
    exact k _ _ _ _ _ (e.trans (same_new g0)) w2 p (.lst upd_same (r.mono (same_new g0)))
/-- the list that is made is a cell -/
theorem ev_lcH (gw : OwnG g vs) (h : EvI S ρ wi fun S1 T => Comp S1 ρ vs g tt te T fun S2 acc => ∀ p, S2 p = none → P (S2.put p (.lst acc)) (.ref p)) : Ev S ρ (tLc wi g tt te vs) P := fun F G H σ w s Q k =>
  lc_gen gw h F G H σ w s Q fun S' acc G' H' D0 xs e fD w' r p => by
    obtain ⟨w2, s0⟩ := w'.asideH (c := .lst acc) fD (.lst r)
    exact k _ _ _ _ _ e w2 (p D0 s0) .ref
/-- a target of one name -/
theorem comp_name {S1 : Sto} {j : Nat} {T : DIt} {Fin : Sto → List D → Prop} (hz : T.items.length ≤ 16777216) (I : Nat → Sto → List D → Prop) (h0 : I 0 S1 []) (hn : ∀ i S' acc, i ≤ T.items.length → I i S' acc → T.need S')
    (ht : ∀ i d S' acc, T.items[i]? = some d → I i S' acc → acc.length ≤ i → EvT S' ((wipeD ρ vs).set j (some d)) tt fun S3 b => (b = true → Ev S3 ((wipeD ρ vs).set j (some d)) te fun S4 y => I (i + 1) S4 (acc ++ [y])) ∧ (b = false → I (i + 1) S3 acc))
    (hd : ∀ S' acc, acc.length ≤ T.items.length → I T.items.length S' acc → Fin S' acc) : Comp S1 ρ vs (gName j) tt te T Fin := ⟨hz, I, h0, hn, fun i d S' acc hx hI hl => gd_name (ht i d S' acc hx hI hl), hd⟩
end
end AK
set_option Elab.async false
set_option linter.all false
set_option maxRecDepth 100000
set_option maxHeartbeats 4000000
/-! More built-ins over data: comparisons of whole data, sorted of tuples, isinstance, dicts, classes held by names. -/
namespace AK
open PySem PySem.Spec PyProof.Rows L2
/-! ### data as the library has it -/
mutual
def toPy : D → PyData
  | .non => .none
  | .bl b => .bool b
  | .int i => .int i
  | .str s => .str s
  | .lst l => .list (toPys l)
  | .tup l => .tuple (toPys l)
  | _ => .dict []
def toPys : List D → List PyData
  | [] => []
  | x :: r => toPy x :: toPys r
end
mutual
def plain : D → Bool
  | .non => true
  | .bl _ => true
  | .int _ => true
  | .str _ => true
  | .lst l => plains l
  | .tup l => plains l
  | _ => false
def plains : List D → Bool
  | [] => true
  | x :: r => plain x && plains r
end
section
variable {K : PySem.W.Frag}
mutual
theorem Rep.dp {G H : Hp} (e : Same G H) : ∀ (d : D) (v : V), plain d = true → Rep G d v → Dp K H v (toPy d)
  | .non, _, _, r => by
    cases r
    exact .non
  | .bl b, _, _, r => by
    cases r
    exact .bl b
  | .int i, _, _, r => by
    cases r
    exact .int i
  | .str s, _, _, r => by
    cases r
    exact .str s
  | .lst l, _, p, r => by
    cases r with
    | lst h rr => exact .lst (SqL.of (e _ _ h)) (Reps.dp e l _ p rr)
  | .tup l, _, p, r => by
    cases r with
    | tup h rr => exact .tup (SqT.of (e _ _ h)) (Reps.dp e l _ p rr)
  | .ob _ _ _, _, p, _ => by cases p
  | .ref _, _, p, _ => by cases p
  | .ty _, _, p, _ => by cases p
  | .scr _ _, _, p, _ => by cases p
theorem Reps.dp {G H : Hp} (e : Same G H) : ∀ (l : List D) (vs : List V), plains l = true → Reps G l vs → DpAll K H vs (toPys l)
  | [], _, _, r => by
    cases r
    exact .nil
  | x :: l, _, p, r => by
    cases r with
    | cons h t =>
      have p2 : (plain x && plains l) = true := p
      rw [Bool.and_eq_true] at p2
      exact .cons (Rep.dp e x _ p2.1 h) (Reps.dp e l _ p2.2 t)
end
end
theorem toPys_map {α : Type} (f : α → D) : ∀ l : List α, toPys (l.map f) = l.map fun x => toPy (f x)
  | [] => rfl
  | x :: l => congrArg (toPy (f x) :: ·) (toPys_map f l)
theorem plains_map {α : Type} (f : α → D) (h : ∀ x, plain (f x) = true) : ∀ l : List α, plains (l.map f) = true
  | [] => rfl
  | x :: l => by
    show (plain (f x) && plains (l.map f)) = true
    rw [h x, plains_map f h l]
    rfl
/-- a text and a number -/
def pairD (p : Str × Int) : D := .tup [.str p.1, .int p.2]
def pairI (p : Int × Str) : D := .tup [.int p.1, .str p.2]
theorem shaped_of {d : PyData} (h1 : d.canLay0 = true) (h2 : d.depth ≤ 64) : SeqAt.shaped d = true := by
  show (d.canLay0 && decide (d.depth ≤ 64)) = true
  rw [h1, decide_eq_true h2]
  rfl
theorem canLay_all {α : Type} (f : α → PyData) : ∀ l : List α, (∀ x ∈ l, (f x).canLay0 = true) → PyData.canLayAll0 (l.map f) = true
  | [], _ => by simp [PyData.canLayAll0]
  | x :: l, h => by simp [PyData.canLayAll0, h x List.mem_cons_self, canLay_all f l fun y hy => h y (List.mem_cons_of_mem _ hy)]
theorem depth_all {α : Type} (f : α → PyData) {n : Nat} (h : ∀ x, (f x).depth ≤ n) : ∀ l : List α, PyData.depthAll (l.map f) ≤ n
  | [] => by simp [PyData.depthAll]
  | x :: l => by
    have a := h x
    have b := depth_all f h l
    simp only [List.map_cons, PyData.depthAll]
    omega
theorem shaped_list {α : Type} (f : α → PyData) (l : List α) (h : ∀ x ∈ l, (f x).canLay0 = true) (h2 : ∀ x, (f x).depth ≤ 8) : SeqAt.shaped (.list (l.map f)) = true := by
  refine shaped_of ?_ ?_
  · simp only [PyData.canLay0]
    exact canLay_all f l h
  · have b := depth_all f h2 l
    simp only [PyData.depth]
    omega
theorem shaped_tuple {α : Type} (f : α → PyData) (l : List α) (h : ∀ x ∈ l, (f x).canLay0 = true) (h2 : ∀ x, (f x).depth ≤ 8) : SeqAt.shaped (.tuple (l.map f)) = true := by
  refine shaped_of ?_ ?_
  · simp only [PyData.canLay0]
    exact canLay_all f l h
  · have b := depth_all f h2 l
    simp only [PyData.depth]
    omega
section
variable {K : PySem.W.Frag} {S : Sto} {ρ : Env} {P : Sto → D → Prop} {d x y : D}
theorem pl_ints (ns : List Int) : plain (.lst (ns.map D.int)) = true := plains_map _ (fun _ => rfl) ns
theorem sh_ints (ns : List Int) : SeqAt.shaped (toPy (.lst (ns.map D.int))) = true := by
  show SeqAt.shaped (.list (toPys (ns.map D.int))) = true
  rw [toPys_map]
  exact shaped_list _ ns (fun x _ => by simp [toPy, PyData.canLay0]) (fun x => by simp [toPy, PyData.depth])
theorem eqv_ints (ns ms : List Int) : PyData.eqv (toPy (.lst (ns.map D.int))) (toPy (.lst (ms.map D.int))) = decide (ns = ms) := by
  show PyData.eqv (.list (toPys (ns.map D.int))) (.list (toPys (ms.map D.int))) = _
  rw [toPys_map, toPys_map]
  show PyData.eqv (.list (ns.map PyData.int)) (.list (ms.map PyData.int)) = _
  simp only [PyData.eqv]
  exact PySem.W.ked_eqvAll ns ms
theorem rd_eqL {ns ms : List Int} (q : P S (.bl (decide (ns = ms)))) : R2D (rEqD K) S (.lst (ns.map D.int)) (.lst (ms.map D.int)) P := fun F G H vx vy w r1 r2 Q k =>
  ⟨_, _, r1.dp w.ext _ _ (pl_ints ns), r2.dp w.ext _ _ (pl_ints ms), sh_ints ns, sh_ints ms, by rw [eqv_ints]; exact k _ _ _ _ _ (Same.refl _) w q .bl⟩
theorem rd_neL {ns ms : List Int} (q : P S (.bl (!decide (ns = ms)))) : R2D (rNeD K) S (.lst (ns.map D.int)) (.lst (ms.map D.int)) P := fun F G H vx vy w r1 r2 Q k =>
  ⟨_, _, r1.dp w.ext _ _ (pl_ints ns), r2.dp w.ext _ _ (pl_ints ms), sh_ints ns, sh_ints ms, by rw [eqv_ints]; exact k _ _ _ _ _ (Same.refl _) w q .bl⟩
theorem eqv_pair (p q : Str × Int) : PyData.eqv (toPy (pairD p)) (toPy (pairD q)) = decide (p = q) := by
  obtain ⟨a, b⟩ := p
  obtain ⟨a', b'⟩ := q
  show PyData.eqv (.tuple [.str a, .int b]) (.tuple [.str a', .int b']) = _
  simp only [PyData.eqv, PyData.eqvAll, Bool.and_true]
  by_cases h1 : a = a'
  · by_cases h2 : b = b'
    · simp [h1, h2]
    · simp [h1, h2]
  · simp [h1]
theorem any_pair (p : Str × Int) (ps : List (Str × Int)) : ((ps.map fun z => toPy (pairD z)).any fun z => PyData.eqv z (toPy (pairD p))) = decide (p ∈ ps) := by
  induction ps with
  | nil => rfl
  | cons q ps ih =>
    rw [List.map_cons, List.any_cons, ih, eqv_pair]
    by_cases h : q = p
    · subst h
      simp
    · have h2 : ¬ p = q := fun e => h e.symm
      simp [h, h2]
theorem pl_pair (p : Str × Int) : plain (pairD p) = true := rfl
theorem rd_ninP {p : Str × Int} {ps : List (Str × Int)} (h1 : PyData.strOk p.1 = true) (h2 : ∀ z ∈ ps, PyData.strOk z.1 = true) (q : P S (.bl (!decide (p ∈ ps)))) : R2D (rNotInD K) S (pairD p) (.lst (ps.map pairD)) P := fun F G H vx vy w r1 r2 Q k => by
  have e : toPy (.lst (ps.map pairD)) = .list (ps.map fun z => toPy (pairD z)) := by
    show PyData.list (toPys (ps.map pairD)) = _
    rw [toPys_map]
  have r2' := Rep.dp (K := K) w.ext (.lst (ps.map pairD)) vy (plains_map _ pl_pair ps) r2
  rw [e] at r2'
  refine ⟨_, _, Rep.dp w.ext (pairD p) _ (pl_pair p) r1, r2', ?_, ?_, by rw [any_pair]; exact k _ _ _ _ _ (Same.refl _) w q .bl⟩
  · refine shaped_of ?_ ?_ <;> simp [pairD, toPy, toPys, PyData.canLay0, PyData.canLayAll0, PyData.depth, PyData.depthAll, h1]
  · exact shaped_list _ ps (fun x hx => by simp [pairD, toPy, toPys, PyData.canLay0, PyData.canLayAll0, h2 x hx]) (fun x => by simp [pairD, toPy, toPys, PyData.depth, PyData.depthAll])
/-! ### told < best -/
def rLtTold (K : PySem.W.Frag) : R2 := fun x y H Q => ∃ d e, Dp K H x d ∧ Dp K H y e ∧ PySem.W.alike d e = true ∧ d ≠ .none ∧ d.depth ≤ 60 ∧ Q (.bl (PySem.W.dataLt d e)) H
theorem oLtTold {X : Cx} (hu : X.A.units + 64 < cLine) : OpR X (compareOp .Lt) (rLtTold X.K) := by
  intro pins s σ H x y v u Q I rx ry hyp
  obtain ⟨d, e, hd, he, ha, hn, hz, q⟩ := hyp
  obtain ⟨as, r1⟩ := Dp.reads I d x v hd rx
  obtain ⟨bs, r2⟩ := Dp.reads I e y u he ry
  have R := PySem.W.rcLt_alike d e X.A s v u as bs r1 r2 ha hn (by omega)
  have z : wpAny (model X.prog X.w) X.A (compareOp .Lt v u) (EP X pins σ Q) X.xe s := R X.prog X.w X.xe (EP X pins σ Q) ⟨.bl _, H, I, rfl, q⟩
  exact z
def toldD (p : Int × List Int) : D := .tup [.int p.1, .tup (p.2.map D.int)]
def rowLtB (r r' : List Int) : Bool := if PyData.eqv (.tuple (r.map .int)) (.tuple (r'.map .int)) = true then false else PySem.W.dataLt (.tuple (r.map .int)) (.tuple (r'.map .int))
def toldLt (p q : Int × List Int) : Bool := if p.1 = q.1 then rowLtB p.2 q.2 else decide (p.1 < q.1)
theorem toPy_told (p : Int × List Int) : toPy (toldD p) = .tuple [.int p.1, .tuple (p.2.map .int)] := by
  show PyData.tuple [.int p.1, .tuple (toPys (p.2.map D.int))] = _
  rw [toPys_map]
  rfl
theorem alike_rows (r r' : List Int) : PySem.W.alike (.tuple (r.map .int)) (.tuple (r'.map .int)) = true := by
  show PySem.W.alike (.tuple _) (.tuple _) = true
  rw [PySem.W.alike]
  exact PySem.W.alike_ints r r'
theorem alike_int (a b : Int) : PySem.W.alike (.int a) (.int b) = true := by simp [PySem.W.alike]
theorem told_lt (p q : Int × List Int) : PySem.W.dataLt (toPy (toldD p)) (toPy (toldD q)) = toldLt p q := by
  rw [toPy_told, toPy_told, PySem.W.dataLt_pair (alike_int _ _) (alike_rows _ _), PySem.W.dataLt_int]
  unfold toldLt rowLtB
  by_cases h : p.1 = q.1
  · have e : PyData.eqv (.int p.1) (.int q.1) = true := by simp [PyData.eqv, h]
    rw [if_pos e, if_pos h]
  · have e : ¬ PyData.eqv (.int p.1) (.int q.1) = true := by simp [PyData.eqv, h]
    rw [if_neg e, if_neg h]
theorem pl_told (p : Int × List Int) : plain (toldD p) = true := by
  show (plain (.int p.1) && (plain (.tup (p.2.map D.int)) && true)) = true
  have : plain (.tup (p.2.map D.int)) = true := plains_map _ (fun _ => rfl) p.2
  rw [this]
  rfl
theorem depth_ints (r : List Int) : PyData.depthAll (r.map .int) = 0 := PySem.W.depth_ints r
theorem rd_ltTold {p q : Int × List Int} (k : P S (.bl (toldLt p q))) : R2D (rLtTold K) S (toldD p) (toldD q) P := fun F G H vx vy w r1 r2 Q c => by
  refine ⟨_, _, Rep.dp w.ext (toldD p) _ (pl_told p) r1, Rep.dp w.ext (toldD q) _ (pl_told q) r2, ?_, ?_, ?_, by rw [told_lt]; exact c _ _ _ _ _ (Same.refl _) w k .bl⟩
  · rw [toPy_told, toPy_told, PySem.W.alike, PySem.W.alikeAll, alike_int, PySem.W.alikeAll, alike_rows]
    rfl
  · rw [toPy_told]
    exact fun e => nomatch e
  · rw [toPy_told]
    simp only [PyData.depth, PyData.depthAll, depth_ints]
    omega
/-! ### sorted of pairs: a permutation -/
def rSortedPm (K : PySem.W.Frag) : List V → Hp → VK → Prop := fun vs H Q => ∃ (a : Addr) (xs : List V) (ds : List PyData), vs = [V.ref a] ∧ SqL K H a xs ∧ DpAll K H xs ds ∧ PySem.W.AllAlike ds ∧ PySem.W.Sortable ds ∧ (∀ d ∈ ds, d.depth ≤ 20) ∧
  ∀ (ys : List V) (p : Addr), ys.Perm xs → H p = none → Q (.ref p) (upd H p (.lst ys))
theorem dpAll_len {H : Hp} : ∀ {xs : List V} {ds : List PyData}, DpAll K H xs ds → xs.length = ds.length
  | _, _, .nil => rfl
  | _, _, .cons _ t => congrArg Nat.succ (dpAll_len t)
theorem each_zip {X : Cx} {pins : List (Addr × Obj)} {σ : L2.St} {H : Hp} {s : Shared} (I : Inv X pins σ H s) : ∀ {its : List Value} {xs : List V} {ds : List PyData}, Vals xs its → DpAll X.K H xs ds →
    PySem.W.EachIs (fun v (b : V × PyData) => RelV b.1 v) its (xs.zip ds) ∧ PySem.W.EachIs (fun v (b : V × PyData) => ∃ as, Reads s.heap v b.2 as) its (xs.zip ds)
  | _, _, _, .nil, .nil => ⟨.nil, .nil⟩
  | _, _, _, .cons r rv, .cons h t => by
    obtain ⟨i1, i2⟩ := each_zip I rv t
    exact ⟨.cons r i1, .cons (Dp.reads I _ _ _ h r) i2⟩
theorem vals_each : ∀ {out : List Value} {bs : List (V × PyData)}, PySem.W.EachIs (fun v (b : V × PyData) => RelV b.1 v) out bs → Vals (bs.map (·.1)) out
  | _, _, .nil => .nil
  | _, _, .cons h t => .cons h (vals_each t)
theorem oSortedPm {X : Cx} (hu : X.A.units + 64 < cLine) : CallR X (.builtin "sorted") (rSortedPm X.K) := by
  intro pins s σ H vs us Q I r hyp
  obtain ⟨a, xs, ds, rfl, hs, hd, hal, hk, hz, q⟩ := hyp
  obtain ⟨its, rv, hl, hsz⟩ := I.list hs
  rw [Vals.ref1 r]
  obtain ⟨e1, e2⟩ := each_zip I rv hd
  have hlen := dpAll_len hd
  have m2 : (xs.zip ds).map (·.2) = ds := by
    rw [List.map_snd_zip]
    omega
  have m1 : (xs.zip ds).map (·.1) = xs := by
    rw [List.map_fst_zip]
    omega
  refine PySem.W.sorted_data (enc := fun b : V × PyData => b.2) (vs := its) (bs := xs.zip ds) hl.isList e1 e2 (by rw [m2]; exact hal) (by rw [m2]; exact hk) (by rw [List.length_zip, hlen, Nat.min_self, ← hlen]; exact hsz) (fun b hb => ?_) fun out ho eo => ?_
  · have hm : b.2 ∈ ds := by
      rw [← m2]
      exact List.mem_map.mpr ⟨b, hb, rfl⟩
    have := hz _ hm
    omega
  · obtain ⟨ep, he'⟩ := PyProof.Rows.sortedAll_at s.heap its out.toArray
    have pm : (((xs.zip ds).mergeSort (PySem.W.dataLe false fun b : V × PyData => b.2)).map (·.1)).Perm xs := by
      have z := (List.mergeSort_perm (xs.zip ds) (PySem.W.dataLe false fun b : V × PyData => b.2)).map (·.1)
      rw [m1] at z
      exact z
    have vo := vals_each eo
    refine ⟨.ref _, upd H (s.heap.objs.size + 1) (.lst _), I.laid (t' := s.toks) (fun _ _ => PyProof.Rows.sortedAll_old) (Nat.le_succ _) ⟨?_, out, ep, vo, he'⟩, rfl, q _ _ pm (I.hok.fresh (Nat.le_succ _))⟩
    rw [pm.length_eq]
    exact hsz
theorem Reps.perm {G : Hp} : ∀ {xs ys : List V}, ys.Perm xs → ∀ {l : List D}, Reps G l xs → ∃ m : List D, m.Perm l ∧ Reps G m ys := by
  intro xs ys p
  induction p with
  | nil => intro l r; exact ⟨l, .refl _, r⟩
  | cons x p ih =>
    intro l r
    cases r with
    | cons h t =>
      obtain ⟨m, pm, rm⟩ := ih t
      exact ⟨_ :: m, pm.cons _, .cons h rm⟩
  | swap x y l' =>
    intro l r
    cases r with
    | cons h t =>
      cases t with
      | cons h2 t2 => exact ⟨_, List.Perm.swap _ _ _, .cons h2 (.cons h t2)⟩
  | trans p1 p2 ih1 ih2 =>
    intro l r
    obtain ⟨m, pm, rm⟩ := ih2 r
    obtain ⟨m', pm', rm'⟩ := ih1 rm
    exact ⟨m', pm'.trans pm, rm'⟩
theorem rc_sortedPD {ps : List (Str × Int)} (q : ∀ ps' : List (Str × Int), ps'.Perm ps → P S (.lst (ps'.map pairD))) : RCD (rSortedPm K) S [.lst (ps.map pairD)] P := fun F G H vs w r Q k => by
  cases r with
  | cons r t =>
    cases t
    cases r with
    | @lst a _ xs ha rr =>
      have dp := Reps.dp (K := K) w.ext _ _ (plains_map _ pl_pair ps) rr
      refine ⟨a, xs, _, rfl, SqL.of (w.ext _ _ ha), dp, ?_, ?_, ?_, fun ys p pm hp => ?_⟩
      · rw [toPys_map]
        exact PySem.W.AllAlike.of fun b b' => by simp [pairD, toPy, toPys, PySem.W.alike, PySem.W.alikeAll]
      · rw [toPys_map]
        exact PySem.W.Sortable.tuples fun b => ⟨_, _, by simp only [pairD, toPy, toPys]; rfl⟩
      · rw [toPys_map]
        intro d hd
        obtain ⟨z, _, rfl⟩ := List.mem_map.mp hd
        simp [pairD, toPy, toPys, PyData.depth, PyData.depthAll]
      · obtain ⟨m, pm2, rm⟩ := rr.perm pm
        obtain ⟨ps', hps, em⟩ : ∃ ps' : List (Str × Int), ps'.Perm ps ∧ m = ps'.map pairD := by
          have inj : ∀ x y : Str × Int, pairD x = pairD y → x = y := fun x y e => by
            obtain ⟨a, b⟩ := x
            obtain ⟨a', b'⟩ := y
            simp only [pairD, D.tup.injEq, List.cons.injEq, D.str.injEq, D.int.injEq] at e
            rw [e.1, e.2.1]
          let un : D → Str × Int := fun d => match d with
            | .tup [.str a, .int b] => (a, b)
            | _ => (Str.empty, 0)
          have hun : ∀ z, un (pairD z) = z := fun z => rfl
          refine ⟨m.map un, ?_, ?_⟩
          · have z := pm2.map un
            rw [List.map_map] at z
            have e : (un ∘ pairD) = id := funext hun
            rw [e, List.map_id] at z
            exact z
          · rw [List.map_map]
            have hm : ∀ z ∈ m, pairD (un z) = z := fun z hz => by
              obtain ⟨p', _, rfl⟩ := List.mem_map.mp (pm2.mem_iff.mp hz)
              rfl
            exact (List.map_congr_left (g := id) hm).trans (List.map_id m) |>.symm
        subst em
        exact k _ _ _ _ _ (same_new (w.gfree hp)) (w.newD hp) (q ps' hps) (.lst upd_same (rm.mono (same_new (w.gfree hp))))
theorem rc_sortedPI {ps : List (Int × Str)} (q : ∀ ps' : List (Int × Str), ps'.Perm ps → P S (.lst (ps'.map pairI))) : RCD (rSortedPm K) S [.lst (ps.map pairI)] P := fun F G H vs w r Q k => by
  cases r with
  | cons r t =>
    cases t
    cases r with
    | @lst a _ xs ha rr =>
      have dp := Reps.dp (K := K) w.ext _ _ (plains_map _ (fun _ => rfl) ps) rr
      refine ⟨a, xs, _, rfl, SqL.of (w.ext _ _ ha), dp, ?_, ?_, ?_, fun ys p pm hp => ?_⟩
      · rw [toPys_map]
        exact PySem.W.AllAlike.of fun b b' => by simp [pairI, toPy, toPys, PySem.W.alike, PySem.W.alikeAll]
      · rw [toPys_map]
        exact PySem.W.Sortable.tuples fun b => ⟨_, _, by simp only [pairI, toPy, toPys]; rfl⟩
      · rw [toPys_map]
        intro d hd
        obtain ⟨z, _, rfl⟩ := List.mem_map.mp hd
        simp [pairI, toPy, toPys, PyData.depth, PyData.depthAll]
      · obtain ⟨m, pm2, rm⟩ := rr.perm pm
        obtain ⟨ps', hps, em⟩ : ∃ ps' : List (Int × Str), ps'.Perm ps ∧ m = ps'.map pairI := by
          let un : D → Int × Str := fun d => match d with
            | .tup [.int a, .str b] => (a, b)
            | _ => (0, Str.empty)
          have hun : ∀ z, un (pairI z) = z := fun z => rfl
          refine ⟨m.map un, ?_, ?_⟩
          · have z := pm2.map un
            rw [List.map_map] at z
            have e : (un ∘ pairI) = id := funext hun
            rw [e, List.map_id] at z
            exact z
          · rw [List.map_map]
            have hm : ∀ z ∈ m, pairI (un z) = z := fun z hz => by
              obtain ⟨p', _, rfl⟩ := List.mem_map.mp (pm2.mem_iff.mp hz)
              rfl
            exact (List.map_congr_left (g := id) hm).trans (List.map_id m) |>.symm
        subst em
        exact k _ _ _ _ _ (same_new (w.gfree hp)) (w.newD hp) (q ps' hps) (.lst upd_same (rm.mono (same_new (w.gfree hp))))
/-! ### isinstance -/
def tyN : D → Option String
  | .non => some "NoneType"
  | .bl _ => some "bool"
  | .int _ => some "int"
  | .str _ => some "str"
  | .lst _ => some "list"
  | .tup _ => some "tuple"
  | _ => none
theorem tyN_of {G H : Hp} {v : V} {n : String} (e : Same G H) (h : tyN x = some n) (r : Rep G x v) : TyX K H v (.type n) := by
  cases r with
  | non => cases h; exact .base .non
  | bl => cases h; exact .base (.bl _)
  | int => cases h; exact .base (.int _)
  | str => cases h; exact .base (.str _)
  | lst h' _ => cases h; exact .base (.lst (e _ _ h'))
  | tup h' _ => cases h; exact .base (.tup (e _ _ h'))
  | ref => cases h
  | ty => cases h
  | scr _ => cases h
  | ob _ _ _ => cases h
theorem rc_isi {a b : String} {r : Bool} (h : tyN x = some a) (hk : kitB a b = some r) (q : P S (.bl r)) : RCD (rIsi K) S [x, .ty b] P := fun F G H vs w rr Q k => by
  cases rr with
  | cons r1 t =>
    cases t with
    | cons r2 t =>
      cases t
      cases r2
      exact ⟨_, _, _, _, r, rfl, .ty b, tyN_of w.ext h r1, kit_ty hk, k _ _ _ _ _ (Same.refl _) w q .bl⟩
/-! ### dicts -/
def lookD (f : Str) (ks : List Str) (l : List D) : Option D := look f ks l
theorem valV_look {G : Hp} {f : Str} : ∀ {kvs : List (Key × V)} {ks : List Str} {l : List D} {d : D}, kvs.map (·.1) = ks.map (fun k => (Sum.inr k : Key)) → Reps G l (kvs.map (·.2)) → look f ks l = some d →
    ∃ v, valV kvs (Sum.inr f : Key) = some v ∧ Rep G d v
  | [], [], _, _, _, r, h => by
    cases r
    cases h
  | [], _ :: _, _, _, e, _, _ => by cases e
  | _ :: _, [], _, _, e, _, _ => by cases e
  | (k, v) :: kvs, n :: ks, _, d, e, r, h => by
    rw [List.map_cons, List.map_cons] at e
    obtain ⟨e1, e2⟩ := List.cons.inj e
    have e1' : k = Sum.inr n := e1
    subst e1'
    cases r with
    | @cons d0 v0 l0 xs0 hr ht =>
      have h2 : (match f == n with | true => some d0 | false => look f ks l0) = some d := h
      cases q : f == n with
      | true =>
        rw [q] at h2
        cases h2
        have fe : f = n := beq_iff_eq.mp q
        subst fe
        refine ⟨v, ?_, hr⟩
        simp [valV]
      | false =>
        rw [q] at h2
        obtain ⟨v2, z1, z2⟩ := valV_look e2 ht h2
        refine ⟨v2, ?_, z2⟩
        have ne : ¬ (Sum.inr n : Key) = Sum.inr f := fun z => by
          have z2 := Sum.inr.inj z
          rw [z2] at q
          simp at q
        rw [← z1]
        simp [valV, ne]
        try (split <;> simp_all)
theorem ev_dget {td ty : TE} (h : Ev S ρ td fun S1 x => Ev S1 ρ ty fun S2 y => ∃ a ks l f d, x = .ref a ∧ y = .str f ∧ S2 a = some (.dk ks l) ∧ look f ks l = some d ∧ P S2 d) : Ev S ρ (tDGet td ty) P := fun F G H σ w s Q k =>
  h F G H σ w s _ fun v1 d1 S1 G1 H1 e1 w1 p1 r1 => p1 F G1 H1 σ w1 (s.mono e1) _ fun v2 d2 S2 G2 H2 e2 w2 ⟨a, ks, l, f, d, ex, ey, hs, hl, p⟩ r2 => by
    subst ex ey
    cases r1
    cases r2
    obtain ⟨_, o, ho, cr⟩ := w2.hid a _ hs
    cases cr with
    | @dk kvs _ _ e rl =>
      obtain ⟨v, h1, h2⟩ := valV_look e rl hl
      refine ⟨a, v, rfl, ?_, k _ _ _ _ _ (e1.trans e2) w2 p h2⟩
      rw [← h1]
      exact DGet.k (k := (Sum.inr f : Key)) ho
end
def kN (x : Str) : Key := Sum.inr x
/-- the network as the law keeps it -/
def NK : List Str := ["variables", "nodes", "links"]
theorem nk1 : ¬ (kN "variables" = kN "links") := by decide +kernel
theorem nk2 : ¬ (kN "nodes" = kN "links") := by decide +kernel
theorem nk3 : ¬ (kN "variables" = kN "nodes") := by decide +kernel
theorem keys3 {kvs : List (Key × V)} (e : kvs.map (·.1) = NK.map (fun k => (Sum.inr k : Key))) : ∃ x y z, kvs = [(kN "variables", x), (kN "nodes", y), (kN "links", z)] := by
  match kvs, e with
  | [(a, x), (b, y), (c, z)], e =>
    have e' : [a, b, c] = [kN "variables", kN "nodes", kN "links"] := e
    cases e'
    exact ⟨x, y, z, rfl⟩
  | [], e =>
    have z := congrArg List.length e
    simp [NK] at z
  | [_], e =>
    have z := congrArg List.length e
    simp [NK] at z
  | [_, _], e =>
    have z := congrArg List.length e
    simp [NK] at z
  | _ :: _ :: _ :: _ :: l, e =>
    have z := congrArg List.length e
    simp [NK] at z
section
variable {K : PySem.W.Frag} {S : Sto} {ρ : Env} {E : DE} {P : Sto → D → Prop}
theorem sx_dputL {td tv : TE} (h : Ev S ρ tv fun S1 v => Ev S1 ρ td fun S2 x => ∃ a dv dn dl, x = .ref a ∧ S2 a = some (.dk NK [dv, dn, dl]) ∧ E.nx (S2.put a (.dk NK [dv, dn, v])) ρ) : Sx S ρ (sDPut td (tC (.str "links")) tv) E := fun F G H σ w s N c =>
  h F G H σ w s _ fun v1 d1 S1 G1 H1 e1 w1 p1 r1 => p1 F G1 H1 σ w1 (s.mono e1) _ fun v2 d2 S2 G2 H2 e2 w2 ⟨a, dv, dn, dl, ex, hs, p⟩ r2 => by
    subst ex
    cases r2
    obtain ⟨_, o, ho, cr⟩ := w2.hid a _ hs
    cases cr with
    | @dk kvs _ _ e rl =>
      obtain ⟨x, y, z, rfl⟩ := keys3 e
      have ep : putK [(kN "variables", x), (kN "nodes", y), (kN "links", z)] (kN "links") v1 = [(kN "variables", x), (kN "nodes", y), (kN "links", v1)] := by
        simp [putK, nk1, nk2]
      refine ⟨a, _, rfl, DPut.k (k := kN "links") ho (by show 3 < sizeLine; decide), ?_⟩
      rw [ep]
      cases rl with
      | cons a1 t1 =>
        cases t1 with
        | cons a2 t2 => exact c.nx _ _ _ _ _ (e1.trans e2) (w2.mut hs (.dk rfl (.cons a1 (.cons a2 (.cons (r1.mono e2) .nil))))) (s.mono (e1.trans e2)) p
theorem ev_disp {t1 t2 t3 : TE} (h : Ev S ρ t1 fun S1 a => Ev S1 ρ t2 fun S2 b => Ev S2 ρ t3 fun S3 c => ∀ p, S3 p = none → P (S3.put p (.dk NK [a, b, c])) (.ref p)) :
    Ev S ρ (tDisp [(tC (.str "variables"), t1), (tC (.str "nodes"), t2), (tC (.str "links"), t3)]) P := fun F G H σ w s Q k p hp => by
  have fp := w.ffree hp
  refine h _ G _ σ (w.aside hp) s _ fun v1 d1 S1 G1 H1 e1 w1 p1 r1 => p1 _ G1 H1 σ w1 (s.mono e1) _ fun v2 d2 S2 G2 H2 e2 w2 p2 r2 => p2 _ G2 H2 σ w2 (s.mono (e1.trans e2)) _ fun v3 d3 S3 G3 H3 e3 w3 p3 r3 => ?_
  have ho := (w3.frm p _ upd_same).1
  refine ⟨ho, [(kN "variables", v1), (kN "nodes", v2), (kN "links", v3)], rfl, by show 3 ≤ 15; decide, ?_⟩
  have em : mergeK [] [(kN "variables", v1), (kN "nodes", v2), (kN "links", v3)] = [(kN "variables", v1), (kN "nodes", v2), (kN "links", v3)] := by
    simp [mergeK, putK, nk1, nk2, nk3]
  rw [em]
  have cr : CRep G3 (.dk NK [d1, d2, d3]) (.dK [(kN "variables", v1), (kN "nodes", v2), (kN "links", v3)]) := .dk rfl (.cons (r1.mono (e2.trans e3)) (.cons (r2.mono e3) (.cons r3 .nil)))
  have w4 : Wd S3 (upd F p (.dK [(kN "variables", v1), (kN "nodes", v2), (kN "links", v3)])) G3 (upd H3 p (.dK [(kN "variables", v1), (kN "nodes", v2), (kN "links", v3)])) := w3.aside_mut
  obtain ⟨w5, s5⟩ := w4.asideH fp cr
  exact k _ _ _ _ _ ((e1.trans e2).trans e3) w5 (p3 p s5) .ref
end
/-! ### a class held by a local name -/
def tMakeL (i : Nat) (C : Addr) (sp : Sp) (dvs : List V) (E : XK) (t : TA) : TE := fun σ H Q => σ[i]? = some (some (.ref C)) ∧ tMake C sp dvs E t σ H Q
section
variable {X : Cx} {CX : CXT} {k i : Nat} {f C : Addr} {fd : FuncData} {ps : List Str} {sp : Sp} {dvs : List V} {ds : List Value} {E : XK} {x : Str} {p pos : Pos} {e : Expr} {es : List Expr} {t : TA}
theorem pe_makeL (M : Mk X.K C f) (F : FnOk X.prog X.w X.K X.mg X.base CX k f fd ps sp) (hr : Room (k + 1) X.A) (hN : X.N[i]? = some x) (hv : Vis X.env.scope x) (hb : Binds X.K fd ps ds) (hd : Vals dvs ds) (hx : Passes CX X E) (ha : PA X (e :: es) t)
    (hdb : (x == ("__debug__" : Str)) = false := by decide) (hcd : (x == ("__classdict__" : Str)) = false := by decide)
    (he : starEach (e :: es) X.env = (false, eval e X.env) :: starEach es X.env := by rfl) (hpl : (backTo pos (starEach es X.env)).any (·.1) = false := by rfl) : PE X (.Call (.Name x p) (e :: es) [] pos) (tMakeL i C sp dvs E t) := by
  refine ⟨fun pins s σ H Q I hyp => ?_⟩
  obtain ⟨hs, ht⟩ := hyp
  refine wpAny_Call_Name_kw (thn ((pe_var (pos := p) hN hv hdb hcd).run pins s σ H (fun v H1 => v = .ref C ∧ H1 = H) I ⟨.ref C, hs, rfl, rfl⟩) fun u s1 ⟨v, H1, I1, r1, q1⟩ => ?_)
  obtain ⟨rfl, rfl⟩ := q1
  cases r1
  refine PySem.W.callWith_K (h₀ := X.base) I.ok.mod.kin M.kp (thn (ha.run pos pins s1 σ _ _ I1 ht) fun us s2 ⟨vs, H2, I2, r, q⟩ => ⟨I2.kIn, ?_⟩) he hpl
  exact run_make M F hr hb hd hx I2 r q
theorem oIndexS : MtR X "str.index" rIndexS := by
  intro pins s σ H x xs v us Q I rx rs hyp
  obtain ⟨a, b, j, rfl, rfl, hj, q⟩ := hyp
  obtain ⟨t, rfl⟩ := rx
  cases rs with
  | cons r1 rs =>
    cases rs
    obtain ⟨u, rfl⟩ := r1
    have hj2 : (Builtin.Str.occurrences a b 0 a.length 1).head? = some j := hj
    cases z : Builtin.Str.occurrences a b 0 a.length 1 with
    | nil =>
      rw [z] at hj2
      cases hj2
    | cons m rest =>
      rw [z] at hj2
      cases hj2
      exact PySem.SC.index z ⟨.int (j : Nat), H, I.tok _, ⟨_, rfl⟩, q⟩
end
section
variable {S : Sto} {ρ : Env} {P : Sto → D → Prop} {sp : Sp} {E : XK} {t : TA}
theorem ev_makeL {i : Nat} {C : Addr} (h0 : ρ[i]? = some (some (.ref C))) (h : Ev S ρ (tMake C sp [] E t) P) : Ev S ρ (tMakeL i C sp [] E t) P := fun F G H σ w s Q k => by
  obtain ⟨v, h1, h2⟩ := s.at_ i _ h0
  cases h2
  exact ⟨h1, h F G H σ w s Q k⟩
end
end AK
set_option Elab.async false
set_option linter.all false
set_option maxRecDepth 100000
set_option maxHeartbeats 4000000
/-! What the head tells, by names. -/
namespace AK
open PySem PySem.Spec PyProof.Rows L2
structure Top (K : PySem.W.Frag) (mg : Str → Option Value) : Prop where
  gm : ∃ h : Heap, K.In h ∧ h.Ns mainGlobals mg
  c : He5.SaysA factsA fnsA K
  e : exA K = true
def fdOf (K : PySem.W.Frag) (a : Addr) : FuncData := match K.lookup a with
  | some ⟨_, _, .func fd, _⟩ => fd
  | _ => default
theorem fd_of {K : PySem.W.Frag} {x qual : Str} {params : Arguments} {body : List Stmt} {scope : Scope} {dvs : List V} {kws : List (Str × V)} {f : Addr} {fd : FuncData} (F : FunD K x qual params body scope dvs kws f fd) : FunD K x qual params body scope dvs kws f (fdOf K f) := by
  have h := F
  obtain ⟨⟨oc, od, dV, kV, doc, pm, an, cdv, ct, osl, e, l, _⟩, _⟩ := h
  have q : fdOf K f = fd := by
    unfold fdOf
    rw [l]
  rw [q]
  exact F
variable {K : PySem.W.Frag} {mg : Str → Option Value}
theorem Top.glo (T : Top K mg) {x : Str} (c : (He.Fa.glo x).ok K = true) : mg x = some (.ref (He.ga K x)) := let ⟨_, X, G⟩ := T.gm; He.glo_ok X G c
theorem Top.fre (T : Top K mg) {x : Str} (c : (He.Fa.free x).ok K = true) : mg x = none := let ⟨_, X, G⟩ := T.gm; He.free_ok X G c
theorem Top.str (T : Top K mg) {x z : Str} (c : (He.Fa.str x z).ok K = true) : ∃ t, mg x = some (.str z t) := let ⟨_, X, G⟩ := T.gm; He.str_ok X G c
theorem Top.int (T : Top K mg) {x : Str} {i : Int} (c : (He.Fa.int x i).ok K = true) : ∃ t, mg x = some (.int i t) := let ⟨_, X, G⟩ := T.gm; He.int_ok X G c
theorem Top.g_is_ascending (T : Top K mg) : mg "is_ascending" = some (.ref (He.ga K "is_ascending")) := T.glo (T.c.fact 0 (f := .glo "is_ascending") rfl)
theorem Top.g_is_message (T : Top K mg) : mg "is_message" = some (.ref (He.ga K "is_message")) := T.glo (T.c.fact 1 (f := .glo "is_message") rfl)
theorem Top.g_is_link (T : Top K mg) : mg "is_link" = some (.ref (He.ga K "is_link")) := T.glo (T.c.fact 2 (f := .glo "is_link") rfl)
theorem Top.g_check_nodes (T : Top K mg) : mg "check_nodes" = some (.ref (He.ga K "check_nodes")) := T.glo (T.c.fact 3 (f := .glo "check_nodes") rfl)
theorem Top.g_check_links (T : Top K mg) : mg "check_links" = some (.ref (He.ga K "check_links")) := T.glo (T.c.fact 4 (f := .glo "check_links") rfl)
theorem Top.g_node_number (T : Top K mg) : mg "node_number" = some (.ref (He.ga K "node_number")) := T.glo (T.c.fact 5 (f := .glo "node_number") rfl)
theorem Top.g_set_mask (T : Top K mg) : mg "set_mask" = some (.ref (He.ga K "set_mask")) := T.glo (T.c.fact 6 (f := .glo "set_mask") rfl)
theorem Top.g_check_link (T : Top K mg) : mg "check_link" = some (.ref (He.ga K "check_link")) := T.glo (T.c.fact 7 (f := .glo "check_link") rfl)
theorem Top.g_check_transmission (T : Top K mg) : mg "check_transmission" = some (.ref (He.ga K "check_transmission")) := T.glo (T.c.fact 8 (f := .glo "check_transmission") rfl)
theorem Top.g_mask_of (T : Top K mg) : mg "mask_of" = some (.ref (He.ga K "mask_of")) := T.glo (T.c.fact 9 (f := .glo "mask_of") rfl)
theorem Top.g_is_feasible (T : Top K mg) : mg "is_feasible" = some (.ref (He.ga K "is_feasible")) := T.glo (T.c.fact 10 (f := .glo "is_feasible") rfl)
theorem Top.g_reduced (T : Top K mg) : mg "reduced" = some (.ref (He.ga K "reduced")) := T.glo (T.c.fact 11 (f := .glo "reduced") rfl)
theorem Top.g_with_link (T : Top K mg) : mg "with_link" = some (.ref (He.ga K "with_link")) := T.glo (T.c.fact 12 (f := .glo "with_link") rfl)
theorem Top.g_helping_links (T : Top K mg) : mg "helping_links" = some (.ref (He.ga K "helping_links")) := T.glo (T.c.fact 13 (f := .glo "helping_links") rfl)
theorem Top.g_chosen (T : Top K mg) : mg "chosen" = some (.ref (He.ga K "chosen")) := T.glo (T.c.fact 14 (f := .glo "chosen") rfl)
theorem Top.g_least_sets (T : Top K mg) : mg "least_sets" = some (.ref (He.ga K "least_sets")) := T.glo (T.c.fact 15 (f := .glo "least_sets") rfl)
theorem Top.g_check_costs (T : Top K mg) : mg "check_costs" = some (.ref (He.ga K "check_costs")) := T.glo (T.c.fact 16 (f := .glo "check_costs") rfl)
theorem Top.g_cheapest (T : Top K mg) : mg "cheapest" = some (.ref (He.ga K "cheapest")) := T.glo (T.c.fact 17 (f := .glo "cheapest") rfl)
theorem Top.g_checked_weights (T : Top K mg) : mg "checked_weights" = some (.ref (He.ga K "checked_weights")) := T.glo (T.c.fact 18 (f := .glo "checked_weights") rfl)
theorem Top.g_bound (T : Top K mg) : mg "bound" = some (.ref (He.ga K "bound")) := T.glo (T.c.fact 19 (f := .glo "bound") rfl)
theorem Top.g_schedule_from (T : Top K mg) : mg "schedule_from" = some (.ref (He.ga K "schedule_from")) := T.glo (T.c.fact 20 (f := .glo "schedule_from") rfl)
theorem Top.g_first_schedule (T : Top K mg) : mg "first_schedule" = some (.ref (He.ga K "first_schedule")) := T.glo (T.c.fact 21 (f := .glo "first_schedule") rfl)
theorem Top.g_checked (T : Top K mg) : mg "checked" = some (.ref (He.ga K "checked")) := T.glo (T.c.fact 22 (f := .glo "checked") rfl)
theorem Top.g_last_state (T : Top K mg) : mg "last_state" = some (.ref (He.ga K "last_state")) := T.glo (T.c.fact 23 (f := .glo "last_state") rfl)
theorem Top.g_is_complete (T : Top K mg) : mg "is_complete" = some (.ref (He.ga K "is_complete")) := T.glo (T.c.fact 24 (f := .glo "is_complete") rfl)
theorem Top.g_law_pool (T : Top K mg) : mg "_law_pool" = some (.ref (He.ga K "_law_pool")) := T.glo (T.c.fact 25 (f := .glo "_law_pool") rfl)
theorem Top.g_law_take (T : Top K mg) : mg "_law_take" = some (.ref (He.ga K "_law_take")) := T.glo (T.c.fact 26 (f := .glo "_law_take") rfl)
theorem Top.g_law_is_integer (T : Top K mg) : mg "_law_is_integer" = some (.ref (He.ga K "_law_is_integer")) := T.glo (T.c.fact 27 (f := .glo "_law_is_integer") rfl)
theorem Top.g_law_same (T : Top K mg) : mg "_law_same" = some (.ref (He.ga K "_law_same")) := T.glo (T.c.fact 28 (f := .glo "_law_same") rfl)
theorem Top.g_law_pick (T : Top K mg) : mg "_law_pick" = some (.ref (He.ga K "_law_pick")) := T.glo (T.c.fact 29 (f := .glo "_law_pick") rfl)
theorem Top.g_law_parity (T : Top K mg) : mg "_law_parity" = some (.ref (He.ga K "_law_parity")) := T.glo (T.c.fact 30 (f := .glo "_law_parity") rfl)
theorem Top.g_law_message (T : Top K mg) : mg "_law_message" = some (.ref (He.ga K "_law_message")) := T.glo (T.c.fact 31 (f := .glo "_law_message") rfl)
theorem Top.g_law_sum (T : Top K mg) : mg "_law_sum" = some (.ref (He.ga K "_law_sum")) := T.glo (T.c.fact 32 (f := .glo "_law_sum") rfl)
theorem Top.g_law_derived (T : Top K mg) : mg "_law_derived" = some (.ref (He.ga K "_law_derived")) := T.glo (T.c.fact 33 (f := .glo "_law_derived") rfl)
theorem Top.g_law_rank (T : Top K mg) : mg "_law_rank" = some (.ref (He.ga K "_law_rank")) := T.glo (T.c.fact 34 (f := .glo "_law_rank") rfl)
theorem Top.g_law_some_messages (T : Top K mg) : mg "_law_some_messages" = some (.ref (He.ga K "_law_some_messages")) := T.glo (T.c.fact 35 (f := .glo "_law_some_messages") rfl)
theorem Top.g_law_drawn (T : Top K mg) : mg "_law_drawn" = some (.ref (He.ga K "_law_drawn")) := T.glo (T.c.fact 36 (f := .glo "_law_drawn") rfl)
theorem Top.g_law_filled (T : Top K mg) : mg "_law_filled" = some (.ref (He.ga K "_law_filled")) := T.glo (T.c.fact 37 (f := .glo "_law_filled") rfl)
theorem Top.g_law_network (T : Top K mg) : mg "_law_network" = some (.ref (He.ga K "_law_network")) := T.glo (T.c.fact 38 (f := .glo "_law_network") rfl)
theorem Top.g_law_sets (T : Top K mg) : mg "_law_sets" = some (.ref (He.ga K "_law_sets")) := T.glo (T.c.fact 39 (f := .glo "_law_sets") rfl)
theorem Top.g_law_messages_of (T : Top K mg) : mg "_law_messages_of" = some (.ref (He.ga K "_law_messages_of")) := T.glo (T.c.fact 40 (f := .glo "_law_messages_of") rfl)
theorem Top.g_law_demand (T : Top K mg) : mg "_law_demand" = some (.ref (He.ga K "_law_demand")) := T.glo (T.c.fact 41 (f := .glo "_law_demand") rfl)
theorem Top.g_law_entering (T : Top K mg) : mg "_law_entering" = some (.ref (He.ga K "_law_entering")) := T.glo (T.c.fact 42 (f := .glo "_law_entering") rfl)
theorem Top.g_law_deficient (T : Top K mg) : mg "_law_deficient" = some (.ref (He.ga K "_law_deficient")) := T.glo (T.c.fact 43 (f := .glo "_law_deficient") rfl)
theorem Top.g_law_only (T : Top K mg) : mg "_law_only" = some (.ref (He.ga K "_law_only")) := T.glo (T.c.fact 44 (f := .glo "_law_only") rfl)
theorem Top.g_law_is_least (T : Top K mg) : mg "_law_is_least" = some (.ref (He.ga K "_law_is_least")) := T.glo (T.c.fact 45 (f := .glo "_law_is_least") rfl)
theorem Top.g_law (T : Top K mg) : mg "law" = some (.ref (He.ga K "law")) := T.glo (T.c.fact 46 (f := .glo "law") rfl)
theorem Top.g_Network (T : Top K mg) : mg "Network" = some (.ref (He.ga K "Network")) := T.glo (T.c.fact 47 (f := .glo "Network") rfl)
theorem Top.g_Span (T : Top K mg) : mg "Span" = some (.ref (He.ga K "Span")) := T.glo (T.c.fact 48 (f := .glo "Span") rfl)
theorem Top.g_State (T : Top K mg) : mg "State" = some (.ref (He.ga K "State")) := T.glo (T.c.fact 49 (f := .glo "State") rfl)
theorem Top.g_Needs (T : Top K mg) : mg "Needs" = some (.ref (He.ga K "Needs")) := T.glo (T.c.fact 50 (f := .glo "Needs") rfl)
theorem Top.f_len (T : Top K mg) : mg "len" = none := T.fre (T.c.fact 51 (f := .free "len") rfl)
theorem Top.f_range (T : Top K mg) : mg "range" = none := T.fre (T.c.fact 52 (f := .free "range") rfl)
theorem Top.f_all (T : Top K mg) : mg "all" = none := T.fre (T.c.fact 53 (f := .free "all") rfl)
theorem Top.f_any (T : Top K mg) : mg "any" = none := T.fre (T.c.fact 54 (f := .free "any") rfl)
theorem Top.f_zip (T : Top K mg) : mg "zip" = none := T.fre (T.c.fact 55 (f := .free "zip") rfl)
theorem Top.f_enumerate (T : Top K mg) : mg "enumerate" = none := T.fre (T.c.fact 56 (f := .free "enumerate") rfl)
theorem Top.f_sum (T : Top K mg) : mg "sum" = none := T.fre (T.c.fact 57 (f := .free "sum") rfl)
theorem Top.f_min (T : Top K mg) : mg "min" = none := T.fre (T.c.fact 58 (f := .free "min") rfl)
theorem Top.f_max (T : Top K mg) : mg "max" = none := T.fre (T.c.fact 59 (f := .free "max") rfl)
theorem Top.f_sorted (T : Top K mg) : mg "sorted" = none := T.fre (T.c.fact 60 (f := .free "sorted") rfl)
theorem Top.f_list (T : Top K mg) : mg "list" = none := T.fre (T.c.fact 61 (f := .free "list") rfl)
theorem Top.f_tuple (T : Top K mg) : mg "tuple" = none := T.fre (T.c.fact 62 (f := .free "tuple") rfl)
theorem Top.f_int (T : Top K mg) : mg "int" = none := T.fre (T.c.fact 63 (f := .free "int") rfl)
theorem Top.f_isinstance (T : Top K mg) : mg "isinstance" = none := T.fre (T.c.fact 64 (f := .free "isinstance") rfl)
theorem Top.f_bool (T : Top K mg) : mg "bool" = none := T.fre (T.c.fact 65 (f := .free "bool") rfl)
theorem Top.f_str (T : Top K mg) : mg "str" = none := T.fre (T.c.fact 66 (f := .free "str") rfl)
theorem Top.s_VARIABLE_LETTERS (T : Top K mg) : ∃ t, mg "VARIABLE_LETTERS" = some (.str "abcdef" t) := T.str (T.c.fact 67 (f := .str "VARIABLE_LETTERS" "abcdef") rfl)
theorem Top.s_NODE_LETTERS (T : Top K mg) : ∃ t, mg "NODE_LETTERS" = some (.str "ABCDEF" t) := T.str (T.c.fact 68 (f := .str "NODE_LETTERS" "ABCDEF") rfl)
theorem Top.s_LETTERS (T : Top K mg) : ∃ t, mg "LETTERS" = some (.str "abcdefgh" t) := T.str (T.c.fact 69 (f := .str "LETTERS" "abcdefgh") rfl)
theorem Top.i_MOST_MESSAGES (T : Top K mg) : ∃ t, mg "MOST_MESSAGES" = some (.int 4 t) := T.int (T.c.fact 70 (f := .int "MOST_MESSAGES" 4) rfl)
theorem Top.i_MOST_LINKS (T : Top K mg) : ∃ t, mg "MOST_LINKS" = some (.int 16 t) := T.int (T.c.fact 71 (f := .int "MOST_LINKS" 16) rfl)
theorem Top.c_Network (T : Top K mg) : Cls K (He.ga K "Network") := He.cls_ok (T.c.fact 72 (f := .cls "Network") rfl)
theorem Top.mk_Network (T : Top K mg) : Mk K (He.ga K "Network") (He.ma K (He.ga K "Network") "__init__") := He.mkr_ok (T.c.fact 73 (f := .mkr "Network") rfl)
theorem Top.na_Network_variables (T : Top K mg) : NoAttr K (He.ga K "Network") "variables" := He.noat_ok (T.c.fact 74 (f := .noat "Network" "variables") rfl)
theorem Top.na_Network_nodes (T : Top K mg) : NoAttr K (He.ga K "Network") "nodes" := He.noat_ok (T.c.fact 75 (f := .noat "Network" "nodes") rfl)
theorem Top.na_Network_links (T : Top K mg) : NoAttr K (He.ga K "Network") "links" := He.noat_ok (T.c.fact 76 (f := .noat "Network" "links") rfl)
theorem Top.c_Span (T : Top K mg) : Cls K (He.ga K "Span") := He.cls_ok (T.c.fact 77 (f := .cls "Span") rfl)
theorem Top.mk_Span (T : Top K mg) : Mk K (He.ga K "Span") (He.ma K (He.ga K "Span") "__init__") := He.mkr_ok (T.c.fact 78 (f := .mkr "Span") rfl)
theorem Top.na_Span_rows (T : Top K mg) : NoAttr K (He.ga K "Span") "rows" := He.noat_ok (T.c.fact 79 (f := .noat "Span" "rows") rfl)
theorem Top.c_State (T : Top K mg) : Cls K (He.ga K "State") := He.cls_ok (T.c.fact 80 (f := .cls "State") rfl)
theorem Top.mk_State (T : Top K mg) : Mk K (He.ga K "State") (He.ma K (He.ga K "State") "__init__") := He.mkr_ok (T.c.fact 81 (f := .mkr "State") rfl)
theorem Top.na_State_network (T : Top K mg) : NoAttr K (He.ga K "State") "network" := He.noat_ok (T.c.fact 82 (f := .noat "State" "network") rfl)
theorem Top.na_State_links (T : Top K mg) : NoAttr K (He.ga K "State") "links" := He.noat_ok (T.c.fact 83 (f := .noat "State" "links") rfl)
theorem Top.na_State_had (T : Top K mg) : NoAttr K (He.ga K "State") "had" := He.noat_ok (T.c.fact 84 (f := .noat "State" "had") rfl)
theorem Top.na_State_unused (T : Top K mg) : NoAttr K (He.ga K "State") "unused" := He.noat_ok (T.c.fact 85 (f := .noat "State" "unused") rfl)
theorem Top.na_State_spans (T : Top K mg) : NoAttr K (He.ga K "State") "_spans" := He.noat_ok (T.c.fact 86 (f := .noat "State" "_spans") rfl)
theorem Top.na_State_tight (T : Top K mg) : NoAttr K (He.ga K "State") "_tight" := He.noat_ok (T.c.fact 87 (f := .noat "State" "_tight") rfl)
theorem Top.c_Needs (T : Top K mg) : Cls K (He.ga K "Needs") := He.cls_ok (T.c.fact 88 (f := .cls "Needs") rfl)
theorem Top.mk_Needs (T : Top K mg) : Mk K (He.ga K "Needs") (He.ma K (He.ga K "Needs") "__init__") := He.mkr_ok (T.c.fact 89 (f := .mkr "Needs") rfl)
theorem Top.na_Needs_nodes (T : Top K mg) : NoAttr K (He.ga K "Needs") "nodes" := He.noat_ok (T.c.fact 90 (f := .noat "Needs" "nodes") rfl)
theorem Top.na_Needs_rows (T : Top K mg) : NoAttr K (He.ga K "Needs") "rows" := He.noat_ok (T.c.fact 91 (f := .noat "Needs" "rows") rfl)
theorem Top.na_Needs_links (T : Top K mg) : NoAttr K (He.ga K "Needs") "links" := He.noat_ok (T.c.fact 92 (f := .noat "Needs" "links") rfl)
theorem Top.me_Network_node_letters (T : Top K mg) : Meth K (He.ga K "Network") "node_letters" (He.ma K (He.ga K "Network") "node_letters") := He.meth_ok (T.c.fact 93 (f := .meth "Network" "node_letters") rfl)
theorem Top.me_Span_rank (T : Top K mg) : Meth K (He.ga K "Span") "rank" (He.ma K (He.ga K "Span") "rank") := He.meth_ok (T.c.fact 94 (f := .meth "Span" "rank") rfl)
theorem Top.me_Span_left (T : Top K mg) : Meth K (He.ga K "Span") "left" (He.ma K (He.ga K "Span") "left") := He.meth_ok (T.c.fact 95 (f := .meth "Span" "left") rfl)
theorem Top.me_Span_has (T : Top K mg) : Meth K (He.ga K "Span") "has" (He.ma K (He.ga K "Span") "has") := He.meth_ok (T.c.fact 96 (f := .meth "Span" "has") rfl)
theorem Top.me_Span_add (T : Top K mg) : Meth K (He.ga K "Span") "add" (He.ma K (He.ga K "Span") "add") := He.meth_ok (T.c.fact 97 (f := .meth "Span" "add") rfl)
theorem Top.me_Span_copied (T : Top K mg) : Meth K (He.ga K "Span") "copied" (He.ma K (He.ga K "Span") "copied") := He.meth_ok (T.c.fact 98 (f := .meth "Span" "copied") rfl)
theorem Top.me_State_message (T : Top K mg) : Meth K (He.ga K "State") "message" (He.ma K (He.ga K "State") "message") := He.meth_ok (T.c.fact 99 (f := .meth "State" "message") rfl)
theorem Top.me_State_messages (T : Top K mg) : Meth K (He.ga K "State") "messages" (He.ma K (He.ga K "State") "messages") := He.meth_ok (T.c.fact 100 (f := .meth "State" "messages") rfl)
theorem Top.me_State_sets (T : Top K mg) : Meth K (He.ga K "State") "sets" (He.ma K (He.ga K "State") "sets") := He.meth_ok (T.c.fact 101 (f := .meth "State" "sets") rfl)
theorem Top.me_State_span (T : Top K mg) : Meth K (He.ga K "State") "span" (He.ma K (He.ga K "State") "span") := He.meth_ok (T.c.fact 102 (f := .meth "State" "span") rfl)
theorem Top.me_State_rank (T : Top K mg) : Meth K (He.ga K "State") "rank" (He.ma K (He.ga K "State") "rank") := He.meth_ok (T.c.fact 103 (f := .meth "State" "rank") rfl)
theorem Top.me_State_demand (T : Top K mg) : Meth K (He.ga K "State") "demand" (He.ma K (He.ga K "State") "demand") := He.meth_ok (T.c.fact 104 (f := .meth "State" "demand") rfl)
theorem Top.me_State_entering (T : Top K mg) : Meth K (He.ga K "State") "entering" (He.ma K (He.ga K "State") "entering") := He.meth_ok (T.c.fact 105 (f := .meth "State" "entering") rfl)
theorem Top.me_State_slack (T : Top K mg) : Meth K (He.ga K "State") "slack" (He.ma K (He.ga K "State") "slack") := He.meth_ok (T.c.fact 106 (f := .meth "State" "slack") rfl)
theorem Top.me_State_deficient (T : Top K mg) : Meth K (He.ga K "State") "deficient" (He.ma K (He.ga K "State") "deficient") := He.meth_ok (T.c.fact 107 (f := .meth "State" "deficient") rfl)
theorem Top.me_State_tight (T : Top K mg) : Meth K (He.ga K "State") "tight" (He.ma K (He.ga K "State") "tight") := He.meth_ok (T.c.fact 108 (f := .meth "State" "tight") rfl)
theorem Top.me_State_why_not (T : Top K mg) : Meth K (He.ga K "State") "why_not" (He.ma K (He.ga K "State") "why_not") := He.meth_ok (T.c.fact 109 (f := .meth "State" "why_not") rfl)
theorem Top.me_State_after (T : Top K mg) : Meth K (He.ga K "State") "after" (He.ma K (He.ga K "State") "after") := He.meth_ok (T.c.fact 110 (f := .meth "State" "after") rfl)
theorem Top.me_State_without (T : Top K mg) : Meth K (He.ga K "State") "without" (He.ma K (He.ga K "State") "without") := He.meth_ok (T.c.fact 111 (f := .meth "State" "without") rfl)
theorem Top.me_State_is_done (T : Top K mg) : Meth K (He.ga K "State") "is_done" (He.ma K (He.ga K "State") "is_done") := He.meth_ok (T.c.fact 112 (f := .meth "State" "is_done") rfl)
theorem Top.me_State_largest_without (T : Top K mg) : Meth K (He.ga K "State") "largest_without" (He.ma K (He.ga K "State") "largest_without") := He.meth_ok (T.c.fact 113 (f := .meth "State" "largest_without") rfl)
theorem Top.me_State_carried (T : Top K mg) : Meth K (He.ga K "State") "carried" (He.ma K (He.ga K "State") "carried") := He.meth_ok (T.c.fact 114 (f := .meth "State" "carried") rfl)
theorem Top.me_State_following (T : Top K mg) : Meth K (He.ga K "State") "following" (He.ma K (He.ga K "State") "following") := He.meth_ok (T.c.fact 115 (f := .meth "State" "following") rfl)
theorem Top.me_Needs_is_enough (T : Top K mg) : Meth K (He.ga K "Needs") "is_enough" (He.ma K (He.ga K "Needs") "is_enough") := He.meth_ok (T.c.fact 116 (f := .meth "Needs" "is_enough") rfl)
theorem Top.me_Needs_of_node (T : Top K mg) : Meth K (He.ga K "Needs") "of_node" (He.ma K (He.ga K "Needs") "of_node") := He.meth_ok (T.c.fact 117 (f := .meth "Needs" "of_node") rfl)
abbrev a_is_ascending (K : PySem.W.Frag) : Addr := He.ga K "is_ascending"
theorem Top.D_is_ascending (T : Top K mg) : FunD K "is_ascending" "is_ascending" (defArgs s_is_ascending) (defBody s_is_ascending) (defScope s_is_ascending) [] [] (a_is_ascending K) (fdOf K (a_is_ascending K)) := let ⟨_, F⟩ := T.c.def_ 0 (d := d_is_ascending) rfl; fd_of F
theorem Top.F_is_ascending (T : Top K mg) : Fun K "is_ascending" "is_ascending" s_is_ascending (a_is_ascending K) (fdOf K (a_is_ascending K)) := He5.fun_of T.D_is_ascending
theorem Top.b_is_ascending (T : Top K mg) : Binds K (fdOf K (a_is_ascending K)) ["text", "letters"] [] := T.D_is_ascending.bindsN fun _ _ _ _ _ _ us hl => match us, hl with | [_, _], _ => rfl
abbrev N_is_ascending : List Str := ["text", "letters", "places", "letter", "place", "one", "two"]
theorem sc_is_ascending : FnScope N_is_ascending ["text", "letters"] (defScope s_is_ascending) := ⟨rfl, rfl, rfl, by decide +kernel, rfl, by decide +kernel, by decide +kernel⟩
abbrev a_is_message (K : PySem.W.Frag) : Addr := He.ga K "is_message"
theorem Top.D_is_message (T : Top K mg) : FunD K "is_message" "is_message" (defArgs s_is_message) (defBody s_is_message) (defScope s_is_message) [] [] (a_is_message K) (fdOf K (a_is_message K)) := let ⟨_, F⟩ := T.c.def_ 1 (d := d_is_message) rfl; fd_of F
theorem Top.F_is_message (T : Top K mg) : Fun K "is_message" "is_message" s_is_message (a_is_message K) (fdOf K (a_is_message K)) := He5.fun_of T.D_is_message
theorem Top.b_is_message (T : Top K mg) : Binds K (fdOf K (a_is_message K)) ["variables", "text"] [] := T.D_is_message.bindsN fun _ _ _ _ _ _ us hl => match us, hl with | [_, _], _ => rfl
abbrev N_is_message : List Str := ["variables", "text"]
theorem sc_is_message : FnScope N_is_message ["variables", "text"] (defScope s_is_message) := ⟨rfl, rfl, rfl, by decide +kernel, rfl, by decide +kernel, by decide +kernel⟩
abbrev a_is_link (K : PySem.W.Frag) : Addr := He.ga K "is_link"
theorem Top.D_is_link (T : Top K mg) : FunD K "is_link" "is_link" (defArgs s_is_link) (defBody s_is_link) (defScope s_is_link) [] [] (a_is_link K) (fdOf K (a_is_link K)) := let ⟨_, F⟩ := T.c.def_ 2 (d := d_is_link) rfl; fd_of F
theorem Top.F_is_link (T : Top K mg) : Fun K "is_link" "is_link" s_is_link (a_is_link K) (fdOf K (a_is_link K)) := He5.fun_of T.D_is_link
theorem Top.b_is_link (T : Top K mg) : Binds K (fdOf K (a_is_link K)) ["nodes", "text"] [] := T.D_is_link.bindsN fun _ _ _ _ _ _ us hl => match us, hl with | [_, _], _ => rfl
abbrev N_is_link : List Str := ["nodes", "text", "letters"]
theorem sc_is_link : FnScope N_is_link ["nodes", "text"] (defScope s_is_link) := ⟨rfl, rfl, rfl, by decide +kernel, rfl, by decide +kernel, by decide +kernel⟩
abbrev a_check_nodes (K : PySem.W.Frag) : Addr := He.ga K "check_nodes"
theorem Top.D_check_nodes (T : Top K mg) : FunD K "check_nodes" "check_nodes" (defArgs s_check_nodes) (defBody s_check_nodes) (defScope s_check_nodes) [] [] (a_check_nodes K) (fdOf K (a_check_nodes K)) := let ⟨_, F⟩ := T.c.def_ 3 (d := d_check_nodes) rfl; fd_of F
theorem Top.F_check_nodes (T : Top K mg) : Fun K "check_nodes" "check_nodes" s_check_nodes (a_check_nodes K) (fdOf K (a_check_nodes K)) := He5.fun_of T.D_check_nodes
theorem Top.b_check_nodes (T : Top K mg) : Binds K (fdOf K (a_check_nodes K)) ["variables", "nodes"] [] := T.D_check_nodes.bindsN fun _ _ _ _ _ _ us hl => match us, hl with | [_, _], _ => rfl
abbrev N_check_nodes : List Str := ["variables", "nodes", "number", "messages", "message"]
theorem sc_check_nodes : FnScope N_check_nodes ["variables", "nodes"] (defScope s_check_nodes) := ⟨rfl, rfl, rfl, by decide +kernel, rfl, by decide +kernel, by decide +kernel⟩
abbrev a_check_links (K : PySem.W.Frag) : Addr := He.ga K "check_links"
theorem Top.D_check_links (T : Top K mg) : FunD K "check_links" "check_links" (defArgs s_check_links) (defBody s_check_links) (defScope s_check_links) [] [] (a_check_links K) (fdOf K (a_check_links K)) := let ⟨_, F⟩ := T.c.def_ 4 (d := d_check_links) rfl; fd_of F
theorem Top.F_check_links (T : Top K mg) : Fun K "check_links" "check_links" s_check_links (a_check_links K) (fdOf K (a_check_links K)) := He5.fun_of T.D_check_links
theorem Top.b_check_links (T : Top K mg) : Binds K (fdOf K (a_check_links K)) ["nodes", "links"] [] := T.D_check_links.bindsN fun _ _ _ _ _ _ us hl => match us, hl with | [_, _], _ => rfl
abbrev N_check_links : List Str := ["nodes", "links", "number", "link"]
theorem sc_check_links : FnScope N_check_links ["nodes", "links"] (defScope s_check_links) := ⟨rfl, rfl, rfl, by decide +kernel, rfl, by decide +kernel, by decide +kernel⟩
abbrev a_Network_init (K : PySem.W.Frag) : Addr := He.ma K (He.ga K "Network") "__init__"
theorem Top.D_Network_init (T : Top K mg) : FunD K "__init__" "Network.__init__" (defArgs s_Network_init) (defBody s_Network_init) (defScope s_Network_init) [] [] (a_Network_init K) (fdOf K (a_Network_init K)) := let ⟨_, F⟩ := T.c.def_ 5 (d := d_Network_init) rfl; fd_of F
theorem Top.F_Network_init (T : Top K mg) : Fun K "__init__" "Network.__init__" s_Network_init (a_Network_init K) (fdOf K (a_Network_init K)) := He5.fun_of T.D_Network_init
theorem Top.b_Network_init (T : Top K mg) : Binds K (fdOf K (a_Network_init K)) ["self", "variables", "nodes", "links"] [] := T.D_Network_init.bindsN fun _ _ _ _ _ _ us hl => match us, hl with | [_, _, _, _], _ => rfl
abbrev N_Network_init : List Str := ["self", "variables", "nodes", "links", "messages"]
theorem sc_Network_init : FnScope N_Network_init ["self", "variables", "nodes", "links"] (defScope s_Network_init) := ⟨rfl, rfl, rfl, by decide +kernel, rfl, by decide +kernel, by decide +kernel⟩
abbrev a_Network_made (K : PySem.W.Frag) : Addr := He5.wf K (He.ga K "Network") "classmethod" "made"
theorem Top.D_Network_made (T : Top K mg) : FunD K "made" "Network.made" (defArgs s_Network_made) (defBody s_Network_made) (defScope s_Network_made) [] [] (a_Network_made K) (fdOf K (a_Network_made K)) := let ⟨_, F⟩ := T.c.def_ 6 (d := d_Network_made) rfl; fd_of F
theorem Top.F_Network_made (T : Top K mg) : Fun K "made" "Network.made" s_Network_made (a_Network_made K) (fdOf K (a_Network_made K)) := He5.fun_of T.D_Network_made
theorem Top.b_Network_made (T : Top K mg) : Binds K (fdOf K (a_Network_made K)) ["cls", "variables", "nodes", "links"] [] := T.D_Network_made.bindsN fun _ _ _ _ _ _ us hl => match us, hl with | [_, _, _, _], _ => rfl
abbrev N_Network_made : List Str := ["cls", "variables", "nodes", "links", "network", "messages"]
theorem sc_Network_made : FnScope N_Network_made ["cls", "variables", "nodes", "links"] (defScope s_Network_made) := ⟨rfl, rfl, rfl, by decide +kernel, rfl, by decide +kernel, by decide +kernel⟩
abbrev a_Network_node_letters (K : PySem.W.Frag) : Addr := He.ma K (He.ga K "Network") "node_letters"
theorem Top.D_Network_node_letters (T : Top K mg) : FunD K "node_letters" "Network.node_letters" (defArgs s_Network_node_letters) (defBody s_Network_node_letters) (defScope s_Network_node_letters) [] [] (a_Network_node_letters K) (fdOf K (a_Network_node_letters K)) := let ⟨_, F⟩ := T.c.def_ 7 (d := d_Network_node_letters) rfl; fd_of F
theorem Top.F_Network_node_letters (T : Top K mg) : Fun K "node_letters" "Network.node_letters" s_Network_node_letters (a_Network_node_letters K) (fdOf K (a_Network_node_letters K)) := He5.fun_of T.D_Network_node_letters
theorem Top.b_Network_node_letters (T : Top K mg) : Binds K (fdOf K (a_Network_node_letters K)) ["self"] [] := T.D_Network_node_letters.bindsN fun _ _ _ _ _ _ us hl => match us, hl with | [_], _ => rfl
abbrev N_Network_node_letters : List Str := ["self"]
theorem sc_Network_node_letters : FnScope N_Network_node_letters ["self"] (defScope s_Network_node_letters) := ⟨rfl, rfl, rfl, by decide +kernel, rfl, by decide +kernel, by decide +kernel⟩
abbrev a_node_number (K : PySem.W.Frag) : Addr := He.ga K "node_number"
theorem Top.D_node_number (T : Top K mg) : FunD K "node_number" "node_number" (defArgs s_node_number) (defBody s_node_number) (defScope s_node_number) [] [] (a_node_number K) (fdOf K (a_node_number K)) := let ⟨_, F⟩ := T.c.def_ 8 (d := d_node_number) rfl; fd_of F
theorem Top.F_node_number (T : Top K mg) : Fun K "node_number" "node_number" s_node_number (a_node_number K) (fdOf K (a_node_number K)) := He5.fun_of T.D_node_number
theorem Top.b_node_number (T : Top K mg) : Binds K (fdOf K (a_node_number K)) ["network", "node"] [] := T.D_node_number.bindsN fun _ _ _ _ _ _ us hl => match us, hl with | [_, _], _ => rfl
abbrev N_node_number : List Str := ["network", "node"]
theorem sc_node_number : FnScope N_node_number ["network", "node"] (defScope s_node_number) := ⟨rfl, rfl, rfl, by decide +kernel, rfl, by decide +kernel, by decide +kernel⟩
abbrev a_set_mask (K : PySem.W.Frag) : Addr := He.ga K "set_mask"
theorem Top.D_set_mask (T : Top K mg) : FunD K "set_mask" "set_mask" (defArgs s_set_mask) (defBody s_set_mask) (defScope s_set_mask) [] [] (a_set_mask K) (fdOf K (a_set_mask K)) := let ⟨_, F⟩ := T.c.def_ 9 (d := d_set_mask) rfl; fd_of F
theorem Top.F_set_mask (T : Top K mg) : Fun K "set_mask" "set_mask" s_set_mask (a_set_mask K) (fdOf K (a_set_mask K)) := He5.fun_of T.D_set_mask
theorem Top.b_set_mask (T : Top K mg) : Binds K (fdOf K (a_set_mask K)) ["network", "nodes"] [] := T.D_set_mask.bindsN fun _ _ _ _ _ _ us hl => match us, hl with | [_, _], _ => rfl
abbrev N_set_mask : List Str := ["network", "nodes", "letter"]
theorem sc_set_mask : FnScope N_set_mask ["network", "nodes"] (defScope s_set_mask) := ⟨rfl, rfl, rfl, by decide +kernel, rfl, by decide +kernel, by decide +kernel⟩
abbrev a_check_link (K : PySem.W.Frag) : Addr := He.ga K "check_link"
theorem Top.D_check_link (T : Top K mg) : FunD K "check_link" "check_link" (defArgs s_check_link) (defBody s_check_link) (defScope s_check_link) [] [] (a_check_link K) (fdOf K (a_check_link K)) := let ⟨_, F⟩ := T.c.def_ 10 (d := d_check_link) rfl; fd_of F
theorem Top.F_check_link (T : Top K mg) : Fun K "check_link" "check_link" s_check_link (a_check_link K) (fdOf K (a_check_link K)) := He5.fun_of T.D_check_link
theorem Top.b_check_link (T : Top K mg) : Binds K (fdOf K (a_check_link K)) ["network", "number"] [] := T.D_check_link.bindsN fun _ _ _ _ _ _ us hl => match us, hl with | [_, _], _ => rfl
abbrev N_check_link : List Str := ["network", "number"]
theorem sc_check_link : FnScope N_check_link ["network", "number"] (defScope s_check_link) := ⟨rfl, rfl, rfl, by decide +kernel, rfl, by decide +kernel, by decide +kernel⟩
abbrev a_check_transmission (K : PySem.W.Frag) : Addr := He.ga K "check_transmission"
theorem Top.D_check_transmission (T : Top K mg) : FunD K "check_transmission" "check_transmission" (defArgs s_check_transmission) (defBody s_check_transmission) (defScope s_check_transmission) [] [] (a_check_transmission K) (fdOf K (a_check_transmission K)) := let ⟨_, F⟩ := T.c.def_ 11 (d := d_check_transmission) rfl; fd_of F
theorem Top.F_check_transmission (T : Top K mg) : Fun K "check_transmission" "check_transmission" s_check_transmission (a_check_transmission K) (fdOf K (a_check_transmission K)) := He5.fun_of T.D_check_transmission
theorem Top.b_check_transmission (T : Top K mg) : Binds K (fdOf K (a_check_transmission K)) ["network", "transmission"] [] := T.D_check_transmission.bindsN fun _ _ _ _ _ _ us hl => match us, hl with | [_, _], _ => rfl
abbrev N_check_transmission : List Str := ["network", "transmission", "link", "origin", "index", "messages"]
theorem sc_check_transmission : FnScope N_check_transmission ["network", "transmission"] (defScope s_check_transmission) := ⟨rfl, rfl, rfl, by decide +kernel, rfl, by decide +kernel, by decide +kernel⟩
abbrev a_mask_of (K : PySem.W.Frag) : Addr := He.ga K "mask_of"
theorem Top.D_mask_of (T : Top K mg) : FunD K "mask_of" "mask_of" (defArgs s_mask_of) (defBody s_mask_of) (defScope s_mask_of) [] [] (a_mask_of K) (fdOf K (a_mask_of K)) := let ⟨_, F⟩ := T.c.def_ 12 (d := d_mask_of) rfl; fd_of F
theorem Top.F_mask_of (T : Top K mg) : Fun K "mask_of" "mask_of" s_mask_of (a_mask_of K) (fdOf K (a_mask_of K)) := He5.fun_of T.D_mask_of
theorem Top.b_mask_of (T : Top K mg) : Binds K (fdOf K (a_mask_of K)) ["text"] [] := T.D_mask_of.bindsN fun _ _ _ _ _ _ us hl => match us, hl with | [_], _ => rfl
abbrev N_mask_of : List Str := ["text", "found", "last", "letter", "place"]
theorem sc_mask_of : FnScope N_mask_of ["text"] (defScope s_mask_of) := ⟨rfl, rfl, rfl, by decide +kernel, rfl, by decide +kernel, by decide +kernel⟩
abbrev a_Span_init (K : PySem.W.Frag) : Addr := He.ma K (He.ga K "Span") "__init__"
theorem Top.D_Span_init (T : Top K mg) : FunD K "__init__" "Span.__init__" (defArgs s_Span_init) (defBody s_Span_init) (defScope s_Span_init) [V.ref (He.dflAt ("Span", some "__init__") 0 K)] [] (a_Span_init K) (fdOf K (a_Span_init K)) := let ⟨_, F⟩ := T.c.def_ 13 (d := d_Span_init) rfl; fd_of F
abbrev N_Span_init : List Str := ["self", "masks", "mask"]
theorem sc_Span_init : FnScope N_Span_init ["self", "masks"] (defScope s_Span_init) := ⟨rfl, rfl, rfl, by decide +kernel, rfl, by decide +kernel, by decide +kernel⟩
abbrev a_Span_rank (K : PySem.W.Frag) : Addr := He.ma K (He.ga K "Span") "rank"
theorem Top.D_Span_rank (T : Top K mg) : FunD K "rank" "Span.rank" (defArgs s_Span_rank) (defBody s_Span_rank) (defScope s_Span_rank) [] [] (a_Span_rank K) (fdOf K (a_Span_rank K)) := let ⟨_, F⟩ := T.c.def_ 14 (d := d_Span_rank) rfl; fd_of F
theorem Top.F_Span_rank (T : Top K mg) : Fun K "rank" "Span.rank" s_Span_rank (a_Span_rank K) (fdOf K (a_Span_rank K)) := He5.fun_of T.D_Span_rank
theorem Top.b_Span_rank (T : Top K mg) : Binds K (fdOf K (a_Span_rank K)) ["self"] [] := T.D_Span_rank.bindsN fun _ _ _ _ _ _ us hl => match us, hl with | [_], _ => rfl
abbrev N_Span_rank : List Str := ["self"]
theorem sc_Span_rank : FnScope N_Span_rank ["self"] (defScope s_Span_rank) := ⟨rfl, rfl, rfl, by decide +kernel, rfl, by decide +kernel, by decide +kernel⟩
abbrev a_Span_left (K : PySem.W.Frag) : Addr := He.ma K (He.ga K "Span") "left"
theorem Top.D_Span_left (T : Top K mg) : FunD K "left" "Span.left" (defArgs s_Span_left) (defBody s_Span_left) (defScope s_Span_left) [] [] (a_Span_left K) (fdOf K (a_Span_left K)) := let ⟨_, F⟩ := T.c.def_ 15 (d := d_Span_left) rfl; fd_of F
theorem Top.F_Span_left (T : Top K mg) : Fun K "left" "Span.left" s_Span_left (a_Span_left K) (fdOf K (a_Span_left K)) := He5.fun_of T.D_Span_left
theorem Top.b_Span_left (T : Top K mg) : Binds K (fdOf K (a_Span_left K)) ["self", "mask"] [] := T.D_Span_left.bindsN fun _ _ _ _ _ _ us hl => match us, hl with | [_, _], _ => rfl
abbrev N_Span_left : List Str := ["self", "mask", "row"]
theorem sc_Span_left : FnScope N_Span_left ["self", "mask"] (defScope s_Span_left) := ⟨rfl, rfl, rfl, by decide +kernel, rfl, by decide +kernel, by decide +kernel⟩
abbrev a_Span_has (K : PySem.W.Frag) : Addr := He.ma K (He.ga K "Span") "has"
theorem Top.D_Span_has (T : Top K mg) : FunD K "has" "Span.has" (defArgs s_Span_has) (defBody s_Span_has) (defScope s_Span_has) [] [] (a_Span_has K) (fdOf K (a_Span_has K)) := let ⟨_, F⟩ := T.c.def_ 16 (d := d_Span_has) rfl; fd_of F
theorem Top.F_Span_has (T : Top K mg) : Fun K "has" "Span.has" s_Span_has (a_Span_has K) (fdOf K (a_Span_has K)) := He5.fun_of T.D_Span_has
theorem Top.b_Span_has (T : Top K mg) : Binds K (fdOf K (a_Span_has K)) ["self", "mask"] [] := T.D_Span_has.bindsN fun _ _ _ _ _ _ us hl => match us, hl with | [_, _], _ => rfl
abbrev N_Span_has : List Str := ["self", "mask"]
theorem sc_Span_has : FnScope N_Span_has ["self", "mask"] (defScope s_Span_has) := ⟨rfl, rfl, rfl, by decide +kernel, rfl, by decide +kernel, by decide +kernel⟩
abbrev a_Span_add (K : PySem.W.Frag) : Addr := He.ma K (He.ga K "Span") "add"
theorem Top.D_Span_add (T : Top K mg) : FunD K "add" "Span.add" (defArgs s_Span_add) (defBody s_Span_add) (defScope s_Span_add) [] [] (a_Span_add K) (fdOf K (a_Span_add K)) := let ⟨_, F⟩ := T.c.def_ 17 (d := d_Span_add) rfl; fd_of F
theorem Top.F_Span_add (T : Top K mg) : Fun K "add" "Span.add" s_Span_add (a_Span_add K) (fdOf K (a_Span_add K)) := He5.fun_of T.D_Span_add
theorem Top.b_Span_add (T : Top K mg) : Binds K (fdOf K (a_Span_add K)) ["self", "mask"] [] := T.D_Span_add.bindsN fun _ _ _ _ _ _ us hl => match us, hl with | [_, _], _ => rfl
abbrev N_Span_add : List Str := ["self", "mask", "left"]
theorem sc_Span_add : FnScope N_Span_add ["self", "mask"] (defScope s_Span_add) := ⟨rfl, rfl, rfl, by decide +kernel, rfl, by decide +kernel, by decide +kernel⟩
abbrev a_Span_copied (K : PySem.W.Frag) : Addr := He.ma K (He.ga K "Span") "copied"
theorem Top.D_Span_copied (T : Top K mg) : FunD K "copied" "Span.copied" (defArgs s_Span_copied) (defBody s_Span_copied) (defScope s_Span_copied) [] [] (a_Span_copied K) (fdOf K (a_Span_copied K)) := let ⟨_, F⟩ := T.c.def_ 18 (d := d_Span_copied) rfl; fd_of F
theorem Top.F_Span_copied (T : Top K mg) : Fun K "copied" "Span.copied" s_Span_copied (a_Span_copied K) (fdOf K (a_Span_copied K)) := He5.fun_of T.D_Span_copied
theorem Top.b_Span_copied (T : Top K mg) : Binds K (fdOf K (a_Span_copied K)) ["self"] [] := T.D_Span_copied.bindsN fun _ _ _ _ _ _ us hl => match us, hl with | [_], _ => rfl
abbrev N_Span_copied : List Str := ["self", "found"]
theorem sc_Span_copied : FnScope N_Span_copied ["self"] (defScope s_Span_copied) := ⟨rfl, rfl, rfl, by decide +kernel, rfl, by decide +kernel, by decide +kernel⟩
abbrev a_State_init (K : PySem.W.Frag) : Addr := He.ma K (He.ga K "State") "__init__"
theorem Top.D_State_init (T : Top K mg) : FunD K "__init__" "State.__init__" (defArgs s_State_init) (defBody s_State_init) (defScope s_State_init) [] [] (a_State_init K) (fdOf K (a_State_init K)) := let ⟨_, F⟩ := T.c.def_ 19 (d := d_State_init) rfl; fd_of F
theorem Top.F_State_init (T : Top K mg) : Fun K "__init__" "State.__init__" s_State_init (a_State_init K) (fdOf K (a_State_init K)) := He5.fun_of T.D_State_init
theorem Top.b_State_init (T : Top K mg) : Binds K (fdOf K (a_State_init K)) ["self", "network"] [] := T.D_State_init.bindsN fun _ _ _ _ _ _ us hl => match us, hl with | [_, _], _ => rfl
abbrev N_State_init : List Str := ["self", "network", "node", "texts", "link", "number"]
theorem sc_State_init : FnScope N_State_init ["self", "network"] (defScope s_State_init) := ⟨rfl, rfl, rfl, by decide +kernel, rfl, by decide +kernel, by decide +kernel⟩
abbrev a_State_message (K : PySem.W.Frag) : Addr := He.ma K (He.ga K "State") "message"
theorem Top.D_State_message (T : Top K mg) : FunD K "message" "State.message" (defArgs s_State_message) (defBody s_State_message) (defScope s_State_message) [] [] (a_State_message K) (fdOf K (a_State_message K)) := let ⟨_, F⟩ := T.c.def_ 20 (d := d_State_message) rfl; fd_of F
theorem Top.F_State_message (T : Top K mg) : Fun K "message" "State.message" s_State_message (a_State_message K) (fdOf K (a_State_message K)) := He5.fun_of T.D_State_message
theorem Top.b_State_message (T : Top K mg) : Binds K (fdOf K (a_State_message K)) ["self", "origin", "number"] [] := T.D_State_message.bindsN fun _ _ _ _ _ _ us hl => match us, hl with | [_, _, _], _ => rfl
abbrev N_State_message : List Str := ["self", "origin", "number"]
theorem sc_State_message : FnScope N_State_message ["self", "origin", "number"] (defScope s_State_message) := ⟨rfl, rfl, rfl, by decide +kernel, rfl, by decide +kernel, by decide +kernel⟩
abbrev a_State_messages (K : PySem.W.Frag) : Addr := He.ma K (He.ga K "State") "messages"
theorem Top.D_State_messages (T : Top K mg) : FunD K "messages" "State.messages" (defArgs s_State_messages) (defBody s_State_messages) (defScope s_State_messages) [] [] (a_State_messages K) (fdOf K (a_State_messages K)) := let ⟨_, F⟩ := T.c.def_ 21 (d := d_State_messages) rfl; fd_of F
theorem Top.F_State_messages (T : Top K mg) : Fun K "messages" "State.messages" s_State_messages (a_State_messages K) (fdOf K (a_State_messages K)) := He5.fun_of T.D_State_messages
theorem Top.b_State_messages (T : Top K mg) : Binds K (fdOf K (a_State_messages K)) ["self", "node"] [] := T.D_State_messages.bindsN fun _ _ _ _ _ _ us hl => match us, hl with | [_, _], _ => rfl
abbrev N_State_messages : List Str := ["self", "node", "origin", "number"]
theorem sc_State_messages : FnScope N_State_messages ["self", "node"] (defScope s_State_messages) := ⟨rfl, rfl, rfl, by decide +kernel, rfl, by decide +kernel, by decide +kernel⟩
abbrev a_State_sets (K : PySem.W.Frag) : Addr := He.ma K (He.ga K "State") "sets"
theorem Top.D_State_sets (T : Top K mg) : FunD K "sets" "State.sets" (defArgs s_State_sets) (defBody s_State_sets) (defScope s_State_sets) [] [] (a_State_sets K) (fdOf K (a_State_sets K)) := let ⟨_, F⟩ := T.c.def_ 22 (d := d_State_sets) rfl; fd_of F
theorem Top.F_State_sets (T : Top K mg) : Fun K "sets" "State.sets" s_State_sets (a_State_sets K) (fdOf K (a_State_sets K)) := He5.fun_of T.D_State_sets
theorem Top.b_State_sets (T : Top K mg) : Binds K (fdOf K (a_State_sets K)) ["self"] [] := T.D_State_sets.bindsN fun _ _ _ _ _ _ us hl => match us, hl with | [_], _ => rfl
abbrev N_State_sets : List Str := ["self", "found", "size", "one", "rows", "node"]
theorem sc_State_sets : FnScope N_State_sets ["self"] (defScope s_State_sets) := ⟨rfl, rfl, rfl, by decide +kernel, rfl, by decide +kernel, by decide +kernel⟩
abbrev a_State_span (K : PySem.W.Frag) : Addr := He.ma K (He.ga K "State") "span"
theorem Top.D_State_span (T : Top K mg) : FunD K "span" "State.span" (defArgs s_State_span) (defBody s_State_span) (defScope s_State_span) [] [] (a_State_span K) (fdOf K (a_State_span K)) := let ⟨_, F⟩ := T.c.def_ 23 (d := d_State_span) rfl; fd_of F
theorem Top.F_State_span (T : Top K mg) : Fun K "span" "State.span" s_State_span (a_State_span K) (fdOf K (a_State_span K)) := He5.fun_of T.D_State_span
theorem Top.b_State_span (T : Top K mg) : Binds K (fdOf K (a_State_span K)) ["self", "one"] [] := T.D_State_span.bindsN fun _ _ _ _ _ _ us hl => match us, hl with | [_, _], _ => rfl
abbrev N_State_span : List Str := ["self", "one", "made", "top", "span", "message"]
theorem sc_State_span : FnScope N_State_span ["self", "one"] (defScope s_State_span) := ⟨rfl, rfl, rfl, by decide +kernel, rfl, by decide +kernel, by decide +kernel⟩
abbrev a_State_rank (K : PySem.W.Frag) : Addr := He.ma K (He.ga K "State") "rank"
theorem Top.D_State_rank (T : Top K mg) : FunD K "rank" "State.rank" (defArgs s_State_rank) (defBody s_State_rank) (defScope s_State_rank) [] [] (a_State_rank K) (fdOf K (a_State_rank K)) := let ⟨_, F⟩ := T.c.def_ 24 (d := d_State_rank) rfl; fd_of F
theorem Top.F_State_rank (T : Top K mg) : Fun K "rank" "State.rank" s_State_rank (a_State_rank K) (fdOf K (a_State_rank K)) := He5.fun_of T.D_State_rank
theorem Top.b_State_rank (T : Top K mg) : Binds K (fdOf K (a_State_rank K)) ["self", "one"] [] := T.D_State_rank.bindsN fun _ _ _ _ _ _ us hl => match us, hl with | [_, _], _ => rfl
abbrev N_State_rank : List Str := ["self", "one"]
theorem sc_State_rank : FnScope N_State_rank ["self", "one"] (defScope s_State_rank) := ⟨rfl, rfl, rfl, by decide +kernel, rfl, by decide +kernel, by decide +kernel⟩
abbrev a_State_demand (K : PySem.W.Frag) : Addr := He.ma K (He.ga K "State") "demand"
theorem Top.D_State_demand (T : Top K mg) : FunD K "demand" "State.demand" (defArgs s_State_demand) (defBody s_State_demand) (defScope s_State_demand) [] [] (a_State_demand K) (fdOf K (a_State_demand K)) := let ⟨_, F⟩ := T.c.def_ 25 (d := d_State_demand) rfl; fd_of F
theorem Top.F_State_demand (T : Top K mg) : Fun K "demand" "State.demand" s_State_demand (a_State_demand K) (fdOf K (a_State_demand K)) := He5.fun_of T.D_State_demand
theorem Top.b_State_demand (T : Top K mg) : Binds K (fdOf K (a_State_demand K)) ["self", "one"] [] := T.D_State_demand.bindsN fun _ _ _ _ _ _ us hl => match us, hl with | [_, _], _ => rfl
abbrev N_State_demand : List Str := ["self", "one"]
theorem sc_State_demand : FnScope N_State_demand ["self", "one"] (defScope s_State_demand) := ⟨rfl, rfl, rfl, by decide +kernel, rfl, by decide +kernel, by decide +kernel⟩
abbrev a_State_entering (K : PySem.W.Frag) : Addr := He.ma K (He.ga K "State") "entering"
theorem Top.D_State_entering (T : Top K mg) : FunD K "entering" "State.entering" (defArgs s_State_entering) (defBody s_State_entering) (defScope s_State_entering) [] [] (a_State_entering K) (fdOf K (a_State_entering K)) := let ⟨_, F⟩ := T.c.def_ 26 (d := d_State_entering) rfl; fd_of F
theorem Top.F_State_entering (T : Top K mg) : Fun K "entering" "State.entering" s_State_entering (a_State_entering K) (fdOf K (a_State_entering K)) := He5.fun_of T.D_State_entering
theorem Top.b_State_entering (T : Top K mg) : Binds K (fdOf K (a_State_entering K)) ["self", "one"] [] := T.D_State_entering.bindsN fun _ _ _ _ _ _ us hl => match us, hl with | [_, _], _ => rfl
abbrev N_State_entering : List Str := ["self", "one", "link"]
theorem sc_State_entering : FnScope N_State_entering ["self", "one"] (defScope s_State_entering) := ⟨rfl, rfl, rfl, by decide +kernel, rfl, by decide +kernel, by decide +kernel⟩
abbrev a_State_slack (K : PySem.W.Frag) : Addr := He.ma K (He.ga K "State") "slack"
theorem Top.D_State_slack (T : Top K mg) : FunD K "slack" "State.slack" (defArgs s_State_slack) (defBody s_State_slack) (defScope s_State_slack) [] [] (a_State_slack K) (fdOf K (a_State_slack K)) := let ⟨_, F⟩ := T.c.def_ 27 (d := d_State_slack) rfl; fd_of F
theorem Top.F_State_slack (T : Top K mg) : Fun K "slack" "State.slack" s_State_slack (a_State_slack K) (fdOf K (a_State_slack K)) := He5.fun_of T.D_State_slack
theorem Top.b_State_slack (T : Top K mg) : Binds K (fdOf K (a_State_slack K)) ["self", "one"] [] := T.D_State_slack.bindsN fun _ _ _ _ _ _ us hl => match us, hl with | [_, _], _ => rfl
abbrev N_State_slack : List Str := ["self", "one"]
theorem sc_State_slack : FnScope N_State_slack ["self", "one"] (defScope s_State_slack) := ⟨rfl, rfl, rfl, by decide +kernel, rfl, by decide +kernel, by decide +kernel⟩
abbrev a_State_deficient (K : PySem.W.Frag) : Addr := He.ma K (He.ga K "State") "deficient"
theorem Top.D_State_deficient (T : Top K mg) : FunD K "deficient" "State.deficient" (defArgs s_State_deficient) (defBody s_State_deficient) (defScope s_State_deficient) [] [] (a_State_deficient K) (fdOf K (a_State_deficient K)) := let ⟨_, F⟩ := T.c.def_ 28 (d := d_State_deficient) rfl; fd_of F
theorem Top.F_State_deficient (T : Top K mg) : Fun K "deficient" "State.deficient" s_State_deficient (a_State_deficient K) (fdOf K (a_State_deficient K)) := He5.fun_of T.D_State_deficient
theorem Top.b_State_deficient (T : Top K mg) : Binds K (fdOf K (a_State_deficient K)) ["self"] [] := T.D_State_deficient.bindsN fun _ _ _ _ _ _ us hl => match us, hl with | [_], _ => rfl
abbrev N_State_deficient : List Str := ["self", "one"]
theorem sc_State_deficient : FnScope N_State_deficient ["self"] (defScope s_State_deficient) := ⟨rfl, rfl, rfl, by decide +kernel, rfl, by decide +kernel, by decide +kernel⟩
abbrev a_State_tight (K : PySem.W.Frag) : Addr := He.ma K (He.ga K "State") "tight"
theorem Top.D_State_tight (T : Top K mg) : FunD K "tight" "State.tight" (defArgs s_State_tight) (defBody s_State_tight) (defScope s_State_tight) [] [] (a_State_tight K) (fdOf K (a_State_tight K)) := let ⟨_, F⟩ := T.c.def_ 29 (d := d_State_tight) rfl; fd_of F
theorem Top.F_State_tight (T : Top K mg) : Fun K "tight" "State.tight" s_State_tight (a_State_tight K) (fdOf K (a_State_tight K)) := He5.fun_of T.D_State_tight
theorem Top.b_State_tight (T : Top K mg) : Binds K (fdOf K (a_State_tight K)) ["self"] [] := T.D_State_tight.bindsN fun _ _ _ _ _ _ us hl => match us, hl with | [_], _ => rfl
abbrev N_State_tight : List Str := ["self", "one"]
theorem sc_State_tight : FnScope N_State_tight ["self"] (defScope s_State_tight) := ⟨rfl, rfl, rfl, by decide +kernel, rfl, by decide +kernel, by decide +kernel⟩
abbrev a_State_why_not (K : PySem.W.Frag) : Addr := He.ma K (He.ga K "State") "why_not"
theorem Top.D_State_why_not (T : Top K mg) : FunD K "why_not" "State.why_not" (defArgs s_State_why_not) (defBody s_State_why_not) (defScope s_State_why_not) [] [] (a_State_why_not K) (fdOf K (a_State_why_not K)) := let ⟨_, F⟩ := T.c.def_ 30 (d := d_State_why_not) rfl; fd_of F
theorem Top.F_State_why_not (T : Top K mg) : Fun K "why_not" "State.why_not" s_State_why_not (a_State_why_not K) (fdOf K (a_State_why_not K)) := He5.fun_of T.D_State_why_not
theorem Top.b_State_why_not (T : Top K mg) : Binds K (fdOf K (a_State_why_not K)) ["self", "transmission"] [] := T.D_State_why_not.bindsN fun _ _ _ _ _ _ us hl => match us, hl with | [_, _], _ => rfl
abbrev N_State_why_not : List Str := ["self", "transmission", "link", "origin", "number", "sender", "receiver"]
theorem sc_State_why_not : FnScope N_State_why_not ["self", "transmission"] (defScope s_State_why_not) := ⟨rfl, rfl, rfl, by decide +kernel, rfl, by decide +kernel, by decide +kernel⟩
abbrev a_State_after (K : PySem.W.Frag) : Addr := He.ma K (He.ga K "State") "after"
theorem Top.D_State_after (T : Top K mg) : FunD K "after" "State.after" (defArgs s_State_after) (defBody s_State_after) (defScope s_State_after) [] [] (a_State_after K) (fdOf K (a_State_after K)) := let ⟨_, F⟩ := T.c.def_ 31 (d := d_State_after) rfl; fd_of F
theorem Top.F_State_after (T : Top K mg) : Fun K "after" "State.after" s_State_after (a_State_after K) (fdOf K (a_State_after K)) := He5.fun_of T.D_State_after
theorem Top.b_State_after (T : Top K mg) : Binds K (fdOf K (a_State_after K)) ["self", "transmission"] [] := T.D_State_after.bindsN fun _ _ _ _ _ _ us hl => match us, hl with | [_, _], _ => rfl
abbrev N_State_after : List Str := ["self", "transmission", "link", "origin", "number", "found"]
theorem sc_State_after : FnScope N_State_after ["self", "transmission"] (defScope s_State_after) := ⟨rfl, rfl, rfl, by decide +kernel, rfl, by decide +kernel, by decide +kernel⟩
abbrev a_State_without (K : PySem.W.Frag) : Addr := He.ma K (He.ga K "State") "without"
theorem Top.D_State_without (T : Top K mg) : FunD K "without" "State.without" (defArgs s_State_without) (defBody s_State_without) (defScope s_State_without) [] [] (a_State_without K) (fdOf K (a_State_without K)) := let ⟨_, F⟩ := T.c.def_ 32 (d := d_State_without) rfl; fd_of F
theorem Top.F_State_without (T : Top K mg) : Fun K "without" "State.without" s_State_without (a_State_without K) (fdOf K (a_State_without K)) := He5.fun_of T.D_State_without
theorem Top.b_State_without (T : Top K mg) : Binds K (fdOf K (a_State_without K)) ["self", "links"] [] := T.D_State_without.bindsN fun _ _ _ _ _ _ us hl => match us, hl with | [_, _], _ => rfl
abbrev N_State_without : List Str := ["self", "links", "found", "row", "one"]
theorem sc_State_without : FnScope N_State_without ["self", "links"] (defScope s_State_without) := ⟨rfl, rfl, rfl, by decide +kernel, rfl, by decide +kernel, by decide +kernel⟩
abbrev a_State_is_done (K : PySem.W.Frag) : Addr := He.ma K (He.ga K "State") "is_done"
theorem Top.D_State_is_done (T : Top K mg) : FunD K "is_done" "State.is_done" (defArgs s_State_is_done) (defBody s_State_is_done) (defScope s_State_is_done) [] [] (a_State_is_done K) (fdOf K (a_State_is_done K)) := let ⟨_, F⟩ := T.c.def_ 33 (d := d_State_is_done) rfl; fd_of F
theorem Top.F_State_is_done (T : Top K mg) : Fun K "is_done" "State.is_done" s_State_is_done (a_State_is_done K) (fdOf K (a_State_is_done K)) := He5.fun_of T.D_State_is_done
theorem Top.b_State_is_done (T : Top K mg) : Binds K (fdOf K (a_State_is_done K)) ["self"] [] := T.D_State_is_done.bindsN fun _ _ _ _ _ _ us hl => match us, hl with | [_], _ => rfl
abbrev N_State_is_done : List Str := ["self", "node"]
theorem sc_State_is_done : FnScope N_State_is_done ["self"] (defScope s_State_is_done) := ⟨rfl, rfl, rfl, by decide +kernel, rfl, by decide +kernel, by decide +kernel⟩
abbrev a_State_largest_without (K : PySem.W.Frag) : Addr := He.ma K (He.ga K "State") "largest_without"
theorem Top.D_State_largest_without (T : Top K mg) : FunD K "largest_without" "State.largest_without" (defArgs s_State_largest_without) (defBody s_State_largest_without) (defScope s_State_largest_without) [] [] (a_State_largest_without K) (fdOf K (a_State_largest_without K)) := let ⟨_, F⟩ := T.c.def_ 34 (d := d_State_largest_without) rfl; fd_of F
theorem Top.F_State_largest_without (T : Top K mg) : Fun K "largest_without" "State.largest_without" s_State_largest_without (a_State_largest_without K) (fdOf K (a_State_largest_without K)) := He5.fun_of T.D_State_largest_without
theorem Top.b_State_largest_without (T : Top K mg) : Binds K (fdOf K (a_State_largest_without K)) ["self", "node", "other"] [] := T.D_State_largest_without.bindsN fun _ _ _ _ _ _ us hl => match us, hl with | [_, _, _], _ => rfl
abbrev N_State_largest_without : List Str := ["self", "node", "other", "found", "one"]
theorem sc_State_largest_without : FnScope N_State_largest_without ["self", "node", "other"] (defScope s_State_largest_without) := ⟨rfl, rfl, rfl, by decide +kernel, rfl, by decide +kernel, by decide +kernel⟩
abbrev a_State_carried (K : PySem.W.Frag) : Addr := He.ma K (He.ga K "State") "carried"
theorem Top.D_State_carried (T : Top K mg) : FunD K "carried" "State.carried" (defArgs s_State_carried) (defBody s_State_carried) (defScope s_State_carried) [] [] (a_State_carried K) (fdOf K (a_State_carried K)) := let ⟨_, F⟩ := T.c.def_ 35 (d := d_State_carried) rfl; fd_of F
theorem Top.F_State_carried (T : Top K mg) : Fun K "carried" "State.carried" s_State_carried (a_State_carried K) (fdOf K (a_State_carried K)) := He5.fun_of T.D_State_carried
theorem Top.b_State_carried (T : Top K mg) : Binds K (fdOf K (a_State_carried K)) ["self", "link"] [] := T.D_State_carried.bindsN fun _ _ _ _ _ _ us hl => match us, hl with | [_, _], _ => rfl
abbrev N_State_carried : List Str := ["self", "link", "sender", "receiver", "barred", "row"]
theorem sc_State_carried : FnScope N_State_carried ["self", "link"] (defScope s_State_carried) := ⟨rfl, rfl, rfl, by decide +kernel, rfl, by decide +kernel, by decide +kernel⟩
abbrev a_State_following (K : PySem.W.Frag) : Addr := He.ma K (He.ga K "State") "following"
theorem Top.D_State_following (T : Top K mg) : FunD K "following" "State.following" (defArgs s_State_following) (defBody s_State_following) (defScope s_State_following) [] [] (a_State_following K) (fdOf K (a_State_following K)) := let ⟨_, F⟩ := T.c.def_ 36 (d := d_State_following) rfl; fd_of F
theorem Top.F_State_following (T : Top K mg) : Fun K "following" "State.following" s_State_following (a_State_following K) (fdOf K (a_State_following K)) := He5.fun_of T.D_State_following
theorem Top.b_State_following (T : Top K mg) : Binds K (fdOf K (a_State_following K)) ["self"] [] := T.D_State_following.bindsN fun _ _ _ _ _ _ us hl => match us, hl with | [_], _ => rfl
abbrev N_State_following : List Str := ["self", "found", "link", "origin", "number"]
theorem sc_State_following : FnScope N_State_following ["self"] (defScope s_State_following) := ⟨rfl, rfl, rfl, by decide +kernel, rfl, by decide +kernel, by decide +kernel⟩
abbrev a_Needs_init (K : PySem.W.Frag) : Addr := He.ma K (He.ga K "Needs") "__init__"
theorem Top.D_Needs_init (T : Top K mg) : FunD K "__init__" "Needs.__init__" (defArgs s_Needs_init) (defBody s_Needs_init) (defScope s_Needs_init) [] [] (a_Needs_init K) (fdOf K (a_Needs_init K)) := let ⟨_, F⟩ := T.c.def_ 37 (d := d_Needs_init) rfl; fd_of F
theorem Top.F_Needs_init (T : Top K mg) : Fun K "__init__" "Needs.__init__" s_Needs_init (a_Needs_init K) (fdOf K (a_Needs_init K)) := He5.fun_of T.D_Needs_init
theorem Top.b_Needs_init (T : Top K mg) : Binds K (fdOf K (a_Needs_init K)) ["self", "network"] [] := T.D_Needs_init.bindsN fun _ _ _ _ _ _ us hl => match us, hl with | [_, _], _ => rfl
abbrev N_Needs_init : List Str := ["self", "network", "state", "one"]
theorem sc_Needs_init : FnScope N_Needs_init ["self", "network"] (defScope s_Needs_init) := ⟨rfl, rfl, rfl, by decide +kernel, rfl, by decide +kernel, by decide +kernel⟩
abbrev a_Needs_is_enough (K : PySem.W.Frag) : Addr := He.ma K (He.ga K "Needs") "is_enough"
theorem Top.D_Needs_is_enough (T : Top K mg) : FunD K "is_enough" "Needs.is_enough" (defArgs s_Needs_is_enough) (defBody s_Needs_is_enough) (defScope s_Needs_is_enough) [] [] (a_Needs_is_enough K) (fdOf K (a_Needs_is_enough K)) := let ⟨_, F⟩ := T.c.def_ 38 (d := d_Needs_is_enough) rfl; fd_of F
theorem Top.F_Needs_is_enough (T : Top K mg) : Fun K "is_enough" "Needs.is_enough" s_Needs_is_enough (a_Needs_is_enough K) (fdOf K (a_Needs_is_enough K)) := He5.fun_of T.D_Needs_is_enough
theorem Top.b_Needs_is_enough (T : Top K mg) : Binds K (fdOf K (a_Needs_is_enough K)) ["self", "links"] [] := T.D_Needs_is_enough.bindsN fun _ _ _ _ _ _ us hl => match us, hl with | [_, _], _ => rfl
abbrev N_Needs_is_enough : List Str := ["self", "links", "_", "demand", "entering", "link"]
theorem sc_Needs_is_enough : FnScope N_Needs_is_enough ["self", "links"] (defScope s_Needs_is_enough) := ⟨rfl, rfl, rfl, by decide +kernel, rfl, by decide +kernel, by decide +kernel⟩
abbrev a_Needs_of_node (K : PySem.W.Frag) : Addr := He.ma K (He.ga K "Needs") "of_node"
theorem Top.D_Needs_of_node (T : Top K mg) : FunD K "of_node" "Needs.of_node" (defArgs s_Needs_of_node) (defBody s_Needs_of_node) (defScope s_Needs_of_node) [] [] (a_Needs_of_node K) (fdOf K (a_Needs_of_node K)) := let ⟨_, F⟩ := T.c.def_ 39 (d := d_Needs_of_node) rfl; fd_of F
theorem Top.F_Needs_of_node (T : Top K mg) : Fun K "of_node" "Needs.of_node" s_Needs_of_node (a_Needs_of_node K) (fdOf K (a_Needs_of_node K)) := He5.fun_of T.D_Needs_of_node
theorem Top.b_Needs_of_node (T : Top K mg) : Binds K (fdOf K (a_Needs_of_node K)) ["self", "node"] [] := T.D_Needs_of_node.bindsN fun _ _ _ _ _ _ us hl => match us, hl with | [_, _], _ => rfl
abbrev N_Needs_of_node : List Str := ["self", "node", "one", "demand", "entering"]
theorem sc_Needs_of_node : FnScope N_Needs_of_node ["self", "node"] (defScope s_Needs_of_node) := ⟨rfl, rfl, rfl, by decide +kernel, rfl, by decide +kernel, by decide +kernel⟩
abbrev a_is_feasible (K : PySem.W.Frag) : Addr := He.ga K "is_feasible"
theorem Top.D_is_feasible (T : Top K mg) : FunD K "is_feasible" "is_feasible" (defArgs s_is_feasible) (defBody s_is_feasible) (defScope s_is_feasible) [] [] (a_is_feasible K) (fdOf K (a_is_feasible K)) := let ⟨_, F⟩ := T.c.def_ 40 (d := d_is_feasible) rfl; fd_of F
theorem Top.F_is_feasible (T : Top K mg) : Fun K "is_feasible" "is_feasible" s_is_feasible (a_is_feasible K) (fdOf K (a_is_feasible K)) := He5.fun_of T.D_is_feasible
theorem Top.b_is_feasible (T : Top K mg) : Binds K (fdOf K (a_is_feasible K)) ["network"] [] := T.D_is_feasible.bindsN fun _ _ _ _ _ _ us hl => match us, hl with | [_], _ => rfl
abbrev N_is_feasible : List Str := ["network"]
theorem sc_is_feasible : FnScope N_is_feasible ["network"] (defScope s_is_feasible) := ⟨rfl, rfl, rfl, by decide +kernel, rfl, by decide +kernel, by decide +kernel⟩
abbrev a_reduced (K : PySem.W.Frag) : Addr := He.ga K "reduced"
theorem Top.D_reduced (T : Top K mg) : FunD K "reduced" "reduced" (defArgs s_reduced) (defBody s_reduced) (defScope s_reduced) [] [] (a_reduced K) (fdOf K (a_reduced K)) := let ⟨_, F⟩ := T.c.def_ 41 (d := d_reduced) rfl; fd_of F
theorem Top.F_reduced (T : Top K mg) : Fun K "reduced" "reduced" s_reduced (a_reduced K) (fdOf K (a_reduced K)) := He5.fun_of T.D_reduced
theorem Top.b_reduced (T : Top K mg) : Binds K (fdOf K (a_reduced K)) ["network"] [] := T.D_reduced.bindsN fun _ _ _ _ _ _ us hl => match us, hl with | [_], _ => rfl
abbrev N_reduced : List Str := ["network", "needs", "kept", "link", "fewer", "one"]
theorem sc_reduced : FnScope N_reduced ["network"] (defScope s_reduced) := ⟨rfl, rfl, rfl, by decide +kernel, rfl, by decide +kernel, by decide +kernel⟩
abbrev a_with_link (K : PySem.W.Frag) : Addr := He.ga K "with_link"
theorem Top.D_with_link (T : Top K mg) : FunD K "with_link" "with_link" (defArgs s_with_link) (defBody s_with_link) (defScope s_with_link) [] [] (a_with_link K) (fdOf K (a_with_link K)) := let ⟨_, F⟩ := T.c.def_ 42 (d := d_with_link) rfl; fd_of F
theorem Top.F_with_link (T : Top K mg) : Fun K "with_link" "with_link" s_with_link (a_with_link K) (fdOf K (a_with_link K)) := He5.fun_of T.D_with_link
theorem Top.b_with_link (T : Top K mg) : Binds K (fdOf K (a_with_link K)) ["network", "link"] [] := T.D_with_link.bindsN fun _ _ _ _ _ _ us hl => match us, hl with | [_, _], _ => rfl
abbrev N_with_link : List Str := ["network", "link"]
theorem sc_with_link : FnScope N_with_link ["network", "link"] (defScope s_with_link) := ⟨rfl, rfl, rfl, by decide +kernel, rfl, by decide +kernel, by decide +kernel⟩
abbrev a_helping_links (K : PySem.W.Frag) : Addr := He.ga K "helping_links"
theorem Top.D_helping_links (T : Top K mg) : FunD K "helping_links" "helping_links" (defArgs s_helping_links) (defBody s_helping_links) (defScope s_helping_links) [] [] (a_helping_links K) (fdOf K (a_helping_links K)) := let ⟨_, F⟩ := T.c.def_ 43 (d := d_helping_links) rfl; fd_of F
theorem Top.F_helping_links (T : Top K mg) : Fun K "helping_links" "helping_links" s_helping_links (a_helping_links K) (fdOf K (a_helping_links K)) := He5.fun_of T.D_helping_links
theorem Top.b_helping_links (T : Top K mg) : Binds K (fdOf K (a_helping_links K)) ["network"] [] := T.D_helping_links.bindsN fun _ _ _ _ _ _ us hl => match us, hl with | [_], _ => rfl
abbrev N_helping_links : List Str := ["network", "letters", "found", "sender", "link", "receiver"]
theorem sc_helping_links : FnScope N_helping_links ["network"] (defScope s_helping_links) := ⟨rfl, rfl, rfl, by decide +kernel, rfl, by decide +kernel, by decide +kernel⟩
abbrev a_chosen (K : PySem.W.Frag) : Addr := He.ga K "chosen"
theorem Top.D_chosen (T : Top K mg) : FunD K "chosen" "chosen" (defArgs s_chosen) (defBody s_chosen) (defScope s_chosen) [] [] (a_chosen K) (fdOf K (a_chosen K)) := let ⟨_, F⟩ := T.c.def_ 44 (d := d_chosen) rfl; fd_of F
theorem Top.F_chosen (T : Top K mg) : Fun K "chosen" "chosen" s_chosen (a_chosen K) (fdOf K (a_chosen K)) := He5.fun_of T.D_chosen
theorem Top.b_chosen (T : Top K mg) : Binds K (fdOf K (a_chosen K)) ["links", "many"] [] := T.D_chosen.bindsN fun _ _ _ _ _ _ us hl => match us, hl with | [_, _], _ => rfl
abbrev N_chosen : List Str := ["links", "many", "found", "link", "row"]
theorem sc_chosen : FnScope N_chosen ["links", "many"] (defScope s_chosen) := ⟨rfl, rfl, rfl, by decide +kernel, rfl, by decide +kernel, by decide +kernel⟩
abbrev a_least_sets (K : PySem.W.Frag) : Addr := He.ga K "least_sets"
theorem Top.D_least_sets (T : Top K mg) : FunD K "least_sets" "least_sets" (defArgs s_least_sets) (defBody s_least_sets) (defScope s_least_sets) [] [] (a_least_sets K) (fdOf K (a_least_sets K)) := let ⟨_, F⟩ := T.c.def_ 45 (d := d_least_sets) rfl; fd_of F
theorem Top.F_least_sets (T : Top K mg) : Fun K "least_sets" "least_sets" s_least_sets (a_least_sets K) (fdOf K (a_least_sets K)) := He5.fun_of T.D_least_sets
theorem Top.b_least_sets (T : Top K mg) : Binds K (fdOf K (a_least_sets K)) ["needs"] [] := T.D_least_sets.bindsN fun _ _ _ _ _ _ us hl => match us, hl with | [_], _ => rfl
abbrev N_least_sets : List Str := ["needs", "found", "node", "demand", "entering", "ways", "longer", "row", "way"]
theorem sc_least_sets : FnScope N_least_sets ["needs"] (defScope s_least_sets) := ⟨rfl, rfl, rfl, by decide +kernel, rfl, by decide +kernel, by decide +kernel⟩
abbrev a_check_costs (K : PySem.W.Frag) : Addr := He.ga K "check_costs"
theorem Top.D_check_costs (T : Top K mg) : FunD K "check_costs" "check_costs" (defArgs s_check_costs) (defBody s_check_costs) (defScope s_check_costs) [] [] (a_check_costs K) (fdOf K (a_check_costs K)) := let ⟨_, F⟩ := T.c.def_ 46 (d := d_check_costs) rfl; fd_of F
theorem Top.F_check_costs (T : Top K mg) : Fun K "check_costs" "check_costs" s_check_costs (a_check_costs K) (fdOf K (a_check_costs K)) := He5.fun_of T.D_check_costs
theorem Top.b_check_costs (T : Top K mg) : Binds K (fdOf K (a_check_costs K)) ["network", "costs"] [] := T.D_check_costs.bindsN fun _ _ _ _ _ _ us hl => match us, hl with | [_, _], _ => rfl
abbrev N_check_costs : List Str := ["network", "costs", "cost"]
theorem sc_check_costs : FnScope N_check_costs ["network", "costs"] (defScope s_check_costs) := ⟨rfl, rfl, rfl, by decide +kernel, rfl, by decide +kernel, by decide +kernel⟩
abbrev a_cheapest (K : PySem.W.Frag) : Addr := He.ga K "cheapest"
theorem Top.D_cheapest (T : Top K mg) : FunD K "cheapest" "cheapest" (defArgs s_cheapest) (defBody s_cheapest) (defScope s_cheapest) [] [] (a_cheapest K) (fdOf K (a_cheapest K)) := let ⟨_, F⟩ := T.c.def_ 47 (d := d_cheapest) rfl; fd_of F
theorem Top.F_cheapest (T : Top K mg) : Fun K "cheapest" "cheapest" s_cheapest (a_cheapest K) (fdOf K (a_cheapest K)) := He5.fun_of T.D_cheapest
theorem Top.b_cheapest (T : Top K mg) : Binds K (fdOf K (a_cheapest K)) ["network", "costs"] [] := T.D_cheapest.bindsN fun _ _ _ _ _ _ us hl => match us, hl with | [_, _], _ => rfl
abbrev N_cheapest : List Str := ["network", "costs", "needs", "best", "row", "told", "link"]
theorem sc_cheapest : FnScope N_cheapest ["network", "costs"] (defScope s_cheapest) := ⟨rfl, rfl, rfl, by decide +kernel, rfl, by decide +kernel, by decide +kernel⟩
abbrev a_checked_weights (K : PySem.W.Frag) : Addr := He.ga K "checked_weights"
theorem Top.D_checked_weights (T : Top K mg) : FunD K "checked_weights" "checked_weights" (defArgs s_checked_weights) (defBody s_checked_weights) (defScope s_checked_weights) [] [] (a_checked_weights K) (fdOf K (a_checked_weights K)) := let ⟨_, F⟩ := T.c.def_ 48 (d := d_checked_weights) rfl; fd_of F
theorem Top.F_checked_weights (T : Top K mg) : Fun K "checked_weights" "checked_weights" s_checked_weights (a_checked_weights K) (fdOf K (a_checked_weights K)) := He5.fun_of T.D_checked_weights
theorem Top.b_checked_weights (T : Top K mg) : Binds K (fdOf K (a_checked_weights K)) ["network", "weights"] [] := T.D_checked_weights.bindsN fun _ _ _ _ _ _ us hl => match us, hl with | [_, _], _ => rfl
abbrev N_checked_weights : List Str := ["network", "weights", "masks", "order", "last", "number", "row", "place", "nodes", "weight"]
theorem sc_checked_weights : FnScope N_checked_weights ["network", "weights"] (defScope s_checked_weights) := ⟨rfl, rfl, rfl, by decide +kernel, rfl, by decide +kernel, by decide +kernel⟩
abbrev a_bound (K : PySem.W.Frag) : Addr := He.ga K "bound"
theorem Top.D_bound (T : Top K mg) : FunD K "bound" "bound" (defArgs s_bound) (defBody s_bound) (defScope s_bound) [] [] (a_bound K) (fdOf K (a_bound K)) := let ⟨_, F⟩ := T.c.def_ 49 (d := d_bound) rfl; fd_of F
theorem Top.F_bound (T : Top K mg) : Fun K "bound" "bound" s_bound (a_bound K) (fdOf K (a_bound K)) := He5.fun_of T.D_bound
theorem Top.b_bound (T : Top K mg) : Binds K (fdOf K (a_bound K)) ["network", "costs", "weights"] [] := T.D_bound.bindsN fun _ _ _ _ _ _ us hl => match us, hl with | [_, _, _], _ => rfl
abbrev N_bound : List Str := ["network", "costs", "weights", "rows", "state", "one", "weight", "found", "loads", "link", "load", "cost"]
theorem sc_bound : FnScope N_bound ["network", "costs", "weights"] (defScope s_bound) := ⟨rfl, rfl, rfl, by decide +kernel, rfl, by decide +kernel, by decide +kernel⟩
abbrev a_schedule_from (K : PySem.W.Frag) : Addr := He.ga K "schedule_from"
theorem Top.D_schedule_from (T : Top K mg) : FunD K "schedule_from" "schedule_from" (defArgs s_schedule_from) (defBody s_schedule_from) (defScope s_schedule_from) [] [] (a_schedule_from K) (fdOf K (a_schedule_from K)) := let ⟨_, F⟩ := T.c.def_ 50 (d := d_schedule_from) rfl; fd_of F
theorem Top.F_schedule_from (T : Top K mg) : Fun K "schedule_from" "schedule_from" s_schedule_from (a_schedule_from K) (fdOf K (a_schedule_from K)) := He5.fun_of T.D_schedule_from
theorem Top.b_schedule_from (T : Top K mg) : Binds K (fdOf K (a_schedule_from K)) ["state"] [] := T.D_schedule_from.bindsN fun _ _ _ _ _ _ us hl => match us, hl with | [_], _ => rfl
abbrev N_schedule_from : List Str := ["state", "found", "transmission"]
theorem sc_schedule_from : FnScope N_schedule_from ["state"] (defScope s_schedule_from) := ⟨rfl, rfl, rfl, by decide +kernel, rfl, by decide +kernel, by decide +kernel⟩
abbrev a_first_schedule (K : PySem.W.Frag) : Addr := He.ga K "first_schedule"
theorem Top.D_first_schedule (T : Top K mg) : FunD K "first_schedule" "first_schedule" (defArgs s_first_schedule) (defBody s_first_schedule) (defScope s_first_schedule) [] [] (a_first_schedule K) (fdOf K (a_first_schedule K)) := let ⟨_, F⟩ := T.c.def_ 51 (d := d_first_schedule) rfl; fd_of F
theorem Top.F_first_schedule (T : Top K mg) : Fun K "first_schedule" "first_schedule" s_first_schedule (a_first_schedule K) (fdOf K (a_first_schedule K)) := He5.fun_of T.D_first_schedule
theorem Top.b_first_schedule (T : Top K mg) : Binds K (fdOf K (a_first_schedule K)) ["network"] [] := T.D_first_schedule.bindsN fun _ _ _ _ _ _ us hl => match us, hl with | [_], _ => rfl
abbrev N_first_schedule : List Str := ["network"]
theorem sc_first_schedule : FnScope N_first_schedule ["network"] (defScope s_first_schedule) := ⟨rfl, rfl, rfl, by decide +kernel, rfl, by decide +kernel, by decide +kernel⟩
abbrev a_checked (K : PySem.W.Frag) : Addr := He.ga K "checked"
theorem Top.D_checked (T : Top K mg) : FunD K "checked" "checked" (defArgs s_checked) (defBody s_checked) (defScope s_checked) [] [] (a_checked K) (fdOf K (a_checked K)) := let ⟨_, F⟩ := T.c.def_ 52 (d := d_checked) rfl; fd_of F
theorem Top.F_checked (T : Top K mg) : Fun K "checked" "checked" s_checked (a_checked K) (fdOf K (a_checked K)) := He5.fun_of T.D_checked
theorem Top.b_checked (T : Top K mg) : Binds K (fdOf K (a_checked K)) ["network", "transmissions"] [] := T.D_checked.bindsN fun _ _ _ _ _ _ us hl => match us, hl with | [_, _], _ => rfl
abbrev N_checked : List Str := ["network", "transmissions", "row", "rows"]
theorem sc_checked : FnScope N_checked ["network", "transmissions"] (defScope s_checked) := ⟨rfl, rfl, rfl, by decide +kernel, rfl, by decide +kernel, by decide +kernel⟩
abbrev a_last_state (K : PySem.W.Frag) : Addr := He.ga K "last_state"
theorem Top.D_last_state (T : Top K mg) : FunD K "last_state" "last_state" (defArgs s_last_state) (defBody s_last_state) (defScope s_last_state) [] [] (a_last_state K) (fdOf K (a_last_state K)) := let ⟨_, F⟩ := T.c.def_ 53 (d := d_last_state) rfl; fd_of F
theorem Top.F_last_state (T : Top K mg) : Fun K "last_state" "last_state" s_last_state (a_last_state K) (fdOf K (a_last_state K)) := He5.fun_of T.D_last_state
theorem Top.b_last_state (T : Top K mg) : Binds K (fdOf K (a_last_state K)) ["network", "transmissions"] [] := T.D_last_state.bindsN fun _ _ _ _ _ _ us hl => match us, hl with | [_, _], _ => rfl
abbrev N_last_state : List Str := ["network", "transmissions", "state", "transmission"]
theorem sc_last_state : FnScope N_last_state ["network", "transmissions"] (defScope s_last_state) := ⟨rfl, rfl, rfl, by decide +kernel, rfl, by decide +kernel, by decide +kernel⟩
abbrev a_is_complete (K : PySem.W.Frag) : Addr := He.ga K "is_complete"
theorem Top.D_is_complete (T : Top K mg) : FunD K "is_complete" "is_complete" (defArgs s_is_complete) (defBody s_is_complete) (defScope s_is_complete) [] [] (a_is_complete K) (fdOf K (a_is_complete K)) := let ⟨_, F⟩ := T.c.def_ 54 (d := d_is_complete) rfl; fd_of F
theorem Top.F_is_complete (T : Top K mg) : Fun K "is_complete" "is_complete" s_is_complete (a_is_complete K) (fdOf K (a_is_complete K)) := He5.fun_of T.D_is_complete
theorem Top.b_is_complete (T : Top K mg) : Binds K (fdOf K (a_is_complete K)) ["network", "transmissions"] [] := T.D_is_complete.bindsN fun _ _ _ _ _ _ us hl => match us, hl with | [_, _], _ => rfl
abbrev N_is_complete : List Str := ["network", "transmissions", "state"]
theorem sc_is_complete : FnScope N_is_complete ["network", "transmissions"] (defScope s_is_complete) := ⟨rfl, rfl, rfl, by decide +kernel, rfl, by decide +kernel, by decide +kernel⟩
abbrev a_law_pool (K : PySem.W.Frag) : Addr := He.ga K "_law_pool"
theorem Top.D_law_pool (T : Top K mg) : FunD K "_law_pool" "_law_pool" (defArgs s_law_pool) (defBody s_law_pool) (defScope s_law_pool) [] [] (a_law_pool K) (fdOf K (a_law_pool K)) := let ⟨_, F⟩ := T.c.def_ 55 (d := d_law_pool) rfl; fd_of F
theorem Top.F_law_pool (T : Top K mg) : Fun K "_law_pool" "_law_pool" s_law_pool (a_law_pool K) (fdOf K (a_law_pool K)) := He5.fun_of T.D_law_pool
theorem Top.b_law_pool (T : Top K mg) : Binds K (fdOf K (a_law_pool K)) ["_law_script"] [] := T.D_law_pool.bindsN fun _ _ _ _ _ _ us hl => match us, hl with | [_], _ => rfl
abbrev N_law_pool : List Str := ["_law_script", "_law_cell"]
theorem sc_law_pool : FnScope N_law_pool ["_law_script"] (defScope s_law_pool) := ⟨rfl, rfl, rfl, by decide +kernel, rfl, by decide +kernel, by decide +kernel⟩
abbrev a_law_take (K : PySem.W.Frag) : Addr := He.ga K "_law_take"
theorem Top.D_law_take (T : Top K mg) : FunD K "_law_take" "_law_take" (defArgs s_law_take) (defBody s_law_take) (defScope s_law_take) [] [] (a_law_take K) (fdOf K (a_law_take K)) := let ⟨_, F⟩ := T.c.def_ 56 (d := d_law_take) rfl; fd_of F
theorem Top.F_law_take (T : Top K mg) : Fun K "_law_take" "_law_take" s_law_take (a_law_take K) (fdOf K (a_law_take K)) := He5.fun_of T.D_law_take
theorem Top.b_law_take (T : Top K mg) : Binds K (fdOf K (a_law_take K)) ["_law_pool_here", "_law_many"] [] := T.D_law_take.bindsN fun _ _ _ _ _ _ us hl => match us, hl with | [_, _], _ => rfl
abbrev N_law_take : List Str := ["_law_pool_here", "_law_many", "_law_digit", "_law_cell", "_law_mixed"]
theorem sc_law_take : FnScope N_law_take ["_law_pool_here", "_law_many"] (defScope s_law_take) := ⟨rfl, rfl, rfl, by decide +kernel, rfl, by decide +kernel, by decide +kernel⟩
abbrev a_law_is_integer (K : PySem.W.Frag) : Addr := He.ga K "_law_is_integer"
theorem Top.D_law_is_integer (T : Top K mg) : FunD K "_law_is_integer" "_law_is_integer" (defArgs s_law_is_integer) (defBody s_law_is_integer) (defScope s_law_is_integer) [] [] (a_law_is_integer K) (fdOf K (a_law_is_integer K)) := let ⟨_, F⟩ := T.c.def_ 57 (d := d_law_is_integer) rfl; fd_of F
theorem Top.F_law_is_integer (T : Top K mg) : Fun K "_law_is_integer" "_law_is_integer" s_law_is_integer (a_law_is_integer K) (fdOf K (a_law_is_integer K)) := He5.fun_of T.D_law_is_integer
theorem Top.b_law_is_integer (T : Top K mg) : Binds K (fdOf K (a_law_is_integer K)) ["_law_actual"] [] := T.D_law_is_integer.bindsN fun _ _ _ _ _ _ us hl => match us, hl with | [_], _ => rfl
abbrev N_law_is_integer : List Str := ["_law_actual"]
theorem sc_law_is_integer : FnScope N_law_is_integer ["_law_actual"] (defScope s_law_is_integer) := ⟨rfl, rfl, rfl, by decide +kernel, rfl, by decide +kernel, by decide +kernel⟩
abbrev a_law_same (K : PySem.W.Frag) : Addr := He.ga K "_law_same"
theorem Top.D_law_same (T : Top K mg) : FunD K "_law_same" "_law_same" (defArgs s_law_same) (defBody s_law_same) (defScope s_law_same) [] [] (a_law_same K) (fdOf K (a_law_same K)) := let ⟨_, F⟩ := T.c.def_ 58 (d := d_law_same) rfl; fd_of F
theorem Top.F_law_same (T : Top K mg) : Fun K "_law_same" "_law_same" s_law_same (a_law_same K) (fdOf K (a_law_same K)) := He5.fun_of T.D_law_same
theorem Top.b_law_same (T : Top K mg) : Binds K (fdOf K (a_law_same K)) ["_law_actual", "_law_due"] [] := T.D_law_same.bindsN fun _ _ _ _ _ _ us hl => match us, hl with | [_, _], _ => rfl
abbrev N_law_same : List Str := ["_law_actual", "_law_due", "_law_k"]
theorem sc_law_same : FnScope N_law_same ["_law_actual", "_law_due"] (defScope s_law_same) := ⟨rfl, rfl, rfl, by decide +kernel, rfl, by decide +kernel, by decide +kernel⟩
abbrev a_law_pick (K : PySem.W.Frag) : Addr := He.ga K "_law_pick"
theorem Top.D_law_pick (T : Top K mg) : FunD K "_law_pick" "_law_pick" (defArgs s_law_pick) (defBody s_law_pick) (defScope s_law_pick) [] [] (a_law_pick K) (fdOf K (a_law_pick K)) := let ⟨_, F⟩ := T.c.def_ 59 (d := d_law_pick) rfl; fd_of F
theorem Top.F_law_pick (T : Top K mg) : Fun K "_law_pick" "_law_pick" s_law_pick (a_law_pick K) (fdOf K (a_law_pick K)) := He5.fun_of T.D_law_pick
theorem Top.b_law_pick (T : Top K mg) : Binds K (fdOf K (a_law_pick K)) ["_law_pool_here", "_law_rows"] [] := T.D_law_pick.bindsN fun _ _ _ _ _ _ us hl => match us, hl with | [_, _], _ => rfl
abbrev N_law_pick : List Str := ["_law_pool_here", "_law_rows"]
theorem sc_law_pick : FnScope N_law_pick ["_law_pool_here", "_law_rows"] (defScope s_law_pick) := ⟨rfl, rfl, rfl, by decide +kernel, rfl, by decide +kernel, by decide +kernel⟩
abbrev a_law_parity (K : PySem.W.Frag) : Addr := He.ga K "_law_parity"
theorem Top.D_law_parity (T : Top K mg) : FunD K "_law_parity" "_law_parity" (defArgs s_law_parity) (defBody s_law_parity) (defScope s_law_parity) [] [] (a_law_parity K) (fdOf K (a_law_parity K)) := let ⟨_, F⟩ := T.c.def_ 60 (d := d_law_parity) rfl; fd_of F
theorem Top.F_law_parity (T : Top K mg) : Fun K "_law_parity" "_law_parity" s_law_parity (a_law_parity K) (fdOf K (a_law_parity K)) := He5.fun_of T.D_law_parity
theorem Top.b_law_parity (T : Top K mg) : Binds K (fdOf K (a_law_parity K)) ["_law_pool_here", "_law_variables"] [] := T.D_law_parity.bindsN fun _ _ _ _ _ _ us hl => match us, hl with | [_, _], _ => rfl
abbrev N_law_parity : List Str := ["_law_pool_here", "_law_variables", "_law_letters", "_law_letter"]
theorem sc_law_parity : FnScope N_law_parity ["_law_pool_here", "_law_variables"] (defScope s_law_parity) := ⟨rfl, rfl, rfl, by decide +kernel, rfl, by decide +kernel, by decide +kernel⟩
abbrev a_law_message (K : PySem.W.Frag) : Addr := He.ga K "_law_message"
theorem Top.D_law_message (T : Top K mg) : FunD K "_law_message" "_law_message" (defArgs s_law_message) (defBody s_law_message) (defScope s_law_message) [] [] (a_law_message K) (fdOf K (a_law_message K)) := let ⟨_, F⟩ := T.c.def_ 61 (d := d_law_message) rfl; fd_of F
theorem Top.F_law_message (T : Top K mg) : Fun K "_law_message" "_law_message" s_law_message (a_law_message K) (fdOf K (a_law_message K)) := He5.fun_of T.D_law_message
theorem Top.b_law_message (T : Top K mg) : Binds K (fdOf K (a_law_message K)) ["_law_pool_here", "_law_variables"] [] := T.D_law_message.bindsN fun _ _ _ _ _ _ us hl => match us, hl with | [_, _], _ => rfl
abbrev N_law_message : List Str := ["_law_pool_here", "_law_variables", "_law_letters", "_law_found"]
theorem sc_law_message : FnScope N_law_message ["_law_pool_here", "_law_variables"] (defScope s_law_message) := ⟨rfl, rfl, rfl, by decide +kernel, rfl, by decide +kernel, by decide +kernel⟩
abbrev a_law_sum (K : PySem.W.Frag) : Addr := He.ga K "_law_sum"
theorem Top.D_law_sum (T : Top K mg) : FunD K "_law_sum" "_law_sum" (defArgs s_law_sum) (defBody s_law_sum) (defScope s_law_sum) [] [] (a_law_sum K) (fdOf K (a_law_sum K)) := let ⟨_, F⟩ := T.c.def_ 62 (d := d_law_sum) rfl; fd_of F
theorem Top.F_law_sum (T : Top K mg) : Fun K "_law_sum" "_law_sum" s_law_sum (a_law_sum K) (fdOf K (a_law_sum K)) := He5.fun_of T.D_law_sum
theorem Top.b_law_sum (T : Top K mg) : Binds K (fdOf K (a_law_sum K)) ["_law_texts"] [] := T.D_law_sum.bindsN fun _ _ _ _ _ _ us hl => match us, hl with | [_], _ => rfl
abbrev N_law_sum : List Str := ["_law_texts", "_law_whole", "_law_letter"]
theorem sc_law_sum : FnScope N_law_sum ["_law_texts"] (defScope s_law_sum) := ⟨rfl, rfl, rfl, by decide +kernel, rfl, by decide +kernel, by decide +kernel⟩
abbrev a_law_derived (K : PySem.W.Frag) : Addr := He.ga K "_law_derived"
theorem Top.D_law_derived (T : Top K mg) : FunD K "_law_derived" "_law_derived" (defArgs s_law_derived) (defBody s_law_derived) (defScope s_law_derived) [] [] (a_law_derived K) (fdOf K (a_law_derived K)) := let ⟨_, F⟩ := T.c.def_ 63 (d := d_law_derived) rfl; fd_of F
theorem Top.F_law_derived (T : Top K mg) : Fun K "_law_derived" "_law_derived" s_law_derived (a_law_derived K) (fdOf K (a_law_derived K)) := He5.fun_of T.D_law_derived
theorem Top.b_law_derived (T : Top K mg) : Binds K (fdOf K (a_law_derived K)) ["_law_messages"] [] := T.D_law_derived.bindsN fun _ _ _ _ _ _ us hl => match us, hl with | [_], _ => rfl
abbrev N_law_derived : List Str := ["_law_messages", "_law_found", "_law_message_here", "_law_one"]
theorem sc_law_derived : FnScope N_law_derived ["_law_messages"] (defScope s_law_derived) := ⟨rfl, rfl, rfl, by decide +kernel, rfl, by decide +kernel, by decide +kernel⟩
abbrev a_law_rank (K : PySem.W.Frag) : Addr := He.ga K "_law_rank"
theorem Top.D_law_rank (T : Top K mg) : FunD K "_law_rank" "_law_rank" (defArgs s_law_rank) (defBody s_law_rank) (defScope s_law_rank) [] [] (a_law_rank K) (fdOf K (a_law_rank K)) := let ⟨_, F⟩ := T.c.def_ 64 (d := d_law_rank) rfl; fd_of F
theorem Top.F_law_rank (T : Top K mg) : Fun K "_law_rank" "_law_rank" s_law_rank (a_law_rank K) (fdOf K (a_law_rank K)) := He5.fun_of T.D_law_rank
theorem Top.b_law_rank (T : Top K mg) : Binds K (fdOf K (a_law_rank K)) ["_law_messages"] [] := T.D_law_rank.bindsN fun _ _ _ _ _ _ us hl => match us, hl with | [_], _ => rfl
abbrev N_law_rank : List Str := ["_law_messages", "_law_many", "_law_found", "_law_turn"]
theorem sc_law_rank : FnScope N_law_rank ["_law_messages"] (defScope s_law_rank) := ⟨rfl, rfl, rfl, by decide +kernel, rfl, by decide +kernel, by decide +kernel⟩
abbrev a_law_some_messages (K : PySem.W.Frag) : Addr := He.ga K "_law_some_messages"
theorem Top.D_law_some_messages (T : Top K mg) : FunD K "_law_some_messages" "_law_some_messages" (defArgs s_law_some_messages) (defBody s_law_some_messages) (defScope s_law_some_messages) [] [] (a_law_some_messages K) (fdOf K (a_law_some_messages K)) := let ⟨_, F⟩ := T.c.def_ 65 (d := d_law_some_messages) rfl; fd_of F
theorem Top.F_law_some_messages (T : Top K mg) : Fun K "_law_some_messages" "_law_some_messages" s_law_some_messages (a_law_some_messages K) (fdOf K (a_law_some_messages K)) := He5.fun_of T.D_law_some_messages
theorem Top.b_law_some_messages (T : Top K mg) : Binds K (fdOf K (a_law_some_messages K)) ["_law_pool_here", "_law_variables", "_law_most"] [] := T.D_law_some_messages.bindsN fun _ _ _ _ _ _ us hl => match us, hl with | [_, _, _], _ => rfl
abbrev N_law_some_messages : List Str := ["_law_pool_here", "_law_variables", "_law_most", "_law_k"]
theorem sc_law_some_messages : FnScope N_law_some_messages ["_law_pool_here", "_law_variables", "_law_most"] (defScope s_law_some_messages) := ⟨rfl, rfl, rfl, by decide +kernel, rfl, by decide +kernel, by decide +kernel⟩
abbrev a_law_drawn (K : PySem.W.Frag) : Addr := He.ga K "_law_drawn"
theorem Top.D_law_drawn (T : Top K mg) : FunD K "_law_drawn" "_law_drawn" (defArgs s_law_drawn) (defBody s_law_drawn) (defScope s_law_drawn) [] [] (a_law_drawn K) (fdOf K (a_law_drawn K)) := let ⟨_, F⟩ := T.c.def_ 66 (d := d_law_drawn) rfl; fd_of F
theorem Top.F_law_drawn (T : Top K mg) : Fun K "_law_drawn" "_law_drawn" s_law_drawn (a_law_drawn K) (fdOf K (a_law_drawn K)) := He5.fun_of T.D_law_drawn
theorem Top.b_law_drawn (T : Top K mg) : Binds K (fdOf K (a_law_drawn K)) ["_law_pool_here", "_law_nodes", "_law_links"] [] := T.D_law_drawn.bindsN fun _ _ _ _ _ _ us hl => match us, hl with | [_, _, _], _ => rfl
abbrev N_law_drawn : List Str := ["_law_pool_here", "_law_nodes", "_law_links", "_law_variables", "_law_k", "_law_rows", "_law_letters", "_law_found", "_law_sender", "_law_receiver"]
theorem sc_law_drawn : FnScope N_law_drawn ["_law_pool_here", "_law_nodes", "_law_links"] (defScope s_law_drawn) := ⟨rfl, rfl, rfl, by decide +kernel, rfl, by decide +kernel, by decide +kernel⟩
abbrev a_law_filled (K : PySem.W.Frag) : Addr := He.ga K "_law_filled"
theorem Top.D_law_filled (T : Top K mg) : FunD K "_law_filled" "_law_filled" (defArgs s_law_filled) (defBody s_law_filled) (defScope s_law_filled) [] [] (a_law_filled K) (fdOf K (a_law_filled K)) := let ⟨_, F⟩ := T.c.def_ 67 (d := d_law_filled) rfl; fd_of F
theorem Top.F_law_filled (T : Top K mg) : Fun K "_law_filled" "_law_filled" s_law_filled (a_law_filled K) (fdOf K (a_law_filled K)) := He5.fun_of T.D_law_filled
theorem Top.b_law_filled (T : Top K mg) : Binds K (fdOf K (a_law_filled K)) ["_law_pool_here", "_law_nodes", "_law_links"] [] := T.D_law_filled.bindsN fun _ _ _ _ _ _ us hl => match us, hl with | [_, _, _], _ => rfl
abbrev N_law_filled : List Str := ["_law_pool_here", "_law_nodes", "_law_links", "_law_network_here", "_law_turn", "_law_lacking", "_law_letters", "_law_others", "_law_letter"]
theorem sc_law_filled : FnScope N_law_filled ["_law_pool_here", "_law_nodes", "_law_links"] (defScope s_law_filled) := ⟨rfl, rfl, rfl, by decide +kernel, rfl, by decide +kernel, by decide +kernel⟩
abbrev a_law_network (K : PySem.W.Frag) : Addr := He.ga K "_law_network"
theorem Top.D_law_network (T : Top K mg) : FunD K "_law_network" "_law_network" (defArgs s_law_network) (defBody s_law_network) (defScope s_law_network) [] [] (a_law_network K) (fdOf K (a_law_network K)) := let ⟨_, F⟩ := T.c.def_ 68 (d := d_law_network) rfl; fd_of F
theorem Top.F_law_network (T : Top K mg) : Fun K "_law_network" "_law_network" s_law_network (a_law_network K) (fdOf K (a_law_network K)) := He5.fun_of T.D_law_network
theorem Top.b_law_network (T : Top K mg) : Binds K (fdOf K (a_law_network K)) ["_law_pool_here", "_law_nodes", "_law_links"] [] := T.D_law_network.bindsN fun _ _ _ _ _ _ us hl => match us, hl with | [_, _, _], _ => rfl
abbrev N_law_network : List Str := ["_law_pool_here", "_law_nodes", "_law_links", "_law_kind", "_law_network_here", "_law_at", "_law_link"]
theorem sc_law_network : FnScope N_law_network ["_law_pool_here", "_law_nodes", "_law_links"] (defScope s_law_network) := ⟨rfl, rfl, rfl, by decide +kernel, rfl, by decide +kernel, by decide +kernel⟩
abbrev a_law_sets (K : PySem.W.Frag) : Addr := He.ga K "_law_sets"
theorem Top.D_law_sets (T : Top K mg) : FunD K "_law_sets" "_law_sets" (defArgs s_law_sets) (defBody s_law_sets) (defScope s_law_sets) [] [] (a_law_sets K) (fdOf K (a_law_sets K)) := let ⟨_, F⟩ := T.c.def_ 69 (d := d_law_sets) rfl; fd_of F
theorem Top.F_law_sets (T : Top K mg) : Fun K "_law_sets" "_law_sets" s_law_sets (a_law_sets K) (fdOf K (a_law_sets K)) := He5.fun_of T.D_law_sets
theorem Top.b_law_sets (T : Top K mg) : Binds K (fdOf K (a_law_sets K)) ["_law_many"] [] := T.D_law_sets.bindsN fun _ _ _ _ _ _ us hl => match us, hl with | [_], _ => rfl
abbrev N_law_sets : List Str := ["_law_many", "_law_found", "_law_letter", "_law_pair", "_law_one"]
theorem sc_law_sets : FnScope N_law_sets ["_law_many"] (defScope s_law_sets) := ⟨rfl, rfl, rfl, by decide +kernel, rfl, by decide +kernel, by decide +kernel⟩
abbrev a_law_messages_of (K : PySem.W.Frag) : Addr := He.ga K "_law_messages_of"
theorem Top.D_law_messages_of (T : Top K mg) : FunD K "_law_messages_of" "_law_messages_of" (defArgs s_law_messages_of) (defBody s_law_messages_of) (defScope s_law_messages_of) [] [] (a_law_messages_of K) (fdOf K (a_law_messages_of K)) := let ⟨_, F⟩ := T.c.def_ 70 (d := d_law_messages_of) rfl; fd_of F
theorem Top.F_law_messages_of (T : Top K mg) : Fun K "_law_messages_of" "_law_messages_of" s_law_messages_of (a_law_messages_of K) (fdOf K (a_law_messages_of K)) := He5.fun_of T.D_law_messages_of
theorem Top.b_law_messages_of (T : Top K mg) : Binds K (fdOf K (a_law_messages_of K)) ["_law_network_here", "_law_letters"] [] := T.D_law_messages_of.bindsN fun _ _ _ _ _ _ us hl => match us, hl with | [_, _], _ => rfl
abbrev N_law_messages_of : List Str := ["_law_network_here", "_law_letters", "_law_found", "_law_k"]
theorem sc_law_messages_of : FnScope N_law_messages_of ["_law_network_here", "_law_letters"] (defScope s_law_messages_of) := ⟨rfl, rfl, rfl, by decide +kernel, rfl, by decide +kernel, by decide +kernel⟩
abbrev a_law_demand (K : PySem.W.Frag) : Addr := He.ga K "_law_demand"
theorem Top.D_law_demand (T : Top K mg) : FunD K "_law_demand" "_law_demand" (defArgs s_law_demand) (defBody s_law_demand) (defScope s_law_demand) [] [] (a_law_demand K) (fdOf K (a_law_demand K)) := let ⟨_, F⟩ := T.c.def_ 71 (d := d_law_demand) rfl; fd_of F
theorem Top.F_law_demand (T : Top K mg) : Fun K "_law_demand" "_law_demand" s_law_demand (a_law_demand K) (fdOf K (a_law_demand K)) := He5.fun_of T.D_law_demand
theorem Top.b_law_demand (T : Top K mg) : Binds K (fdOf K (a_law_demand K)) ["_law_network_here", "_law_letters"] [] := T.D_law_demand.bindsN fun _ _ _ _ _ _ us hl => match us, hl with | [_, _], _ => rfl
abbrev N_law_demand : List Str := ["_law_network_here", "_law_letters"]
theorem sc_law_demand : FnScope N_law_demand ["_law_network_here", "_law_letters"] (defScope s_law_demand) := ⟨rfl, rfl, rfl, by decide +kernel, rfl, by decide +kernel, by decide +kernel⟩
abbrev a_law_entering (K : PySem.W.Frag) : Addr := He.ga K "_law_entering"
theorem Top.D_law_entering (T : Top K mg) : FunD K "_law_entering" "_law_entering" (defArgs s_law_entering) (defBody s_law_entering) (defScope s_law_entering) [] [] (a_law_entering K) (fdOf K (a_law_entering K)) := let ⟨_, F⟩ := T.c.def_ 72 (d := d_law_entering) rfl; fd_of F
theorem Top.F_law_entering (T : Top K mg) : Fun K "_law_entering" "_law_entering" s_law_entering (a_law_entering K) (fdOf K (a_law_entering K)) := He5.fun_of T.D_law_entering
theorem Top.b_law_entering (T : Top K mg) : Binds K (fdOf K (a_law_entering K)) ["_law_network_here", "_law_letters"] [] := T.D_law_entering.bindsN fun _ _ _ _ _ _ us hl => match us, hl with | [_, _], _ => rfl
abbrev N_law_entering : List Str := ["_law_network_here", "_law_letters", "_law_k"]
theorem sc_law_entering : FnScope N_law_entering ["_law_network_here", "_law_letters"] (defScope s_law_entering) := ⟨rfl, rfl, rfl, by decide +kernel, rfl, by decide +kernel, by decide +kernel⟩
abbrev a_law_deficient (K : PySem.W.Frag) : Addr := He.ga K "_law_deficient"
theorem Top.D_law_deficient (T : Top K mg) : FunD K "_law_deficient" "_law_deficient" (defArgs s_law_deficient) (defBody s_law_deficient) (defScope s_law_deficient) [] [] (a_law_deficient K) (fdOf K (a_law_deficient K)) := let ⟨_, F⟩ := T.c.def_ 73 (d := d_law_deficient) rfl; fd_of F
theorem Top.F_law_deficient (T : Top K mg) : Fun K "_law_deficient" "_law_deficient" s_law_deficient (a_law_deficient K) (fdOf K (a_law_deficient K)) := He5.fun_of T.D_law_deficient
theorem Top.b_law_deficient (T : Top K mg) : Binds K (fdOf K (a_law_deficient K)) ["_law_network_here"] [] := T.D_law_deficient.bindsN fun _ _ _ _ _ _ us hl => match us, hl with | [_], _ => rfl
abbrev N_law_deficient : List Str := ["_law_network_here", "_law_letters"]
theorem sc_law_deficient : FnScope N_law_deficient ["_law_network_here"] (defScope s_law_deficient) := ⟨rfl, rfl, rfl, by decide +kernel, rfl, by decide +kernel, by decide +kernel⟩
abbrev a_law_only (K : PySem.W.Frag) : Addr := He.ga K "_law_only"
theorem Top.D_law_only (T : Top K mg) : FunD K "_law_only" "_law_only" (defArgs s_law_only) (defBody s_law_only) (defScope s_law_only) [] [] (a_law_only K) (fdOf K (a_law_only K)) := let ⟨_, F⟩ := T.c.def_ 74 (d := d_law_only) rfl; fd_of F
theorem Top.F_law_only (T : Top K mg) : Fun K "_law_only" "_law_only" s_law_only (a_law_only K) (fdOf K (a_law_only K)) := He5.fun_of T.D_law_only
theorem Top.b_law_only (T : Top K mg) : Binds K (fdOf K (a_law_only K)) ["_law_network_here", "_law_links"] [] := T.D_law_only.bindsN fun _ _ _ _ _ _ us hl => match us, hl with | [_, _], _ => rfl
abbrev N_law_only : List Str := ["_law_network_here", "_law_links", "_law_link"]
theorem sc_law_only : FnScope N_law_only ["_law_network_here", "_law_links"] (defScope s_law_only) := ⟨rfl, rfl, rfl, by decide +kernel, rfl, by decide +kernel, by decide +kernel⟩
abbrev a_law_is_least (K : PySem.W.Frag) : Addr := He.ga K "_law_is_least"
theorem Top.D_law_is_least (T : Top K mg) : FunD K "_law_is_least" "_law_is_least" (defArgs s_law_is_least) (defBody s_law_is_least) (defScope s_law_is_least) [] [] (a_law_is_least K) (fdOf K (a_law_is_least K)) := let ⟨_, F⟩ := T.c.def_ 75 (d := d_law_is_least) rfl; fd_of F
theorem Top.F_law_is_least (T : Top K mg) : Fun K "_law_is_least" "_law_is_least" s_law_is_least (a_law_is_least K) (fdOf K (a_law_is_least K)) := He5.fun_of T.D_law_is_least
theorem Top.b_law_is_least (T : Top K mg) : Binds K (fdOf K (a_law_is_least K)) ["_law_network_here", "_law_links"] [] := T.D_law_is_least.bindsN fun _ _ _ _ _ _ us hl => match us, hl with | [_, _], _ => rfl
abbrev N_law_is_least : List Str := ["_law_network_here", "_law_links", "_law_schedule", "_law_row", "_law_link", "_law_one"]
theorem sc_law_is_least : FnScope N_law_is_least ["_law_network_here", "_law_links"] (defScope s_law_is_least) := ⟨rfl, rfl, rfl, by decide +kernel, rfl, by decide +kernel, by decide +kernel⟩
abbrev a_law (K : PySem.W.Frag) : Addr := He.ga K "law"
theorem Top.D_law (T : Top K mg) : FunD K "law" "law" (defArgs s_law) (defBody s_law) (defScope s_law) [] [] (a_law K) (fdOf K (a_law K)) := let ⟨_, F⟩ := T.c.def_ 76 (d := d_law) rfl; fd_of F
theorem Top.F_law (T : Top K mg) : Fun K "law" "law" s_law (a_law K) (fdOf K (a_law K)) := He5.fun_of T.D_law
theorem Top.b_law (T : Top K mg) : Binds K (fdOf K (a_law K)) ["_law_script"] [] := T.D_law.bindsN fun _ _ _ _ _ _ us hl => match us, hl with | [_], _ => rfl
abbrev N_law : List Str := ["_law_script", "_law_pool_here", "_law_network_here", "_law_made", "_law_link", "_law_costs", "_law_kept", "_law_told", "_law_links", "_law_helping", "_law_dearer", "_law_more", "_law_weights", "_law_letter", "_law_cost"]
theorem sc_law : FnScope N_law ["_law_script"] (defScope s_law) := ⟨rfl, rfl, rfl, by decide +kernel, rfl, by decide +kernel, by decide +kernel⟩
/-- a def's promise -/
abbrev FnC (P : Program) (w : World) (K : PySem.W.Frag) (mg : Str → Option Value) (base : Heap) (k : Nat) (f : Addr) (ps : List Str) (φ : Phi) : Prop := FnOk P w K mg base CX0 k f (fdOf K f) ps (toSp φ)
theorem okD {P : Program} {w : World} {base : Heap} {x qual : Str} {st : Stmt} {f : Addr} {fd : FuncData} {N ps : List Str} {k : Nat} {φ : Phi} (F : Fun K x qual st f fd) (S : FnScope N ps (defScope st)) (len : ∀ S ds Q, φ S ds Q → ds.length = ps.length)
    (hb : ∀ (cdv : Value) (A : Around) (outer : List PySem.Env) (s : Shared) (H : Hp) (E : XK), Room k (A.deeper (envOfC qual (defScope st) s.heap.objs.size f cdv)) →
      ∃ t, PSs (cxOf CX0 P w K mg base N qual (defScope st) f cdv A outer s H E).nox (defBody st) t ∧ ∀ S ds Q, φ S ds Q → Sx S (startD N.length ds) t { nx := fun S' _ => Q S' .non, rt := Q }) : FnOk P w K mg base CX0 (k + 1) f fd ps (toSp φ) :=
  F.ok S (sp_len len) fun cdv A outer s H vs Q E hr h => by
    obtain ⟨t, ht, hs⟩ := hb cdv A outer s H E hr
    exact ⟨t, ht, fn_run (N := N) h hs⟩
end AK
set_option Elab.async false
set_option linter.all false
set_option maxRecDepth 100000
set_option maxHeartbeats 4000000
/-! Each def's body: its reading, and the derivation. -/
namespace AK
open PySem PySem.Spec PyProof.Rows L2
variable {P : Program} {w : World} {K : PySem.W.Frag} {mg : Str → Option Value} {base : Heap}
def iSeq (K : PySem.W.Frag) (te : TE) : TI := fun σ H R => iList K te σ H R ∨ iTup K te σ H R
theorem pi_seq {X : Cx} {tg l : Expr} {tl : TE} (hl : PE X l tl) : PI X tg l (iSeq X.K tl) :=
  ⟨fun pins s σ H R I h => h.elim (fun h => (pi_list hl).run pins s σ H R I h) (fun h => (pi_tup hl).run pins s σ H R I h)⟩
def iEnumS (K : PySem.W.Frag) (ta : TA) : TI := fun σ H R => iEnum K ta σ H R ∨ iEnumT K ta σ H R
theorem pi_enumS {X : Cx} {tg l : Expr} {ta : TA} (h1 : PI X tg l (iEnum X.K ta)) (h2 : PI X tg l (iEnumT X.K ta)) : PI X tg l (iEnumS X.K ta) :=
  ⟨fun pins s σ H R I h => h.elim (fun h => h1.run pins s σ H R I h) (fun h => h2.run pins s σ H R I h)⟩
theorem hu64_of {A : Around} {k : Nat} (hr : Room k A) : A.units + 64 < cLine := by
  have := hr.un
  omega
theorem hu65_of {A : Around} {k : Nat} (hr : Room k A) : A.units + 65 < cLine := by
  have := hr.un
  omega
abbrev spanD (K : PySem.W.Frag) : Addr := He.dflAt ("Span", some "__init__") 0 K
theorem Top.b_Span_init (T : Top K mg) : ∃ ds, Vals [V.ref (spanD K)] ds ∧ Binds K (fdOf K (a_Span_init K)) ["self", "masks"] ds :=
  T.D_Span_init.binds1 (ps := ["self", "masks"]) 1 0 (by simp) rfl fun _ _ _ _ _ _ _ us its hu hi => match us, its, hu, hi with | [_], [_], _, _ => ⟨_, rfl, rfl⟩
theorem Top.readsNet (T : Top K mg) : ClX.CRead K (He.ga K "Network") (.type "type") := by
  have h := T.e
  unfold exA at h
  simp only [Bool.and_eq_true] at h
  have hrd := h.2.2.1
  refine ⟨hrd, ?_⟩
  unfold PySem.W.readsIn at hrd
  simp only [Bool.and_eq_true, beq_iff_eq] at hrd
  unfold PySem.W.specialIn
  rw [hrd.1.1.1.2, Option.bind_some]
  exact hrd.1.1.2
theorem Top.cmetNet (T : Top K mg) : ClX.CMet K (He.ga K "Network") (.type "type") "made" (He.ma K (He.ga K "Network") "made") (He5.wf K (He.ga K "Network") "classmethod" "made") := by
  have h := T.e
  unfold exA at h
  simp only [Bool.and_eq_true] at h
  exact He5.cmet_of h.1 h.2.1
theorem rawNet {φ : Phi} {k : Nat} (F : FnC P w K mg base k (a_Network_made K) ["cls", "variables", "nodes", "links"] φ) (b : Binds K (fdOf K (a_Network_made K)) ["cls", "variables", "nodes", "links"] []) : FnR P w K mg base CX0 k (a_Network_made K) (toSp φ) := by
  have z := FnOk.raw F b .nil
  have e : (fun vs H Q E => toSp φ (vs ++ []) H Q E) = toSp φ := by
    funext vs H Q E
    rw [List.append_nil]
  rw [e] at z
  exact z
theorem okDD {x qual : Str} {params : Arguments} {body : List Stmt} {scope : Scope} {dvs : List V} {kws : List (Str × V)} {f : Addr} {fd : FuncData} {N ps : List Str} {k : Nat} {φ : Phi} (F : FunD K x qual params body scope dvs kws f fd) (S : FnScope N ps scope) (len : ∀ S ds Q, φ S ds Q → ds.length = ps.length)
    (hb : ∀ (cdv : Value) (A : Around) (outer : List PySem.Env) (s : Shared) (H : Hp) (E : XK), Room k (A.deeper (envOfC qual scope s.heap.objs.size f cdv)) →
      ∃ t, PSs (cxOf CX0 P w K mg base N qual scope f cdv A outer s H E).nox body t ∧ ∀ S ds Q, φ S ds Q → Sx S (startD N.length ds) t { nx := fun S' _ => Q S' .non, rt := Q }) : FnOk P w K mg base CX0 (k + 1) f fd ps (toSp φ) :=
  F.ok S (sp_len len) fun cdv A outer s H vs Q E hr h => by
    obtain ⟨t, ht, hs⟩ := hb cdv A outer s H E hr
    exact ⟨t, ht.nox, fn_run (N := N) h hs⟩
def t_is_ascending (K : PySem.W.Frag) : TS :=
  (tSeq (tAsg (tLc (iStr (tVar 0)) (gName 3) tYes (tBM K "str" rFind (tVar 1) (tCons (tVar 3) tNil)) [3]) (gName 2)) (tRet (tAndV (tCB (rAll K) (tCons (tLc (iList K (tVar 2)) (gName 4) tYes (tOp (rI0 fun i j => .bl (decide (j ≤ i))) (tVar 4) (tC (.int 0))) [4]) tNil)) (tCB (rAll K) (tCons (tLc (iZip K (tCons (tVar 2) (tCons (tSl (rSlL K) (tVar 2) (tPart (tC (.int 1))) tNoPart) tNil))) (gTup K 2 (gCons (gName 5) (gCons (gName 6) gNil))) tYes (tOp (rI0 fun i j => .bl (decide (i < j))) (tVar 5) (tVar 6)) [5, 6]) tNil)))))
theorem mk_is_ascending (T : Top K mg) {φ : Phi} 
    (len : ∀ S ds Q, φ S ds Q → ds.length = 2) (h : ∀ S ds Q, φ S ds Q → Sx S (startD N_is_ascending.length ds) (t_is_ascending K) { nx := fun S' _ => Q S' .non, rt := Q }) : FnC P w K mg base (1) (a_is_ascending K) ["text", "letters"] φ := by
  exact okD T.F_is_ascending sc_is_ascending len fun cdv A outer s H E hr => ⟨t_is_ascending K, (pss_cons (ps_setLc (i := 2) (own := [("letter", 3)]) (g := (gName 3)) (tt := tYes) (by rfl) sc_is_ascending.nd rfl rfl (sw_true rfl rfl rfl (by decide +kernel)) (pi_str (pv 0)) (blkOk_by (own := [("letter", 3)]) (N := N_is_ascending) (sc := defScope s_is_ascending) (by decide +kernel)) (fun _ _ _ _ _ => (pg_name (i := 3) sc_is_ascending.nd rfl (Or.inl rfl))) (fun _ _ _ _ _ => pts_nil) (fun _ _ _ _ _ => (pe_bm PySem.F.plainAttrs_str PySem.F.slot_str_find PySem.F.type_str_find oFind (pv 1) (pa_cons (pv 3) pa_nil)))) (pss_one (ps_ret (pe_and (pe_callB (cr_all (by rfl)) rfl T.f_all (by decide +kernel) (pa_cons (pe_lc (own := [("place", 4)]) (g := (gName 4)) (tt := tYes) (by rfl) sc_is_ascending.nd (pi_list (pv 2)) (blkOk_by (own := [("place", 4)]) (N := N_is_ascending) (sc := defScope s_is_ascending) (by decide +kernel)) (fun _ _ _ _ _ => (pg_name (i := 4) sc_is_ascending.nd rfl (Or.inl rfl))) (fun _ _ _ _ _ => pts_nil) (fun _ _ _ _ _ => (pe_cmpR op_ge (pv 4) pe_int (nomark _)))) pa_nil)) (pe_one (pe_callB (cr_all (by rfl)) rfl T.f_all (by decide +kernel) (pa_cons (pe_lc (own := [("one", 5), ("two", 6)]) (g := (gTup K 2 (gCons (gName 5) (gCons (gName 6) gNil)))) (tt := tYes) (by rfl) sc_is_ascending.nd (pi_zip rfl T.f_zip (pa_cons (pv 2) (pa_cons (pe_slice sl_list (pv 2) (po_some pe_int) po_none) pa_nil))) (blkOk_by (own := [("one", 5), ("two", 6)]) (N := N_is_ascending) (sc := defScope s_is_ascending) (by decide +kernel)) (fun _ _ _ _ _ => (pg_tup (by rfl) (pgs_cons (pg_name (i := 5) sc_is_ascending.nd rfl (Or.inl rfl)) (pgs_cons (pg_name (i := 6) sc_is_ascending.nd rfl (Or.inl rfl)) pgs_nil)))) (fun _ _ _ _ _ => pts_nil) (fun _ _ _ _ _ => (pe_cmpR op_lt (pv 5) (pv 6) (nomark _)))) pa_nil))))))), h⟩
def t_is_message (K : PySem.W.Frag) (p_is_ascending : Phi) : TS :=
  (tRet (tAndV (tOp rNe (tVar 1) (tC (.str ""))) (tCall (toSp p_is_ascending) [] E0 (tCons (tVar 1) (tCons (tSl rSlS (tC (.str "abcdef")) tNoPart (tPart (tVar 0))) tNil)))))
theorem mk_is_message (T : Top K mg) {φ p_is_ascending : Phi} (H_is_ascending : FnC P w K mg base 1 (a_is_ascending K) ["text", "letters"] p_is_ascending)
    (len : ∀ S ds Q, φ S ds Q → ds.length = 2) (h : ∀ S ds Q, φ S ds Q → Sx S (startD N_is_message.length ds) (t_is_message K p_is_ascending) { nx := fun S' _ => Q S' .non, rt := Q }) : FnC P w K mg base (2) (a_is_message K) ["variables", "text"] φ := by
  exact okD T.F_is_message sc_is_message len fun cdv A outer s H E hr => ⟨t_is_message K p_is_ascending, (pss_one (ps_ret (pe_and (pe_cmpR op_ne (pv 1) pe_str (nomark _)) (pe_one (pe_call H_is_ascending (hr.mono (by decide)) rfl T.g_is_ascending T.F_is_ascending.kp T.b_is_ascending .nil pass0 (pa_cons (pv 1) (pa_cons (pe_slice sl_str (pe_glob rfl T.s_VARIABLE_LETTERS.choose_spec ⟨_, rfl⟩) po_none (po_some (pv 0))) pa_nil))))))), h⟩
def t_is_link (K : PySem.W.Frag) : TS :=
  (tSeq (tAsg (tSl rSlS (tC (.str "ABCDEF")) tNoPart (tPart (tVar 0))) (gName 2)) (tRet (tAndV (tOp rEq (tCB (rLenD K) (tCons (tVar 1) tNil)) (tC (.int 2))) (tAndV (tOp rInSign (tOp rIxS (tVar 1) (tC (.int 0))) (tVar 2)) (tAndV (tOp rInSign (tOp rIxS (tVar 1) (tC (.int 1))) (tVar 2)) (tOp rNe (tOp rIxS (tVar 1) (tC (.int 0))) (tOp rIxS (tVar 1) (tC (.int 1)))))))))
theorem mk_is_link (T : Top K mg) {φ : Phi} 
    (len : ∀ S ds Q, φ S ds Q → ds.length = 2) (h : ∀ S ds Q, φ S ds Q → Sx S (startD N_is_link.length ds) (t_is_link K) { nx := fun S' _ => Q S' .non, rt := Q }) : FnC P w K mg base (1) (a_is_link K) ["nodes", "text"] φ := by
  exact okD T.F_is_link sc_is_link len fun cdv A outer s H E hr => ⟨t_is_link K, (pss_cons (ps_set (i := 2) sc_is_link.nd rfl (Or.inl rfl) (pe_slice sl_str (pe_glob rfl T.s_NODE_LETTERS.choose_spec ⟨_, rfl⟩) po_none (po_some (pv 0)))) (pss_one (ps_ret (pe_and (pe_cmpR op_eq (pe_callB oLen rfl T.f_len (by decide +kernel) (pa_cons (pv 1) pa_nil)) pe_int (nomark _)) (pe_and (pe_cmpR oInSign (pe_ix ix_str (pv 1) pe_int (fun _ _ => rfl)) (pv 2) rfl) (pe_and (pe_cmpR oInSign (pe_ix ix_str (pv 1) pe_int (fun _ _ => rfl)) (pv 2) rfl) (pe_one (pe_cmpR op_ne (pe_ix ix_str (pv 1) pe_int (fun _ _ => rfl)) (pe_ix ix_str (pv 1) pe_int (fun _ _ => rfl)) (nomark _))))))))), h⟩
def t_check_nodes (K : PySem.W.Frag) (p_is_message : Phi) : TS :=
  (tSeq (tIfS (tNot (tTest (tChain (rI0 fun i j => .bl (decide (i ≤ j))) (rI0 fun i j => .bl (decide (i ≤ j))) (tC (.int 1)) (tCB (rLenD K) (tCons (tVar 1) tNil)) (tCB (rLenD K) (tCons (tC (.str "ABCDEF")) tNil))))) tNever tNext) (tFor (iEnum K (tCons (tVar 1) tNil)) (gTup K 2 (gCons (gName 2) (gCons (gName 3) gNil))) (tSeq (tIfS (tTest (tOp (rI0 fun i j => .bl (decide (j < i))) (tCB (rLenD K) (tCons (tVar 3) tNil)) (tC (.int 4)))) tNever tNext) (tIfS (tNot (tB (tCB (rAll K) (tCons (tLc (iSeq K (tVar 3)) (gName 4) tYes (tCall (toSp p_is_message) [] E0 (tCons (tVar 0) (tCons (tVar 4) tNil))) [4]) tNil)))) tNever tNext))))
theorem mk_check_nodes (T : Top K mg) {φ p_is_message : Phi} (H_is_message : FnC P w K mg base 2 (a_is_message K) ["variables", "text"] p_is_message)
    (len : ∀ S ds Q, φ S ds Q → ds.length = 2) (h : ∀ S ds Q, φ S ds Q → Sx S (startD N_check_nodes.length ds) (t_check_nodes K p_is_message) { nx := fun S' _ => Q S' .non, rt := Q }) : FnC P w K mg base (3) (a_check_nodes K) ["variables", "nodes"] φ := by
  exact okD T.F_check_nodes sc_check_nodes len fun cdv A outer s H E hr => ⟨t_check_nodes K p_is_message, (pss_cons (ps_if (pt_not (pt_chain op_le op_le pe_int (pe_callB oLen rfl T.f_len (by decide +kernel) (pa_cons (pv 1) pa_nil)) (pe_callB oLen rfl T.f_len (by decide +kernel) (pa_cons (pe_glob rfl T.s_NODE_LETTERS.choose_spec ⟨_, rfl⟩) pa_nil)))) (pss_one ps_never) pss_nil) (pss_one (ps_for PassesOwn.never rfl (pi_enum rfl T.f_enumerate (pa_cons (pv 1) pa_nil)) (pg_tup (by rfl) (pgs_cons (pg_name (i := 2) sc_check_nodes.nd rfl (Or.inl rfl)) (pgs_cons (pg_name (i := 3) sc_check_nodes.nd rfl (Or.inl rfl)) pgs_nil))) (pss_cons (ps_if (pt_cmpR op_gt (pe_callB oLen rfl T.f_len (by decide +kernel) (pa_cons (pv 3) pa_nil)) (pe_glob rfl T.i_MOST_MESSAGES.choose_spec ⟨_, rfl⟩) (nomark _)) (pss_one ps_never) pss_nil) (pss_one (ps_if (pt_not (pt_val (pe_callB (cr_all (by rfl)) rfl T.f_all (by decide +kernel) (pa_cons (pe_lc (own := [("message", 4)]) (g := (gName 4)) (tt := tYes) (by rfl) sc_check_nodes.nd (pi_seq (pv 3)) (blkOk_by (own := [("message", 4)]) (N := N_check_nodes) (sc := defScope s_check_nodes) (by decide +kernel)) (fun _ _ _ _ _ => (pg_name (i := 4) sc_check_nodes.nd rfl (Or.inl rfl))) (fun _ _ _ _ _ => pts_nil) (fun _ _ _ _ _ => (pe_call H_is_message (hr.mono (by decide)) rfl T.g_is_message T.F_is_message.kp T.b_is_message .nil pass0 (pa_cons (pv 0) (pa_cons (pv 4) pa_nil))))) pa_nil)))) (pss_one ps_never) pss_nil)))))), h⟩
def t_check_links (K : PySem.W.Frag) (p_is_link : Phi) : TS :=
  (tSeq (tIfS (tTest (tOp (rI0 fun i j => .bl (decide (j < i))) (tCB (rLenD K) (tCons (tVar 1) tNil)) (tC (.int 16)))) tNever tNext) (tFor (iEnumS K (tCons (tVar 1) tNil)) (gTup K 2 (gCons (gName 2) (gCons (gName 3) gNil))) (tIfS (tNot (tB (tCall (toSp p_is_link) [] E0 (tCons (tVar 0) (tCons (tVar 3) tNil))))) tNever tNext)))
theorem mk_check_links (T : Top K mg) {φ p_is_link : Phi} (H_is_link : FnC P w K mg base 1 (a_is_link K) ["nodes", "text"] p_is_link)
    (len : ∀ S ds Q, φ S ds Q → ds.length = 2) (h : ∀ S ds Q, φ S ds Q → Sx S (startD N_check_links.length ds) (t_check_links K p_is_link) { nx := fun S' _ => Q S' .non, rt := Q }) : FnC P w K mg base (2) (a_check_links K) ["nodes", "links"] φ := by
  exact okD T.F_check_links sc_check_links len fun cdv A outer s H E hr => ⟨t_check_links K p_is_link, (pss_cons (ps_if (pt_cmpR op_gt (pe_callB oLen rfl T.f_len (by decide +kernel) (pa_cons (pv 1) pa_nil)) (pe_glob rfl T.i_MOST_LINKS.choose_spec ⟨_, rfl⟩) (nomark _)) (pss_one ps_never) pss_nil) (pss_one (ps_for PassesOwn.never rfl (pi_enumS (pi_enum rfl T.f_enumerate (pa_cons (pv 1) pa_nil)) (pi_enumT rfl T.f_enumerate (pa_cons (pv 1) pa_nil))) (pg_tup (by rfl) (pgs_cons (pg_name (i := 2) sc_check_links.nd rfl (Or.inl rfl)) (pgs_cons (pg_name (i := 3) sc_check_links.nd rfl (Or.inl rfl)) pgs_nil))) (pss_one (ps_if (pt_not (pt_val (pe_call H_is_link (hr.mono (by decide)) rfl T.g_is_link T.F_is_link.kp T.b_is_link .nil pass0 (pa_cons (pv 0) (pa_cons (pv 3) pa_nil))))) (pss_one ps_never) pss_nil))))), h⟩
def t_Network_init (K : PySem.W.Frag) (p_check_nodes p_check_links : Phi) : TS :=
  (tSeq (tIfS (tNot (tTest (tChain (rI0 fun i j => .bl (decide (i ≤ j))) (rI0 fun i j => .bl (decide (i ≤ j))) (tC (.int 0)) (tVar 1) (tCB (rLenD K) (tCons (tC (.str "abcdef")) tNil))))) tNever tNext) (tSeq (tDrop (tCall (toSp p_check_nodes) [] E0 (tCons (tVar 1) (tCons (tVar 2) tNil)))) (tSeq (tDrop (tCall (toSp p_check_links) [] E0 (tCons (tCB (rLenD K) (tCons (tVar 2) tNil)) (tCons (tVar 3) tNil)))) (tSeq (sFld K (tVar 0) (tVar 1) "variables") (tSeq (sFld K (tVar 0) (tCB (rTupOf K) (tCons (tLc (iList K (tVar 2)) (gName 4) tYes (tCB (rTupOf K) (tCons (tVar 4) tNil)) [4]) tNil)) "nodes") (sFld K (tVar 0) (tCB (rTupOf K) (tCons (tVar 3) tNil)) "links"))))))
theorem mk_Network_init (T : Top K mg) {φ p_check_nodes p_check_links : Phi} (H_check_nodes : FnC P w K mg base 3 (a_check_nodes K) ["variables", "nodes"] p_check_nodes) (H_check_links : FnC P w K mg base 2 (a_check_links K) ["nodes", "links"] p_check_links)
    (len : ∀ S ds Q, φ S ds Q → ds.length = 4) (h : ∀ S ds Q, φ S ds Q → Sx S (startD N_Network_init.length ds) (t_Network_init K p_check_nodes p_check_links) { nx := fun S' _ => Q S' .non, rt := Q }) : FnC P w K mg base (4) (a_Network_init K) ["self", "variables", "nodes", "links"] φ := by
  exact okD T.F_Network_init sc_Network_init len fun cdv A outer s H E hr => ⟨t_Network_init K p_check_nodes p_check_links, (pss_cons (ps_if (pt_not (pt_chain op_le op_le pe_int (pv 1) (pe_callB oLen rfl T.f_len (by decide +kernel) (pa_cons (pe_glob rfl T.s_VARIABLE_LETTERS.choose_spec ⟨_, rfl⟩) pa_nil)))) (pss_one ps_never) pss_nil) (pss_cons (ps_expr (pe_call H_check_nodes (hr.mono (by decide)) rfl T.g_check_nodes T.F_check_nodes.kp T.b_check_nodes .nil pass0 (pa_cons (pv 1) (pa_cons (pv 2) pa_nil)))) (pss_cons (ps_expr (pe_call H_check_links (hr.mono (by decide)) rfl T.g_check_links T.F_check_links.kp T.b_check_links .nil pass0 (pa_cons (pe_callB oLen rfl T.f_len (by decide +kernel) (pa_cons (pv 2) pa_nil)) (pa_cons (pv 3) pa_nil)))) (pss_cons (ps_fld (f := "variables") (pv 0) (pv 1) rfl) (pss_cons (ps_fld (f := "nodes") (pv 0) (pe_callTy oTupOf rfl T.f_tuple (by decide +kernel) (pa_cons (pe_lc (own := [("messages", 4)]) (g := (gName 4)) (tt := tYes) (by rfl) sc_Network_init.nd (pi_list (pv 2)) (blkOk_by (own := [("messages", 4)]) (N := N_Network_init) (sc := defScope s_Network_init) (by decide +kernel)) (fun _ _ _ _ _ => (pg_name (i := 4) sc_Network_init.nd rfl (Or.inl rfl))) (fun _ _ _ _ _ => pts_nil) (fun _ _ _ _ _ => (pe_callTy oTupOf rfl T.f_tuple (by decide +kernel) (pa_cons (pv 4) pa_nil)))) pa_nil)) rfl) (pss_one (ps_fld (f := "links") (pv 0) (pe_callTy oTupOf rfl T.f_tuple (by decide +kernel) (pa_cons (pv 3) pa_nil)) rfl))))))), h⟩
def t_Network_made (K : PySem.W.Frag) (p_Network_init : Phi) : TS :=
  (tSeq (tAsg (tMakeL 0 (He.ga K "Network") (toSp p_Network_init) [] E0 (tCons (tVar 1) (tCons (tOp rRep (tLst (tCons (tTup tNil) tNil)) (tCB (rLenD K) (tCons (tVar 2) tNil))) (tCons (tTup tNil) tNil)))) (gName 4)) (tSeq (sFld K (tVar 4) (tCB (rTupOf K) (tCons (tLc (iTup K (tVar 2)) (gName 5) tYes (tCB (rTupOf K) (tCons (tVar 5) tNil)) [5]) tNil)) "nodes") (tSeq (sFld K (tVar 4) (tCB (rTupOf K) (tCons (tVar 3) tNil)) "links") (tRet (tVar 4)))))
theorem mk_Network_made (T : Top K mg) {φ p_Network_init : Phi} (H_Network_init : FnC P w K mg base 4 (a_Network_init K) ["self", "variables", "nodes", "links"] p_Network_init)
    (len : ∀ S ds Q, φ S ds Q → ds.length = 4) (h : ∀ S ds Q, φ S ds Q → Sx S (startD N_Network_made.length ds) (t_Network_made K p_Network_init) { nx := fun S' _ => Q S' .non, rt := Q }) : FnC P w K mg base (6) (a_Network_made K) ["cls", "variables", "nodes", "links"] φ := by
  exact okD T.F_Network_made sc_Network_made len fun cdv A outer s H E hr => ⟨t_Network_made K p_Network_init, (pss_cons (ps_set (i := 4) sc_Network_made.nd rfl (Or.inl rfl) (pe_makeL T.mk_Network H_Network_init (hr.mono (by decide)) rfl (Or.inl rfl) T.b_Network_init .nil pass0 (pa_cons (pv 1) (pa_cons (pe_op op_rep (pe_lst (pa_cons (pe_tup pa_nil) pa_nil)) (pe_callB oLen rfl T.f_len (by decide +kernel) (pa_cons (pv 2) pa_nil))) (pa_cons (pe_tup pa_nil) pa_nil))))) (pss_cons (ps_fld (f := "nodes") (pv 4) (pe_callTy oTupOf rfl T.f_tuple (by decide +kernel) (pa_cons (pe_lc (own := [("messages", 5)]) (g := (gName 5)) (tt := tYes) (by rfl) sc_Network_made.nd (pi_tup (pv 2)) (blkOk_by (own := [("messages", 5)]) (N := N_Network_made) (sc := defScope s_Network_made) (by decide +kernel)) (fun _ _ _ _ _ => (pg_name (i := 5) sc_Network_made.nd rfl (Or.inl rfl))) (fun _ _ _ _ _ => pts_nil) (fun _ _ _ _ _ => (pe_callTy oTupOf rfl T.f_tuple (by decide +kernel) (pa_cons (pv 5) pa_nil)))) pa_nil)) rfl) (pss_cons (ps_fld (f := "links") (pv 4) (pe_callTy oTupOf rfl T.f_tuple (by decide +kernel) (pa_cons (pv 3) pa_nil)) rfl) (pss_one (ps_ret (pv 4)))))), h⟩
def t_Network_node_letters (K : PySem.W.Frag) : TS :=
  (tRet (tSl rSlS (tC (.str "ABCDEF")) tNoPart (tPart (tCB (rLenD K) (tCons (tFld K (tVar 0) "nodes") tNil)))))
theorem mk_Network_node_letters (T : Top K mg) {φ : Phi} 
    (len : ∀ S ds Q, φ S ds Q → ds.length = 1) (h : ∀ S ds Q, φ S ds Q → Sx S (startD N_Network_node_letters.length ds) (t_Network_node_letters K) { nx := fun S' _ => Q S' .non, rt := Q }) : FnC P w K mg base (1) (a_Network_node_letters K) ["self"] φ := by
  exact okD T.F_Network_node_letters sc_Network_node_letters len fun cdv A outer s H E hr => ⟨t_Network_node_letters K, (pss_one (ps_ret (pe_slice sl_str (pe_glob rfl T.s_NODE_LETTERS.choose_spec ⟨_, rfl⟩) po_none (po_some (pe_callB oLen rfl T.f_len (by decide +kernel) (pa_cons (pe_fld (f := "nodes") (pv 0) rfl) pa_nil)))))), h⟩
def t_node_number (K : PySem.W.Frag) (p_Network_node_letters : Phi) : TS :=
  (tSeq (tIfS (tOr (tTest (tOp rNe (tCB (rLenD K) (tCons (tVar 1) tNil)) (tC (.int 1)))) (tTest (tOp rNotInSign (tVar 1) (tMeth (He.ga K "Network") "node_letters" (toSp p_Network_node_letters) [] E0 (tVar 0) tNil)))) tNever tNext) (tRet (tBM K "str" rIndexS (tC (.str "ABCDEF")) (tCons (tVar 1) tNil))))
theorem mk_node_number (T : Top K mg) {φ p_Network_node_letters : Phi} (H_Network_node_letters : FnC P w K mg base 1 (a_Network_node_letters K) ["self"] p_Network_node_letters)
    (len : ∀ S ds Q, φ S ds Q → ds.length = 2) (h : ∀ S ds Q, φ S ds Q → Sx S (startD N_node_number.length ds) (t_node_number K p_Network_node_letters) { nx := fun S' _ => Q S' .non, rt := Q }) : FnC P w K mg base (2) (a_node_number K) ["network", "node"] φ := by
  exact okD T.F_node_number sc_node_number len fun cdv A outer s H E hr => ⟨t_node_number K p_Network_node_letters, (pss_cons (ps_if (PW.pt (pw_or (pt_cmpR op_ne (pe_callB oLen rfl T.f_len (by decide +kernel) (pa_cons (pv 1) pa_nil)) pe_int (nomark _)) (pw_or1 (pt_cmpR oNotInSign (pv 1) (pe_meth0 (pv 0) T.c_Network T.me_Network_node_letters H_Network_node_letters (hr.mono (by decide)) T.b_Network_node_letters .nil pass0) rfl)))) (pss_one ps_never) pss_nil) (pss_one (ps_ret (pe_bm PySem.F.plainAttrs_str PySem.F.slot_str_index PySem.F.type_str_index oIndexS (pe_glob rfl T.s_NODE_LETTERS.choose_spec ⟨_, rfl⟩) (pa_cons (pv 1) pa_nil))))), h⟩
def t_set_mask (K : PySem.W.Frag) (p_Network_node_letters p_is_ascending : Phi) : TS :=
  (tSeq (tIfS (tOr (tTest (tOp rEq (tVar 1) (tC (.str "")))) (tNot (tB (tCall (toSp p_is_ascending) [] E0 (tCons (tVar 1) (tCons (tMeth (He.ga K "Network") "node_letters" (toSp p_Network_node_letters) [] E0 (tVar 0) tNil) tNil)))))) tNever tNext) (tRet (tCB (rSum K) (tCons (tLc (iStr (tVar 1)) (gName 2) tYes (tOp (rI CPow fun i j => .int (i * 2 ^ j.toNat)) (tC (.int 1)) (tBM K "str" rIndexS (tC (.str "ABCDEF")) (tCons (tVar 2) tNil))) [2]) tNil))))
theorem mk_set_mask (T : Top K mg) {φ p_Network_node_letters p_is_ascending : Phi} (H_Network_node_letters : FnC P w K mg base 1 (a_Network_node_letters K) ["self"] p_Network_node_letters) (H_is_ascending : FnC P w K mg base 1 (a_is_ascending K) ["text", "letters"] p_is_ascending)
    (len : ∀ S ds Q, φ S ds Q → ds.length = 2) (h : ∀ S ds Q, φ S ds Q → Sx S (startD N_set_mask.length ds) (t_set_mask K p_Network_node_letters p_is_ascending) { nx := fun S' _ => Q S' .non, rt := Q }) : FnC P w K mg base (2) (a_set_mask K) ["network", "nodes"] φ := by
  exact okD T.F_set_mask sc_set_mask len fun cdv A outer s H E hr => ⟨t_set_mask K p_Network_node_letters p_is_ascending, (pss_cons (ps_if (PW.pt (pw_or (pt_cmpR op_eq (pv 1) pe_str (nomark _)) (pw_or1 (pt_not (pt_val (pe_call H_is_ascending (hr.mono (by decide)) rfl T.g_is_ascending T.F_is_ascending.kp T.b_is_ascending .nil pass0 (pa_cons (pv 1) (pa_cons (pe_meth0 (pv 0) T.c_Network T.me_Network_node_letters H_Network_node_letters (hr.mono (by decide)) T.b_Network_node_letters .nil pass0) pa_nil)))))))) (pss_one ps_never) pss_nil) (pss_one (ps_ret (pe_callB (cr_sum (by rfl)) rfl T.f_sum (by decide +kernel) (pa_cons (pe_lc (own := [("letter", 2)]) (g := (gName 2)) (tt := tYes) (by rfl) sc_set_mask.nd (pi_str (pv 1)) (blkOk_by (own := [("letter", 2)]) (N := N_set_mask) (sc := defScope s_set_mask) (by decide +kernel)) (fun _ _ _ _ _ => (pg_name (i := 2) sc_set_mask.nd rfl (Or.inl rfl))) (fun _ _ _ _ _ => pts_nil) (fun _ _ _ _ _ => (pe_op op_shl pe_int (pe_bm PySem.F.plainAttrs_str PySem.F.slot_str_index PySem.F.type_str_index oIndexS (pe_glob rfl T.s_NODE_LETTERS.choose_spec ⟨_, rfl⟩) (pa_cons (pv 2) pa_nil))))) pa_nil))))), h⟩
def t_check_link (K : PySem.W.Frag) : TS :=
  (tIfS (tNot (tTest (tChain (rI0 fun i j => .bl (decide (i ≤ j))) (rI0 fun i j => .bl (decide (i < j))) (tC (.int 0)) (tVar 1) (tCB (rLenD K) (tCons (tFld K (tVar 0) "links") tNil))))) tNever tNext)
theorem mk_check_link (T : Top K mg) {φ : Phi} 
    (len : ∀ S ds Q, φ S ds Q → ds.length = 2) (h : ∀ S ds Q, φ S ds Q → Sx S (startD N_check_link.length ds) (t_check_link K) { nx := fun S' _ => Q S' .non, rt := Q }) : FnC P w K mg base (1) (a_check_link K) ["network", "number"] φ := by
  exact okD T.F_check_link sc_check_link len fun cdv A outer s H E hr => ⟨t_check_link K, (pss_one (ps_if (pt_not (pt_chain op_le op_lt pe_int (pv 1) (pe_callB oLen rfl T.f_len (by decide +kernel) (pa_cons (pe_fld (f := "links") (pv 0) rfl) pa_nil)))) (pss_one ps_never) pss_nil)), h⟩
def t_check_transmission (K : PySem.W.Frag) (p_check_link p_node_number : Phi) : TS :=
  (tSeq (tAsg (tVar 1) (gTup K 3 (gCons (gName 2) (gCons (gName 3) (gCons (gName 4) gNil))))) (tSeq (tDrop (tCall (toSp p_check_link) [] E0 (tCons (tVar 0) (tCons (tVar 2) tNil)))) (tSeq (tAsg (tOp (rIxT K) (tFld K (tVar 0) "nodes") (tCall (toSp p_node_number) [] E0 (tCons (tVar 0) (tCons (tVar 3) tNil)))) (gName 5)) (tIfS (tNot (tTest (tChain (rI0 fun i j => .bl (decide (i ≤ j))) (rI0 fun i j => .bl (decide (i < j))) (tC (.int 0)) (tVar 4) (tCB (rLenD K) (tCons (tVar 5) tNil))))) tNever tNext))))
theorem mk_check_transmission (T : Top K mg) {φ p_check_link p_node_number : Phi} (H_check_link : FnC P w K mg base 1 (a_check_link K) ["network", "number"] p_check_link) (H_node_number : FnC P w K mg base 2 (a_node_number K) ["network", "node"] p_node_number)
    (len : ∀ S ds Q, φ S ds Q → ds.length = 2) (h : ∀ S ds Q, φ S ds Q → Sx S (startD N_check_transmission.length ds) (t_check_transmission K p_check_link p_node_number) { nx := fun S' _ => Q S' .non, rt := Q }) : FnC P w K mg base (3) (a_check_transmission K) ["network", "transmission"] φ := by
  exact okD T.F_check_transmission sc_check_transmission len fun cdv A outer s H E hr => ⟨t_check_transmission K p_check_link p_node_number, (pss_cons (ps_asg (pv 1) (pg_tup (by rfl) (pgs_cons (pg_name (i := 2) sc_check_transmission.nd rfl (Or.inl rfl)) (pgs_cons (pg_name (i := 3) sc_check_transmission.nd rfl (Or.inl rfl)) (pgs_cons (pg_name (i := 4) sc_check_transmission.nd rfl (Or.inl rfl)) pgs_nil))))) (pss_cons (ps_expr (pe_call H_check_link (hr.mono (by decide)) rfl T.g_check_link T.F_check_link.kp T.b_check_link .nil pass0 (pa_cons (pv 0) (pa_cons (pv 2) pa_nil)))) (pss_cons (ps_set (i := 5) sc_check_transmission.nd rfl (Or.inl rfl) (pe_ix ix_tup (pe_fld (f := "nodes") (pv 0) rfl) (pe_call H_node_number (hr.mono (by decide)) rfl T.g_node_number T.F_node_number.kp T.b_node_number .nil pass0 (pa_cons (pv 0) (pa_cons (pv 3) pa_nil))) (fun _ _ => rfl))) (pss_one (ps_if (pt_not (pt_chain op_le op_lt pe_int (pv 4) (pe_callB oLen rfl T.f_len (by decide +kernel) (pa_cons (pv 5) pa_nil)))) (pss_one ps_never) pss_nil))))), h⟩
def t_mask_of (K : PySem.W.Frag) : TS :=
  (tSeq (tAsg (tC (.int 0)) (gName 1)) (tSeq (tAsg (tUn (rU fun i => .int (-i)) (tC (.int 1))) (gName 2)) (tSeq (tFor (iStr (tVar 0)) (gName 3) (tSeq (tAsg (tBM K "str" rFind (tC (.str "abcdefgh")) (tCons (tVar 3) tNil)) (gName 4)) (tSeq (tIfS (tTest (tOp (rI0 fun i j => .bl (decide (i ≤ j))) (tVar 4) (tVar 2))) tNever tNext) (tSeq (tAug 1 (tOp (rI CPow fun i j => .int (i * 2 ^ j.toNat)) (tC (.int 1)) (tVar 4)) (ipI fun i j => i + j)) (tAsg (tVar 4) (gName 2)))))) (tRet (tVar 1)))))
theorem mk_mask_of (T : Top K mg) {φ : Phi} 
    (len : ∀ S ds Q, φ S ds Q → ds.length = 1) (h : ∀ S ds Q, φ S ds Q → Sx S (startD N_mask_of.length ds) (t_mask_of K) { nx := fun S' _ => Q S' .non, rt := Q }) : FnC P w K mg base (1) (a_mask_of K) ["text"] φ := by
  exact okD T.F_mask_of sc_mask_of len fun cdv A outer s H E hr => ⟨t_mask_of K, (pss_cons (ps_set (i := 1) sc_mask_of.nd rfl (Or.inl rfl) pe_int) (pss_cons (ps_set (i := 2) sc_mask_of.nd rfl (Or.inl rfl) (pe_un un_neg pe_int)) (pss_cons (ps_for PassesOwn.never rfl (pi_str (pv 0)) (pg_name (i := 3) sc_mask_of.nd rfl (Or.inl rfl)) (pss_cons (ps_set (i := 4) sc_mask_of.nd rfl (Or.inl rfl) (pe_bm PySem.F.plainAttrs_str PySem.F.slot_str_find PySem.F.type_str_find oFind (pe_glob rfl T.s_LETTERS.choose_spec ⟨_, rfl⟩) (pa_cons (pv 3) pa_nil))) (pss_cons (ps_if (pt_cmpR op_le (pv 4) (pv 2) (nomark _)) (pss_one ps_never) pss_nil) (pss_cons (ps_aug (i := 1) sc_mask_of.nd rfl (Or.inl rfl) (pe_op op_shl pe_int (pv 4)) ip_add) (pss_one (ps_set (i := 2) sc_mask_of.nd rfl (Or.inl rfl) (pv 4))))))) (pss_one (ps_ret (pv 1)))))), h⟩
def t_Span_init (K : PySem.W.Frag) (p_Span_add : Phi) : TS :=
  (tSeq (sFld K (tVar 0) (tLst tNil) "rows") (tFor (iTup K (tVar 1)) (gName 2) (tDrop (tMeth (He.ga K "Span") "add" (toSp p_Span_add) [] E0 (tVar 0) (tCons (tVar 2) tNil)))))
theorem mk_Span_init (T : Top K mg) {φ p_Span_add : Phi} (H_Span_add : FnC P w K mg base 2 (a_Span_add K) ["self", "mask"] p_Span_add)
    (len : ∀ S ds Q, φ S ds Q → ds.length = 2) (h : ∀ S ds Q, φ S ds Q → Sx S (startD N_Span_init.length ds) (t_Span_init K p_Span_add) { nx := fun S' _ => Q S' .non, rt := Q }) : FnC P w K mg base (3) (a_Span_init K) ["self", "masks"] φ := by
  exact okDD T.D_Span_init sc_Span_init len fun cdv A outer s H E hr => ⟨t_Span_init K p_Span_add, (pss_cons (ps_fld (f := "rows") (pv 0) (pe_lst pa_nil) rfl) (pss_one (ps_for PassesOwn.never rfl (pi_tup (pv 1)) (pg_name (i := 2) sc_Span_init.nd rfl (Or.inl rfl)) (pss_one (ps_expr (pe_meth (pv 0) T.c_Span T.me_Span_add H_Span_add (hr.mono (by decide)) T.b_Span_add .nil pass0 (pa_cons (pv 2) pa_nil))))))), h⟩
def t_Span_rank (K : PySem.W.Frag) : TS :=
  (tRet (tCB (rLenD K) (tCons (tFld K (tVar 0) "rows") tNil)))
theorem mk_Span_rank (T : Top K mg) {φ : Phi} 
    (len : ∀ S ds Q, φ S ds Q → ds.length = 1) (h : ∀ S ds Q, φ S ds Q → Sx S (startD N_Span_rank.length ds) (t_Span_rank K) { nx := fun S' _ => Q S' .non, rt := Q }) : FnC P w K mg base (1) (a_Span_rank K) ["self"] φ := by
  exact okD T.F_Span_rank sc_Span_rank len fun cdv A outer s H E hr => ⟨t_Span_rank K, (pss_one (ps_ret (pe_callB oLen rfl T.f_len (by decide +kernel) (pa_cons (pe_fld (f := "rows") (pv 0) rfl) pa_nil)))), h⟩
def t_Span_left (K : PySem.W.Frag) : TS :=
  (tSeq (tFor (iList K (tFld K (tVar 0) "rows")) (gName 2) (tAsg (tCB (rMin2) (tCons (tVar 1) (tCons (tOp (rI0 fun i j => .int (Builtin.bitXor i j)) (tVar 1) (tVar 2)) tNil))) (gName 1))) (tRet (tVar 1)))
theorem mk_Span_left (T : Top K mg) {φ : Phi} 
    (len : ∀ S ds Q, φ S ds Q → ds.length = 2) (h : ∀ S ds Q, φ S ds Q → Sx S (startD N_Span_left.length ds) (t_Span_left K) { nx := fun S' _ => Q S' .non, rt := Q }) : FnC P w K mg base (1) (a_Span_left K) ["self", "mask"] φ := by
  exact okD T.F_Span_left sc_Span_left len fun cdv A outer s H E hr => ⟨t_Span_left K, (pss_cons (ps_for PassesOwn.never rfl (pi_list (pe_fld (f := "rows") (pv 0) rfl)) (pg_name (i := 2) sc_Span_left.nd rfl (Or.inl rfl)) (pss_one (ps_set (i := 1) sc_Span_left.nd rfl (Or.inl rfl) (pe_callB (oMin2 (by rfl)) rfl T.f_min (by decide +kernel) (pa_cons (pv 1) (pa_cons (pe_op op_xor (pv 1) (pv 2)) pa_nil)))))) (pss_one (ps_ret (pv 1)))), h⟩
def t_Span_has (K : PySem.W.Frag) (p_Span_left : Phi) : TS :=
  (tRet (tOp rEq (tMeth (He.ga K "Span") "left" (toSp p_Span_left) [] E0 (tVar 0) (tCons (tVar 1) tNil)) (tC (.int 0))))
theorem mk_Span_has (T : Top K mg) {φ p_Span_left : Phi} (H_Span_left : FnC P w K mg base 1 (a_Span_left K) ["self", "mask"] p_Span_left)
    (len : ∀ S ds Q, φ S ds Q → ds.length = 2) (h : ∀ S ds Q, φ S ds Q → Sx S (startD N_Span_has.length ds) (t_Span_has K p_Span_left) { nx := fun S' _ => Q S' .non, rt := Q }) : FnC P w K mg base (2) (a_Span_has K) ["self", "mask"] φ := by
  exact okD T.F_Span_has sc_Span_has len fun cdv A outer s H E hr => ⟨t_Span_has K p_Span_left, (pss_one (ps_ret (pe_cmpR op_eq (pe_meth (pv 0) T.c_Span T.me_Span_left H_Span_left (hr.mono (by decide)) T.b_Span_left .nil pass0 (pa_cons (pv 1) pa_nil)) pe_int (nomark _)))), h⟩
def t_Span_add (K : PySem.W.Frag) (p_Span_left : Phi) : TS :=
  (tSeq (tAsg (tMeth (He.ga K "Span") "left" (toSp p_Span_left) [] E0 (tVar 0) (tCons (tVar 1) tNil)) (gName 2)) (tSeq (tIfS (tTest (tOp rEq (tVar 2) (tC (.int 0)))) (tRet (tC (.bl false))) tNext) (tSeq (tDrop (tBM K "list" rAppend (tFld K (tVar 0) "rows") (tCons (tVar 2) tNil))) (tSeq (sFld K (tVar 0) (tCKw (rSortedKw K true [.bl true]) (tCons (tFld K (tVar 0) "rows") tNil) (tCons (tC (.bl true)) tNil)) "rows") (tRet (tC (.bl true)))))))
theorem mk_Span_add (T : Top K mg) {φ p_Span_left : Phi} (H_Span_left : FnC P w K mg base 1 (a_Span_left K) ["self", "mask"] p_Span_left)
    (len : ∀ S ds Q, φ S ds Q → ds.length = 2) (h : ∀ S ds Q, φ S ds Q → Sx S (startD N_Span_add.length ds) (t_Span_add K p_Span_left) { nx := fun S' _ => Q S' .non, rt := Q }) : FnC P w K mg base (2) (a_Span_add K) ["self", "mask"] φ := by
  exact okD T.F_Span_add sc_Span_add len fun cdv A outer s H E hr => ⟨t_Span_add K p_Span_left, (pss_cons (ps_set (i := 2) sc_Span_add.nd rfl (Or.inl rfl) (pe_meth (pv 0) T.c_Span T.me_Span_left H_Span_left (hr.mono (by decide)) T.b_Span_left .nil pass0 (pa_cons (pv 1) pa_nil))) (pss_cons (ps_if (pt_cmpR op_eq (pv 2) pe_int (nomark _)) (pss_one (ps_ret pe_bl)) pss_nil) (pss_cons (ps_expr (pe_bm PySem.F.plainAttrs_list PySem.F.slot_list_append PySem.F.type_list_append mt_append (pe_fld (f := "rows") (pv 0) rfl) (pa_cons (pv 2) pa_nil))) (pss_cons (ps_fld (f := "rows") (pv 0) (pe_callBK cr_sortedRev rfl T.f_sorted (by decide +kernel) (pa_cons (pe_fld (f := "rows") (pv 0) rfl) pa_nil) (pk_cons pe_bl pk_nil)) rfl) (pss_one (ps_ret pe_bl)))))), h⟩
def t_Span_copied (K : PySem.W.Frag) (p_Span_init : Phi) : TS :=
  (tSeq (tAsg (tMake (He.ga K "Span") (toSp p_Span_init) [V.ref (spanD K)] E0 tNil) (gName 1)) (tSeq (sFld K (tVar 1) (tCB (rListOf K) (tCons (tFld K (tVar 0) "rows") tNil)) "rows") (tRet (tVar 1))))
theorem mk_Span_copied (T : Top K mg) {φ p_Span_init : Phi} (H_Span_init : FnC P w K mg base 3 (a_Span_init K) ["self", "masks"] p_Span_init)
    (len : ∀ S ds Q, φ S ds Q → ds.length = 1) (h : ∀ S ds Q, φ S ds Q → Sx S (startD N_Span_copied.length ds) (t_Span_copied K p_Span_init) { nx := fun S' _ => Q S' .non, rt := Q }) : FnC P w K mg base (5) (a_Span_copied K) ["self"] φ := by
  obtain ⟨dsS, vdS, bdS⟩ := T.b_Span_init
  exact okD T.F_Span_copied sc_Span_copied len fun cdv A outer s H E hr => ⟨t_Span_copied K p_Span_init, (pss_cons (ps_set (i := 1) sc_Span_copied.nd rfl (Or.inl rfl) (pe_make0 T.mk_Span H_Span_init (hr.mono (by decide)) rfl T.g_Span bdS vdS pass0)) (pss_cons (ps_fld (f := "rows") (pv 1) (pe_callTy oListOf rfl T.f_list (by decide +kernel) (pa_cons (pe_fld (f := "rows") (pv 0) rfl) pa_nil)) rfl) (pss_one (ps_ret (pv 1))))), h⟩
def t_State_init (K : PySem.W.Frag) (p_Span_init : Phi) : TS :=
  (tSeq (sFld K (tVar 0) (tVar 1) "network") (tSeq (sFld K (tVar 0) (tLc (iTup K (tFld K (tVar 1) "links")) (gName 4) tYes (tTup (tCons (tBM K "str" rIndexS (tC (.str "ABCDEF")) (tCons (tOp rIxS (tVar 4) (tC (.int 0))) tNil)) (tCons (tBM K "str" rIndexS (tC (.str "ABCDEF")) (tCons (tOp rIxS (tVar 4) (tC (.int 1))) tNil)) tNil))) [4]) "links") (tSeq (sFld K (tVar 0) (tLst tNil) "had") (tSeq (tFor (iEnumT K (tCons (tFld K (tVar 1) "nodes") tNil)) (gTup K 2 (gCons (gName 2) (gCons (gName 3) gNil))) (tDrop (tBM K "list" rAppend (tFld K (tVar 0) "had") (tCons (tLc (iRng1 (tCons (tCB (rLenD K) (tCons (tVar 3) tNil)) tNil)) (gName 5) tYes (tTup (tCons (tOp rIxS (tC (.str "ABCDEF")) (tVar 2)) (tCons (tVar 5) tNil))) [5]) tNil)))) (tSeq (sFld K (tVar 0) (tLstRg (tRg1 (tCB (rLenD K) (tCons (tFld K (tVar 1) "links") tNil)))) "unused") (tSeq (sFld K (tVar 0) (tLst (tCons (tMake (He.ga K "Span") (toSp p_Span_init) [V.ref (spanD K)] E0 tNil) tNil)) "_spans") (sFld K (tVar 0) (tC .non) "_tight")))))))
theorem mk_State_init (T : Top K mg) {φ p_Span_init : Phi} (H_Span_init : FnC P w K mg base 3 (a_Span_init K) ["self", "masks"] p_Span_init)
    (len : ∀ S ds Q, φ S ds Q → ds.length = 2) (h : ∀ S ds Q, φ S ds Q → Sx S (startD N_State_init.length ds) (t_State_init K p_Span_init) { nx := fun S' _ => Q S' .non, rt := Q }) : FnC P w K mg base (5) (a_State_init K) ["self", "network"] φ := by
  obtain ⟨dsS, vdS, bdS⟩ := T.b_Span_init
  exact okD T.F_State_init sc_State_init len fun cdv A outer s H E hr => ⟨t_State_init K p_Span_init, (pss_cons (ps_fld (f := "network") (pv 0) (pv 1) rfl) (pss_cons (ps_fld (f := "links") (pv 0) (pe_lc (own := [("link", 4)]) (g := (gName 4)) (tt := tYes) (by rfl) sc_State_init.nd (pi_tup (pe_fld (f := "links") (pv 1) rfl)) (blkOk_by (own := [("link", 4)]) (N := N_State_init) (sc := defScope s_State_init) (by decide +kernel)) (fun _ _ _ _ _ => (pg_name (i := 4) sc_State_init.nd rfl (Or.inl rfl))) (fun _ _ _ _ _ => pts_nil) (fun _ _ _ _ _ => (pe_tup (pa_cons (pe_bm PySem.F.plainAttrs_str PySem.F.slot_str_index PySem.F.type_str_index oIndexS (pe_glob rfl T.s_NODE_LETTERS.choose_spec ⟨_, rfl⟩) (pa_cons (pe_ix ix_str (pv 4) pe_int (fun _ _ => rfl)) pa_nil)) (pa_cons (pe_bm PySem.F.plainAttrs_str PySem.F.slot_str_index PySem.F.type_str_index oIndexS (pe_glob rfl T.s_NODE_LETTERS.choose_spec ⟨_, rfl⟩) (pa_cons (pe_ix ix_str (pv 4) pe_int (fun _ _ => rfl)) pa_nil)) pa_nil))))) rfl) (pss_cons (ps_fld (f := "had") (pv 0) (pe_lst pa_nil) rfl) (pss_cons (ps_for PassesOwn.never rfl (pi_enumT rfl T.f_enumerate (pa_cons (pe_fld (f := "nodes") (pv 1) rfl) pa_nil)) (pg_tup (by rfl) (pgs_cons (pg_name (i := 2) sc_State_init.nd rfl (Or.inr rfl)) (pgs_cons (pg_name (i := 3) sc_State_init.nd rfl (Or.inl rfl)) pgs_nil))) (pss_one (ps_expr (pe_bm PySem.F.plainAttrs_list PySem.F.slot_list_append PySem.F.type_list_append mt_append (pe_fld (f := "had") (pv 0) rfl) (pa_cons (pe_lc (own := [("number", 5)]) (g := (gName 5)) (tt := tYes) (by rfl) sc_State_init.nd (pi_range1 rfl T.f_range (pa_cons (pe_callB oLen rfl T.f_len (by decide +kernel) (pa_cons (pv 3) pa_nil)) pa_nil)) (blkOk_by (own := [("number", 5)]) (N := N_State_init) (sc := defScope s_State_init) (by decide +kernel)) (fun _ _ _ _ _ => (pg_name (i := 5) sc_State_init.nd rfl (Or.inl rfl))) (fun _ _ _ _ _ => pts_nil) (fun _ _ _ _ _ => (pe_tup (pa_cons (pe_ix ix_str (pe_glob rfl T.s_NODE_LETTERS.choose_spec ⟨_, rfl⟩) (pv 2) (fun _ _ => rfl)) (pa_cons (pv 5) pa_nil))))) pa_nil))))) (pss_cons (ps_fld (f := "unused") (pv 0) (pe_listRg (by rfl) rfl T.f_list (prg_1 rfl T.f_range (pe_callB oLen rfl T.f_len (by decide +kernel) (pa_cons (pe_fld (f := "links") (pv 1) rfl) pa_nil)))) rfl) (pss_cons (ps_fld (f := "_spans") (pv 0) (pe_lst (pa_cons (pe_make0 T.mk_Span H_Span_init (hr.mono (by decide)) rfl T.g_Span bdS vdS pass0) pa_nil)) rfl) (pss_one (ps_fld (f := "_tight") (pv 0) pe_non rfl)))))))), h⟩
def t_State_message (K : PySem.W.Frag) (p_mask_of : Phi) : TS :=
  (tRet (tCall (toSp p_mask_of) [] E0 (tCons (tOp (rIxT K) (tOp (rIxT K) (tFld K (tFld K (tVar 0) "network") "nodes") (tBM K "str" rIndexS (tC (.str "ABCDEF")) (tCons (tVar 1) tNil))) (tVar 2)) tNil)))
theorem mk_State_message (T : Top K mg) {φ p_mask_of : Phi} (H_mask_of : FnC P w K mg base 1 (a_mask_of K) ["text"] p_mask_of)
    (len : ∀ S ds Q, φ S ds Q → ds.length = 3) (h : ∀ S ds Q, φ S ds Q → Sx S (startD N_State_message.length ds) (t_State_message K p_mask_of) { nx := fun S' _ => Q S' .non, rt := Q }) : FnC P w K mg base (2) (a_State_message K) ["self", "origin", "number"] φ := by
  exact okD T.F_State_message sc_State_message len fun cdv A outer s H E hr => ⟨t_State_message K p_mask_of, (pss_one (ps_ret (pe_call H_mask_of (hr.mono (by decide)) rfl T.g_mask_of T.F_mask_of.kp T.b_mask_of .nil pass0 (pa_cons (pe_ix ix_tup (pe_ix ix_tup (pe_fld (f := "nodes") (pe_fld (f := "network") (pv 0) rfl) rfl) (pe_bm PySem.F.plainAttrs_str PySem.F.slot_str_index PySem.F.type_str_index oIndexS (pe_glob rfl T.s_NODE_LETTERS.choose_spec ⟨_, rfl⟩) (pa_cons (pv 1) pa_nil)) (fun _ _ => rfl)) (pv 2) (fun _ _ => rfl)) pa_nil)))), h⟩
def t_State_messages (K : PySem.W.Frag) (p_State_message : Phi) : TS :=
  (tRet (tLc (iList K (tOp (rIxL K) (tFld K (tVar 0) "had") (tVar 1))) (gTup K 2 (gCons (gName 2) (gCons (gName 3) gNil))) tYes (tMeth (He.ga K "State") "message" (toSp p_State_message) [] E0 (tVar 0) (tCons (tVar 2) (tCons (tVar 3) tNil))) [2, 3]))
theorem mk_State_messages (T : Top K mg) {φ p_State_message : Phi} (H_State_message : FnC P w K mg base 2 (a_State_message K) ["self", "origin", "number"] p_State_message)
    (len : ∀ S ds Q, φ S ds Q → ds.length = 2) (h : ∀ S ds Q, φ S ds Q → Sx S (startD N_State_messages.length ds) (t_State_messages K p_State_message) { nx := fun S' _ => Q S' .non, rt := Q }) : FnC P w K mg base (3) (a_State_messages K) ["self", "node"] φ := by
  exact okD T.F_State_messages sc_State_messages len fun cdv A outer s H E hr => ⟨t_State_messages K p_State_message, (pss_one (ps_ret (pe_lc (own := [("origin", 2), ("number", 3)]) (g := (gTup K 2 (gCons (gName 2) (gCons (gName 3) gNil)))) (tt := tYes) (by rfl) sc_State_messages.nd (pi_list (pe_ix ix_list (pe_fld (f := "had") (pv 0) rfl) (pv 1) (fun _ _ => rfl))) (blkOk_by (own := [("origin", 2), ("number", 3)]) (N := N_State_messages) (sc := defScope s_State_messages) (by decide +kernel)) (fun _ _ _ _ _ => (pg_tup (by rfl) (pgs_cons (pg_name (i := 2) sc_State_messages.nd rfl (Or.inl rfl)) (pgs_cons (pg_name (i := 3) sc_State_messages.nd rfl (Or.inl rfl)) pgs_nil)))) (fun _ _ _ _ _ => pts_nil) (fun _ _ _ _ _ => (pe_meth (pv 0) T.c_State T.me_State_message H_State_message (hr.mono (by decide)) T.b_State_message .nil pass0 (pa_cons (pv 2) (pa_cons (pv 3) pa_nil))))))), h⟩
def t_State_sets (K : PySem.W.Frag) : TS :=
  (tSeq (tAsg (tLst (tCons (tTup tNil) tNil)) (gName 1)) (tSeq (tFor (iRng1 (tCons (tCB (rLenD K) (tCons (tFld K (tVar 0) "had") tNil)) tNil)) (gName 2) (tSeq (tAsg (tLc (iList K (tVar 1)) (gName 3) (tTest (tOp rEq (tCB (rLenD K) (tCons (tVar 3) tNil)) (tVar 2))) (tVar 3) [3]) (gName 4)) (tFor (iList K (tVar 4)) (gName 3) (tDrop (tBM K "list" rExtend (tVar 1) (tCons (tLc (iRng2 (tCons (tIf (tTruth K (tVar 3)) (tOp (rI0 fun i j => .int (i + j)) (tOp (rIxT K) (tVar 3) (tUn (rU fun i => .int (-i)) (tC (.int 1)))) (tC (.int 1))) (tC (.int 0))) (tCons (tCB (rLenD K) (tCons (tFld K (tVar 0) "had") tNil)) tNil))) (gName 5) tYes (tOp (rCatA K) (tVar 3) (tTup (tCons (tVar 5) tNil))) [5]) tNil)))))) (tRet (tLc (iList K (tVar 1)) (gName 3) (tTruth K (tVar 3)) (tCB (rSum K) (tCons (tLc (iTup K (tVar 3)) (gName 5) tYes (tOp (rI CPow fun i j => .int (i * 2 ^ j.toNat)) (tC (.int 1)) (tVar 5)) [5]) tNil)) [3]))))
theorem mk_State_sets (T : Top K mg) {φ : Phi} 
    (len : ∀ S ds Q, φ S ds Q → ds.length = 1) (h : ∀ S ds Q, φ S ds Q → Sx S (startD N_State_sets.length ds) (t_State_sets K) { nx := fun S' _ => Q S' .non, rt := Q }) : FnC P w K mg base (1) (a_State_sets K) ["self"] φ := by
  exact okD T.F_State_sets sc_State_sets len fun cdv A outer s H E hr => ⟨t_State_sets K, (pss_cons (ps_set (i := 1) sc_State_sets.nd rfl (Or.inl rfl) (pe_lst (pa_cons (pe_tup pa_nil) pa_nil))) (pss_cons (ps_for PassesOwn.never rfl (pi_range1 rfl T.f_range (pa_cons (pe_callB oLen rfl T.f_len (by decide +kernel) (pa_cons (pe_fld (f := "had") (pv 0) rfl) pa_nil)) pa_nil)) (pg_name (i := 2) sc_State_sets.nd rfl (Or.inr rfl)) (pss_cons (ps_setLc (i := 4) (own := [("one", 3)]) (g := (gName 3)) (tt := (tTest (tOp rEq (tCB (rLenD K) (tCons (tVar 3) tNil)) (tVar 2)))) (by rfl) sc_State_sets.nd rfl rfl (sw_true rfl rfl rfl (by decide +kernel)) (pi_list (pv 1)) (blkOk_by (own := [("one", 3)]) (N := N_State_sets) (sc := defScope s_State_sets) (by decide +kernel)) (fun _ _ _ _ _ => (pg_name (i := 3) sc_State_sets.nd rfl (Or.inl rfl))) (fun _ _ _ _ _ => (pts_one (pt_cmpR op_eq (pe_callB oLen rfl T.f_len (by decide +kernel) (pa_cons (pv 3) pa_nil)) (pv 2) (nomark _)))) (fun _ _ _ _ _ => (pv 3))) (pss_one (ps_for PassesOwn.never rfl (pi_list (pv 4)) (pg_name (i := 3) sc_State_sets.nd rfl (Or.inr rfl)) (pss_one (ps_expr (pe_bm PySem.F.plainAttrs_list PySem.F.slot_list_extend PySem.F.type_list_extend mt_extend (pv 1) (pa_cons (pe_lc (own := [("node", 5)]) (g := (gName 5)) (tt := tYes) (by rfl) sc_State_sets.nd (pi_range2 rfl T.f_range (pa_cons (pe_ifExp (oTruth (pv 3)) (pe_op op_add (pe_ix ix_tup (pv 3) (pe_un un_neg pe_int) (fun _ _ => rfl)) pe_int) pe_int) (pa_cons (pe_callB oLen rfl T.f_len (by decide +kernel) (pa_cons (pe_fld (f := "had") (pv 0) rfl) pa_nil)) pa_nil))) (blkOk_by (own := [("node", 5)]) (N := N_State_sets) (sc := defScope s_State_sets) (by decide +kernel)) (fun _ _ _ _ _ => (pg_name (i := 5) sc_State_sets.nd rfl (Or.inl rfl))) (fun _ _ _ _ _ => pts_nil) (fun _ _ _ _ _ => (pe_op op_catA (pv 3) (pe_tup (pa_cons (pv 5) pa_nil))))) pa_nil)))))))) (pss_one (ps_ret (pe_lc (own := [("one", 3)]) (g := (gName 3)) (tt := (tTruth K (tVar 3))) (by rfl) sc_State_sets.nd (pi_list (pv 1)) (blkOk_by (own := [("one", 3)]) (N := N_State_sets) (sc := defScope s_State_sets) (by decide +kernel)) (fun _ _ _ _ _ => (pg_name (i := 3) sc_State_sets.nd rfl (Or.inl rfl))) (fun _ _ _ _ _ => (pts_one (oTruth (pv 3)))) (fun _ _ _ _ _ => (pe_callB (cr_sum (by rfl)) rfl T.f_sum (by decide +kernel) (pa_cons (pe_lc (own := [("node", 5)]) (g := (gName 5)) (tt := tYes) (by rfl) sc_State_sets.nd (pi_tup (pv 3)) (blkOk_by (own := [("node", 5)]) (N := N_State_sets) (sc := ({ kind := .function, names := [(".0", .local), ("one", .local), ("sum", .globalImplicit)], isGenerator := false, isCoroutine := false, more := [] } : Scope)) (by decide +kernel)) (fun _ _ _ _ _ => (pg_name (i := 5) sc_State_sets.nd rfl (Or.inl rfl))) (fun _ _ _ _ _ => pts_nil) (fun _ _ _ _ _ => (pe_op op_shl pe_int (pv 5)))) pa_nil)))))))), h⟩
def t_State_span (K : PySem.W.Frag) (p_Span_copied p_State_messages p_Span_add : Phi) : TS :=
  (tSeq (tFor (iRng2 (tCons (tCB (rLenD K) (tCons (tFld K (tVar 0) "_spans") tNil)) (tCons (tOp (rI0 fun i j => .int (i + j)) (tVar 1) (tC (.int 1))) tNil))) (gName 2) (tSeq (tAsg (tOp (rI0 fun i j => .int (i - j)) (tBits (tVar 2)) (tC (.int 1))) (gName 3)) (tSeq (tAsg (tMeth (He.ga K "Span") "copied" (toSp p_Span_copied) [] E0 (tOp (rIxL K) (tFld K (tVar 0) "_spans") (tOp (rI0 fun i j => .int (i - j)) (tVar 2) (tOp (rI CPow fun i j => .int (i * 2 ^ j.toNat)) (tC (.int 1)) (tVar 3)))) tNil) (gName 4)) (tSeq (tFor (iList K (tMeth (He.ga K "State") "messages" (toSp p_State_messages) [] E0 (tVar 0) (tCons (tVar 3) tNil))) (gName 5) (tDrop (tMeth (He.ga K "Span") "add" (toSp p_Span_add) [] E0 (tVar 4) (tCons (tVar 5) tNil)))) (tDrop (tBM K "list" rAppend (tFld K (tVar 0) "_spans") (tCons (tVar 4) tNil))))))) (tRet (tOp (rIxL K) (tFld K (tVar 0) "_spans") (tVar 1))))
theorem mk_State_span (T : Top K mg) {φ p_Span_copied p_State_messages p_Span_add : Phi} (H_Span_copied : FnC P w K mg base 5 (a_Span_copied K) ["self"] p_Span_copied) (H_State_messages : FnC P w K mg base 3 (a_State_messages K) ["self", "node"] p_State_messages) (H_Span_add : FnC P w K mg base 2 (a_Span_add K) ["self", "mask"] p_Span_add)
    (len : ∀ S ds Q, φ S ds Q → ds.length = 2) (h : ∀ S ds Q, φ S ds Q → Sx S (startD N_State_span.length ds) (t_State_span K p_Span_copied p_State_messages p_Span_add) { nx := fun S' _ => Q S' .non, rt := Q }) : FnC P w K mg base (6) (a_State_span K) ["self", "one"] φ := by
  exact okD T.F_State_span sc_State_span len fun cdv A outer s H E hr => ⟨t_State_span K p_Span_copied p_State_messages p_Span_add, (pss_cons (ps_for PassesOwn.never rfl (pi_range2 rfl T.f_range (pa_cons (pe_callB oLen rfl T.f_len (by decide +kernel) (pa_cons (pe_fld (f := "_spans") (pv 0) rfl) pa_nil)) (pa_cons (pe_op op_add (pv 1) pe_int) pa_nil))) (pg_name (i := 2) sc_State_span.nd rfl (Or.inl rfl)) (pss_cons (ps_set (i := 3) sc_State_span.nd rfl (Or.inl rfl) (pe_op op_sub (pe_bits (pv 2)) pe_int)) (pss_cons (ps_set (i := 4) sc_State_span.nd rfl (Or.inl rfl) (pe_meth0 (pe_ix ix_list (pe_fld (f := "_spans") (pv 0) rfl) (pe_op op_sub (pv 2) (pe_op op_shl pe_int (pv 3))) (fun _ _ => rfl)) T.c_Span T.me_Span_copied H_Span_copied (hr.mono (by decide)) T.b_Span_copied .nil pass0)) (pss_cons (ps_for PassesOwn.never rfl (pi_list (pe_meth (pv 0) T.c_State T.me_State_messages H_State_messages (hr.mono (by decide)) T.b_State_messages .nil pass0 (pa_cons (pv 3) pa_nil))) (pg_name (i := 5) sc_State_span.nd rfl (Or.inl rfl)) (pss_one (ps_expr (pe_meth (pv 4) T.c_Span T.me_Span_add H_Span_add (hr.mono (by decide)) T.b_Span_add .nil pass0 (pa_cons (pv 5) pa_nil))))) (pss_one (ps_expr (pe_bm PySem.F.plainAttrs_list PySem.F.slot_list_append PySem.F.type_list_append mt_append (pe_fld (f := "_spans") (pv 0) rfl) (pa_cons (pv 4) pa_nil)))))))) (pss_one (ps_ret (pe_ix ix_list (pe_fld (f := "_spans") (pv 0) rfl) (pv 1) (fun _ _ => rfl))))), h⟩
def t_State_rank (K : PySem.W.Frag) (p_State_span p_Span_rank : Phi) : TS :=
  (tRet (tMeth (He.ga K "Span") "rank" (toSp p_Span_rank) [] E0 (tMeth (He.ga K "State") "span" (toSp p_State_span) [] E0 (tVar 0) (tCons (tVar 1) tNil)) tNil))
theorem mk_State_rank (T : Top K mg) {φ p_State_span p_Span_rank : Phi} (H_State_span : FnC P w K mg base 6 (a_State_span K) ["self", "one"] p_State_span) (H_Span_rank : FnC P w K mg base 1 (a_Span_rank K) ["self"] p_Span_rank)
    (len : ∀ S ds Q, φ S ds Q → ds.length = 2) (h : ∀ S ds Q, φ S ds Q → Sx S (startD N_State_rank.length ds) (t_State_rank K p_State_span p_Span_rank) { nx := fun S' _ => Q S' .non, rt := Q }) : FnC P w K mg base (7) (a_State_rank K) ["self", "one"] φ := by
  exact okD T.F_State_rank sc_State_rank len fun cdv A outer s H E hr => ⟨t_State_rank K p_State_span p_Span_rank, (pss_one (ps_ret (pe_meth0 (pe_meth (pv 0) T.c_State T.me_State_span H_State_span (hr.mono (by decide)) T.b_State_span .nil pass0 (pa_cons (pv 1) pa_nil)) T.c_Span T.me_Span_rank H_Span_rank (hr.mono (by decide)) T.b_Span_rank .nil pass0))), h⟩
def t_State_demand (K : PySem.W.Frag) (p_State_rank : Phi) : TS :=
  (tRet (tOp (rI0 fun i j => .int (i - j)) (tMeth (He.ga K "State") "rank" (toSp p_State_rank) [] E0 (tVar 0) (tCons (tOp (rI0 fun i j => .int (i - j)) (tOp (rI CPow fun i j => .int (i * 2 ^ j.toNat)) (tC (.int 1)) (tCB (rLenD K) (tCons (tFld K (tVar 0) "had") tNil))) (tC (.int 1))) tNil)) (tMeth (He.ga K "State") "rank" (toSp p_State_rank) [] E0 (tVar 0) (tCons (tVar 1) tNil))))
theorem mk_State_demand (T : Top K mg) {φ p_State_rank : Phi} (H_State_rank : FnC P w K mg base 7 (a_State_rank K) ["self", "one"] p_State_rank)
    (len : ∀ S ds Q, φ S ds Q → ds.length = 2) (h : ∀ S ds Q, φ S ds Q → Sx S (startD N_State_demand.length ds) (t_State_demand K p_State_rank) { nx := fun S' _ => Q S' .non, rt := Q }) : FnC P w K mg base (8) (a_State_demand K) ["self", "one"] φ := by
  exact okD T.F_State_demand sc_State_demand len fun cdv A outer s H E hr => ⟨t_State_demand K p_State_rank, (pss_one (ps_ret (pe_op op_sub (pe_meth (pv 0) T.c_State T.me_State_rank H_State_rank (hr.mono (by decide)) T.b_State_rank .nil pass0 (pa_cons (pe_op op_sub (pe_op op_shl pe_int (pe_callB oLen rfl T.f_len (by decide +kernel) (pa_cons (pe_fld (f := "had") (pv 0) rfl) pa_nil))) pe_int) pa_nil)) (pe_meth (pv 0) T.c_State T.me_State_rank H_State_rank (hr.mono (by decide)) T.b_State_rank .nil pass0 (pa_cons (pv 1) pa_nil))))), h⟩
def t_State_entering (K : PySem.W.Frag) : TS :=
  (tRet (tLc (iList K (tFld K (tVar 0) "unused")) (gName 2) (tAnd (tTruth K (tOp (rI0 fun i j => .int (Builtin.bitAnd i j)) (tOp (rI (fun _ j => 0 ≤ j) fun i j => .int (i / 2 ^ j.toNat)) (tVar 1) (tOp (rIxT K) (tOp (rIxL K) (tFld K (tVar 0) "links") (tVar 2)) (tC (.int 1)))) (tC (.int 1)))) (tNot (tTruth K (tOp (rI0 fun i j => .int (Builtin.bitAnd i j)) (tOp (rI (fun _ j => 0 ≤ j) fun i j => .int (i / 2 ^ j.toNat)) (tVar 1) (tOp (rIxT K) (tOp (rIxL K) (tFld K (tVar 0) "links") (tVar 2)) (tC (.int 0)))) (tC (.int 1)))))) (tVar 2) [2]))
theorem mk_State_entering (T : Top K mg) {φ : Phi} 
    (len : ∀ S ds Q, φ S ds Q → ds.length = 2) (h : ∀ S ds Q, φ S ds Q → Sx S (startD N_State_entering.length ds) (t_State_entering K) { nx := fun S' _ => Q S' .non, rt := Q }) : FnC P w K mg base (1) (a_State_entering K) ["self", "one"] φ := by
  exact okD T.F_State_entering sc_State_entering len fun cdv A outer s H E hr => ⟨t_State_entering K, (pss_one (ps_ret (pe_lc (own := [("link", 2)]) (g := (gName 2)) (tt := (tAnd (tTruth K (tOp (rI0 fun i j => .int (Builtin.bitAnd i j)) (tOp (rI (fun _ j => 0 ≤ j) fun i j => .int (i / 2 ^ j.toNat)) (tVar 1) (tOp (rIxT K) (tOp (rIxL K) (tFld K (tVar 0) "links") (tVar 2)) (tC (.int 1)))) (tC (.int 1)))) (tNot (tTruth K (tOp (rI0 fun i j => .int (Builtin.bitAnd i j)) (tOp (rI (fun _ j => 0 ≤ j) fun i j => .int (i / 2 ^ j.toNat)) (tVar 1) (tOp (rIxT K) (tOp (rIxL K) (tFld K (tVar 0) "links") (tVar 2)) (tC (.int 0)))) (tC (.int 1))))))) (by rfl) sc_State_entering.nd (pi_list (pe_fld (f := "unused") (pv 0) rfl)) (blkOk_by (own := [("link", 2)]) (N := N_State_entering) (sc := defScope s_State_entering) (by decide +kernel)) (fun _ _ _ _ _ => (pg_name (i := 2) sc_State_entering.nd rfl (Or.inl rfl))) (fun _ _ _ _ _ => (pts_one (PW.pt (pw_and (oTruth (pe_op op_and (pe_op op_shr (pv 1) (pe_ix ix_tup (pe_ix ix_list (pe_fld (f := "links") (pv 0) rfl) (pv 2) (fun _ _ => rfl)) pe_int (fun _ _ => rfl))) pe_int)) (pw_and1 (pt_not (oTruth (pe_op op_and (pe_op op_shr (pv 1) (pe_ix ix_tup (pe_ix ix_list (pe_fld (f := "links") (pv 0) rfl) (pv 2) (fun _ _ => rfl)) pe_int (fun _ _ => rfl))) pe_int)))))))) (fun _ _ _ _ _ => (pv 2))))), h⟩
def t_State_slack (K : PySem.W.Frag) (p_State_entering p_State_demand : Phi) : TS :=
  (tRet (tOp (rI0 fun i j => .int (i - j)) (tCB (rLenD K) (tCons (tMeth (He.ga K "State") "entering" (toSp p_State_entering) [] E0 (tVar 0) (tCons (tVar 1) tNil)) tNil)) (tMeth (He.ga K "State") "demand" (toSp p_State_demand) [] E0 (tVar 0) (tCons (tVar 1) tNil))))
theorem mk_State_slack (T : Top K mg) {φ p_State_entering p_State_demand : Phi} (H_State_entering : FnC P w K mg base 1 (a_State_entering K) ["self", "one"] p_State_entering) (H_State_demand : FnC P w K mg base 8 (a_State_demand K) ["self", "one"] p_State_demand)
    (len : ∀ S ds Q, φ S ds Q → ds.length = 2) (h : ∀ S ds Q, φ S ds Q → Sx S (startD N_State_slack.length ds) (t_State_slack K p_State_entering p_State_demand) { nx := fun S' _ => Q S' .non, rt := Q }) : FnC P w K mg base (9) (a_State_slack K) ["self", "one"] φ := by
  exact okD T.F_State_slack sc_State_slack len fun cdv A outer s H E hr => ⟨t_State_slack K p_State_entering p_State_demand, (pss_one (ps_ret (pe_op op_sub (pe_callB oLen rfl T.f_len (by decide +kernel) (pa_cons (pe_meth (pv 0) T.c_State T.me_State_entering H_State_entering (hr.mono (by decide)) T.b_State_entering .nil pass0 (pa_cons (pv 1) pa_nil)) pa_nil)) (pe_meth (pv 0) T.c_State T.me_State_demand H_State_demand (hr.mono (by decide)) T.b_State_demand .nil pass0 (pa_cons (pv 1) pa_nil))))), h⟩
def t_State_deficient (K : PySem.W.Frag) (p_State_sets p_State_slack : Phi) : TS :=
  (tRet (tLc (iList K (tMeth (He.ga K "State") "sets" (toSp p_State_sets) [] E0 (tVar 0) tNil)) (gName 1) (tTest (tOp (rI0 fun i j => .bl (decide (i < j))) (tMeth (He.ga K "State") "slack" (toSp p_State_slack) [] E0 (tVar 0) (tCons (tVar 1) tNil)) (tC (.int 0)))) (tVar 1) [1]))
theorem mk_State_deficient (T : Top K mg) {φ p_State_sets p_State_slack : Phi} (H_State_sets : FnC P w K mg base 1 (a_State_sets K) ["self"] p_State_sets) (H_State_slack : FnC P w K mg base 9 (a_State_slack K) ["self", "one"] p_State_slack)
    (len : ∀ S ds Q, φ S ds Q → ds.length = 1) (h : ∀ S ds Q, φ S ds Q → Sx S (startD N_State_deficient.length ds) (t_State_deficient K p_State_sets p_State_slack) { nx := fun S' _ => Q S' .non, rt := Q }) : FnC P w K mg base (10) (a_State_deficient K) ["self"] φ := by
  exact okD T.F_State_deficient sc_State_deficient len fun cdv A outer s H E hr => ⟨t_State_deficient K p_State_sets p_State_slack, (pss_one (ps_ret (pe_lc (own := [("one", 1)]) (g := (gName 1)) (tt := (tTest (tOp (rI0 fun i j => .bl (decide (i < j))) (tMeth (He.ga K "State") "slack" (toSp p_State_slack) [] E0 (tVar 0) (tCons (tVar 1) tNil)) (tC (.int 0))))) (by rfl) sc_State_deficient.nd (pi_list (pe_meth0 (pv 0) T.c_State T.me_State_sets H_State_sets (hr.mono (by decide)) T.b_State_sets .nil pass0)) (blkOk_by (own := [("one", 1)]) (N := N_State_deficient) (sc := defScope s_State_deficient) (by decide +kernel)) (fun _ _ _ _ _ => (pg_name (i := 1) sc_State_deficient.nd rfl (Or.inl rfl))) (fun _ _ _ _ _ => (pts_one (pt_cmpR op_lt (pe_meth (pv 0) T.c_State T.me_State_slack H_State_slack (hr.mono (by decide)) T.b_State_slack .nil pass0 (pa_cons (pv 1) pa_nil)) pe_int (nomark _)))) (fun _ _ _ _ _ => (pv 1))))), h⟩
def t_State_tight (K : PySem.W.Frag) (p_State_sets p_State_slack : Phi) : TS :=
  (tSeq (tIfS (tTest (tOp rIsNone (tFld K (tVar 0) "_tight") (tC .non))) (sFld K (tVar 0) (tLc (iList K (tMeth (He.ga K "State") "sets" (toSp p_State_sets) [] E0 (tVar 0) tNil)) (gName 1) (tTest (tOp rEq (tMeth (He.ga K "State") "slack" (toSp p_State_slack) [] E0 (tVar 0) (tCons (tVar 1) tNil)) (tC (.int 0)))) (tVar 1) [1]) "_tight") tNext) (tRet (tFld K (tVar 0) "_tight")))
theorem mk_State_tight (T : Top K mg) {φ p_State_sets p_State_slack : Phi} (H_State_sets : FnC P w K mg base 1 (a_State_sets K) ["self"] p_State_sets) (H_State_slack : FnC P w K mg base 9 (a_State_slack K) ["self", "one"] p_State_slack)
    (len : ∀ S ds Q, φ S ds Q → ds.length = 1) (h : ∀ S ds Q, φ S ds Q → Sx S (startD N_State_tight.length ds) (t_State_tight K p_State_sets p_State_slack) { nx := fun S' _ => Q S' .non, rt := Q }) : FnC P w K mg base (10) (a_State_tight K) ["self"] φ := by
  exact okD T.F_State_tight sc_State_tight len fun cdv A outer s H E hr => ⟨t_State_tight K p_State_sets p_State_slack, (pss_cons (ps_if (pt_cmpR oIsN (pe_fld (f := "_tight") (pv 0) rfl) pe_non (nomark _)) (pss_one (ps_fld (f := "_tight") (pv 0) (pe_lc (own := [("one", 1)]) (g := (gName 1)) (tt := (tTest (tOp rEq (tMeth (He.ga K "State") "slack" (toSp p_State_slack) [] E0 (tVar 0) (tCons (tVar 1) tNil)) (tC (.int 0))))) (by rfl) sc_State_tight.nd (pi_list (pe_meth0 (pv 0) T.c_State T.me_State_sets H_State_sets (hr.mono (by decide)) T.b_State_sets .nil pass0)) (blkOk_by (own := [("one", 1)]) (N := N_State_tight) (sc := defScope s_State_tight) (by decide +kernel)) (fun _ _ _ _ _ => (pg_name (i := 1) sc_State_tight.nd rfl (Or.inl rfl))) (fun _ _ _ _ _ => (pts_one (pt_cmpR op_eq (pe_meth (pv 0) T.c_State T.me_State_slack H_State_slack (hr.mono (by decide)) T.b_State_slack .nil pass0 (pa_cons (pv 1) pa_nil)) pe_int (nomark _)))) (fun _ _ _ _ _ => (pv 1))) rfl)) pss_nil) (pss_one (ps_ret (pe_fld (f := "_tight") (pv 0) rfl)))), h⟩
def t_State_why_not (K : PySem.W.Frag) (p_State_span p_State_message p_Span_has : Phi) : TS :=
  (tSeq (tAsg (tVar 1) (gTup K 3 (gCons (gName 2) (gCons (gName 3) (gCons (gName 4) gNil))))) (tSeq (tIfS (tTest (tOp (rIn K true) (tVar 2) (tFld K (tVar 0) "unused"))) (tRet (tC (.str "used"))) tNext) (tSeq (tAsg (tOp (rIxL K) (tFld K (tVar 0) "links") (tVar 2)) (gTup K 2 (gCons (gName 5) (gCons (gName 6) gNil)))) (tSeq (tIfS (tTest (tOp (rNotInD K) (tTup (tCons (tVar 3) (tCons (tVar 4) tNil))) (tOp (rIxL K) (tFld K (tVar 0) "had") (tVar 5)))) (tRet (tC (.str "missing"))) tNext) (tRet (tIf (tB (tMeth (He.ga K "Span") "has" (toSp p_Span_has) [] E0 (tMeth (He.ga K "State") "span" (toSp p_State_span) [] E0 (tVar 0) (tCons (tOp (rI CPow fun i j => .int (i * 2 ^ j.toNat)) (tC (.int 1)) (tVar 6)) tNil)) (tCons (tMeth (He.ga K "State") "message" (toSp p_State_message) [] E0 (tVar 0) (tCons (tVar 3) (tCons (tVar 4) tNil))) tNil))) (tC (.str "known")) (tC .non)))))))
theorem mk_State_why_not (T : Top K mg) {φ p_State_span p_State_message p_Span_has : Phi} (H_State_span : FnC P w K mg base 6 (a_State_span K) ["self", "one"] p_State_span) (H_State_message : FnC P w K mg base 2 (a_State_message K) ["self", "origin", "number"] p_State_message) (H_Span_has : FnC P w K mg base 2 (a_Span_has K) ["self", "mask"] p_Span_has)
    (len : ∀ S ds Q, φ S ds Q → ds.length = 2) (h : ∀ S ds Q, φ S ds Q → Sx S (startD N_State_why_not.length ds) (t_State_why_not K p_State_span p_State_message p_Span_has) { nx := fun S' _ => Q S' .non, rt := Q }) : FnC P w K mg base (7) (a_State_why_not K) ["self", "transmission"] φ := by
  exact okD T.F_State_why_not sc_State_why_not len fun cdv A outer s H E hr => ⟨t_State_why_not K p_State_span p_State_message p_Span_has, (pss_cons (ps_asg (pv 1) (pg_tup (by rfl) (pgs_cons (pg_name (i := 2) sc_State_why_not.nd rfl (Or.inl rfl)) (pgs_cons (pg_name (i := 3) sc_State_why_not.nd rfl (Or.inl rfl)) (pgs_cons (pg_name (i := 4) sc_State_why_not.nd rfl (Or.inl rfl)) pgs_nil))))) (pss_cons (ps_if (pt_cmpR op_notIn_seq (pv 2) (pe_fld (f := "unused") (pv 0) rfl) rfl) (pss_one (ps_ret pe_str)) pss_nil) (pss_cons (ps_asg (pe_ix ix_list (pe_fld (f := "links") (pv 0) rfl) (pv 2) (fun _ _ => rfl)) (pg_tup (by rfl) (pgs_cons (pg_name (i := 5) sc_State_why_not.nd rfl (Or.inl rfl)) (pgs_cons (pg_name (i := 6) sc_State_why_not.nd rfl (Or.inl rfl)) pgs_nil)))) (pss_cons (ps_if (pt_cmpR (op_notInD (hu65_of hr)) (pe_tup (pa_cons (pv 3) (pa_cons (pv 4) pa_nil))) (pe_ix ix_list (pe_fld (f := "had") (pv 0) rfl) (pv 5) (fun _ _ => rfl)) rfl) (pss_one (ps_ret pe_str)) pss_nil) (pss_one (ps_ret (pe_ifExp (pt_val (pe_meth (pe_meth (pv 0) T.c_State T.me_State_span H_State_span (hr.mono (by decide)) T.b_State_span .nil pass0 (pa_cons (pe_op op_shl pe_int (pv 6)) pa_nil)) T.c_Span T.me_Span_has H_Span_has (hr.mono (by decide)) T.b_Span_has .nil pass0 (pa_cons (pe_meth (pv 0) T.c_State T.me_State_message H_State_message (hr.mono (by decide)) T.b_State_message .nil pass0 (pa_cons (pv 3) (pa_cons (pv 4) pa_nil))) pa_nil))) pe_str pe_non))))))), h⟩
def t_State_after (K : PySem.W.Frag) (p_State_without : Phi) : TS :=
  (tSeq (tAsg (tVar 1) (gTup K 3 (gCons (gName 2) (gCons (gName 3) (gCons (gName 4) gNil))))) (tSeq (tAsg (tMeth (He.ga K "State") "without" (toSp p_State_without) [] E0 (tVar 0) (tCons (tLst (tCons (tVar 2) tNil)) tNil)) (gName 5)) (tSeq (tDrop (tBM K "list" rAppend (tOp (rIxL K) (tFld K (tVar 5) "had") (tOp (rIxT K) (tOp (rIxL K) (tFld K (tVar 0) "links") (tVar 2)) (tC (.int 1)))) (tCons (tTup (tCons (tVar 3) (tCons (tVar 4) tNil))) tNil))) (tRet (tVar 5)))))
theorem mk_State_after (T : Top K mg) {φ p_State_without : Phi} (H_State_without : FnC P w K mg base 7 (a_State_without K) ["self", "links"] p_State_without)
    (len : ∀ S ds Q, φ S ds Q → ds.length = 2) (h : ∀ S ds Q, φ S ds Q → Sx S (startD N_State_after.length ds) (t_State_after K p_State_without) { nx := fun S' _ => Q S' .non, rt := Q }) : FnC P w K mg base (8) (a_State_after K) ["self", "transmission"] φ := by
  exact okD T.F_State_after sc_State_after len fun cdv A outer s H E hr => ⟨t_State_after K p_State_without, (pss_cons (ps_asg (pv 1) (pg_tup (by rfl) (pgs_cons (pg_name (i := 2) sc_State_after.nd rfl (Or.inl rfl)) (pgs_cons (pg_name (i := 3) sc_State_after.nd rfl (Or.inl rfl)) (pgs_cons (pg_name (i := 4) sc_State_after.nd rfl (Or.inl rfl)) pgs_nil))))) (pss_cons (ps_set (i := 5) sc_State_after.nd rfl (Or.inl rfl) (pe_meth (pv 0) T.c_State T.me_State_without H_State_without (hr.mono (by decide)) T.b_State_without .nil pass0 (pa_cons (pe_lst (pa_cons (pv 2) pa_nil)) pa_nil))) (pss_cons (ps_expr (pe_bm PySem.F.plainAttrs_list PySem.F.slot_list_append PySem.F.type_list_append mt_append (pe_ix ix_list (pe_fld (f := "had") (pv 5) rfl) (pe_ix ix_tup (pe_ix ix_list (pe_fld (f := "links") (pv 0) rfl) (pv 2) (fun _ _ => rfl)) pe_int (fun _ _ => rfl)) (fun _ _ => rfl)) (pa_cons (pe_tup (pa_cons (pv 3) (pa_cons (pv 4) pa_nil))) pa_nil))) (pss_one (ps_ret (pv 5)))))), h⟩
def t_State_without (K : PySem.W.Frag) (p_State_init : Phi) : TS :=
  (tSeq (tAsg (tMake (He.ga K "State") (toSp p_State_init) [] E0 (tCons (tFld K (tVar 0) "network") tNil)) (gName 2)) (tSeq (sFld K (tVar 2) (tLc (iList K (tFld K (tVar 0) "had")) (gName 3) tYes (tCB (rListOf K) (tCons (tVar 3) tNil)) [3]) "had") (tSeq (sFld K (tVar 2) (tLc (iList K (tFld K (tVar 0) "unused")) (gName 4) (tTest (tOp (rIn K true) (tVar 4) (tVar 1))) (tVar 4) [4]) "unused") (tRet (tVar 2)))))
theorem mk_State_without (T : Top K mg) {φ p_State_init : Phi} (H_State_init : FnC P w K mg base 5 (a_State_init K) ["self", "network"] p_State_init)
    (len : ∀ S ds Q, φ S ds Q → ds.length = 2) (h : ∀ S ds Q, φ S ds Q → Sx S (startD N_State_without.length ds) (t_State_without K p_State_init) { nx := fun S' _ => Q S' .non, rt := Q }) : FnC P w K mg base (7) (a_State_without K) ["self", "links"] φ := by
  exact okD T.F_State_without sc_State_without len fun cdv A outer s H E hr => ⟨t_State_without K p_State_init, (pss_cons (ps_set (i := 2) sc_State_without.nd rfl (Or.inl rfl) (pe_make T.mk_State H_State_init (hr.mono (by decide)) rfl T.g_State T.b_State_init .nil pass0 (pa_cons (pe_fld (f := "network") (pv 0) rfl) pa_nil))) (pss_cons (ps_fld (f := "had") (pv 2) (pe_lc (own := [("row", 3)]) (g := (gName 3)) (tt := tYes) (by rfl) sc_State_without.nd (pi_list (pe_fld (f := "had") (pv 0) rfl)) (blkOk_by (own := [("row", 3)]) (N := N_State_without) (sc := defScope s_State_without) (by decide +kernel)) (fun _ _ _ _ _ => (pg_name (i := 3) sc_State_without.nd rfl (Or.inl rfl))) (fun _ _ _ _ _ => pts_nil) (fun _ _ _ _ _ => (pe_callTy oListOf rfl T.f_list (by decide +kernel) (pa_cons (pv 3) pa_nil)))) rfl) (pss_cons (ps_fld (f := "unused") (pv 2) (pe_lc (own := [("one", 4)]) (g := (gName 4)) (tt := (tTest (tOp (rIn K true) (tVar 4) (tVar 1)))) (by rfl) sc_State_without.nd (pi_list (pe_fld (f := "unused") (pv 0) rfl)) (blkOk_by (own := [("one", 4)]) (N := N_State_without) (sc := defScope s_State_without) (by decide +kernel)) (fun _ _ _ _ _ => (pg_name (i := 4) sc_State_without.nd rfl (Or.inl rfl))) (fun _ _ _ _ _ => (pts_one (pt_cmpR op_notIn_seq (pv 4) (pv 1) rfl))) (fun _ _ _ _ _ => (pv 4))) rfl) (pss_one (ps_ret (pv 2)))))), h⟩
def t_State_is_done (K : PySem.W.Frag) (p_State_demand : Phi) : TS :=
  (tRet (tCB (rAll K) (tCons (tLc (iRng1 (tCons (tCB (rLenD K) (tCons (tFld K (tVar 0) "had") tNil)) tNil)) (gName 1) tYes (tOp rEq (tMeth (He.ga K "State") "demand" (toSp p_State_demand) [] E0 (tVar 0) (tCons (tOp (rI CPow fun i j => .int (i * 2 ^ j.toNat)) (tC (.int 1)) (tVar 1)) tNil)) (tC (.int 0))) [1]) tNil)))
theorem mk_State_is_done (T : Top K mg) {φ p_State_demand : Phi} (H_State_demand : FnC P w K mg base 8 (a_State_demand K) ["self", "one"] p_State_demand)
    (len : ∀ S ds Q, φ S ds Q → ds.length = 1) (h : ∀ S ds Q, φ S ds Q → Sx S (startD N_State_is_done.length ds) (t_State_is_done K p_State_demand) { nx := fun S' _ => Q S' .non, rt := Q }) : FnC P w K mg base (9) (a_State_is_done K) ["self"] φ := by
  exact okD T.F_State_is_done sc_State_is_done len fun cdv A outer s H E hr => ⟨t_State_is_done K p_State_demand, (pss_one (ps_ret (pe_callB (cr_all (by rfl)) rfl T.f_all (by decide +kernel) (pa_cons (pe_lc (own := [("node", 1)]) (g := (gName 1)) (tt := tYes) (by rfl) sc_State_is_done.nd (pi_range1 rfl T.f_range (pa_cons (pe_callB oLen rfl T.f_len (by decide +kernel) (pa_cons (pe_fld (f := "had") (pv 0) rfl) pa_nil)) pa_nil)) (blkOk_by (own := [("node", 1)]) (N := N_State_is_done) (sc := defScope s_State_is_done) (by decide +kernel)) (fun _ _ _ _ _ => (pg_name (i := 1) sc_State_is_done.nd rfl (Or.inl rfl))) (fun _ _ _ _ _ => pts_nil) (fun _ _ _ _ _ => (pe_cmpR op_eq (pe_meth (pv 0) T.c_State T.me_State_demand H_State_demand (hr.mono (by decide)) T.b_State_demand .nil pass0 (pa_cons (pe_op op_shl pe_int (pv 1)) pa_nil)) pe_int (nomark _)))) pa_nil)))), h⟩
def t_State_largest_without (K : PySem.W.Frag) (p_State_tight : Phi) : TS :=
  (tSeq (tAsg (tC (.int 0)) (gName 3)) (tSeq (tFor (iList K (tMeth (He.ga K "State") "tight" (toSp p_State_tight) [] E0 (tVar 0) tNil)) (gName 4) (tIfS (tAnd (tTruth K (tOp (rI0 fun i j => .int (Builtin.bitAnd i j)) (tOp (rI (fun _ j => 0 ≤ j) fun i j => .int (i / 2 ^ j.toNat)) (tVar 4) (tVar 1)) (tC (.int 1)))) (tNot (tTruth K (tOp (rI0 fun i j => .int (Builtin.bitAnd i j)) (tOp (rI (fun _ j => 0 ≤ j) fun i j => .int (i / 2 ^ j.toNat)) (tVar 4) (tVar 2)) (tC (.int 1)))))) (tAsg (tOp (rI0 fun i j => .int (Builtin.bitOr i j)) (tVar 3) (tVar 4)) (gName 3)) tNext)) (tRet (tVar 3))))
theorem mk_State_largest_without (T : Top K mg) {φ p_State_tight : Phi} (H_State_tight : FnC P w K mg base 10 (a_State_tight K) ["self"] p_State_tight)
    (len : ∀ S ds Q, φ S ds Q → ds.length = 3) (h : ∀ S ds Q, φ S ds Q → Sx S (startD N_State_largest_without.length ds) (t_State_largest_without K p_State_tight) { nx := fun S' _ => Q S' .non, rt := Q }) : FnC P w K mg base (11) (a_State_largest_without K) ["self", "node", "other"] φ := by
  exact okD T.F_State_largest_without sc_State_largest_without len fun cdv A outer s H E hr => ⟨t_State_largest_without K p_State_tight, (pss_cons (ps_set (i := 3) sc_State_largest_without.nd rfl (Or.inl rfl) pe_int) (pss_cons (ps_for PassesOwn.never rfl (pi_list (pe_meth0 (pv 0) T.c_State T.me_State_tight H_State_tight (hr.mono (by decide)) T.b_State_tight .nil pass0)) (pg_name (i := 4) sc_State_largest_without.nd rfl (Or.inl rfl)) (pss_one (ps_if (PW.pt (pw_and (oTruth (pe_op op_and (pe_op op_shr (pv 4) (pv 1)) pe_int)) (pw_and1 (pt_not (oTruth (pe_op op_and (pe_op op_shr (pv 4) (pv 2)) pe_int)))))) (pss_one (ps_set (i := 3) sc_State_largest_without.nd rfl (Or.inl rfl) (pe_op op_or (pv 3) (pv 4)))) pss_nil))) (pss_one (ps_ret (pv 3))))), h⟩
def t_State_carried (K : PySem.W.Frag) (p_State_largest_without p_State_span p_State_message p_Span_has : Phi) : TS :=
  (tSeq (tAsg (tOp (rIxL K) (tFld K (tVar 0) "links") (tVar 1)) (gTup K 2 (gCons (gName 2) (gCons (gName 3) gNil)))) (tSeq (tAsg (tMeth (He.ga K "State") "span" (toSp p_State_span) [] E0 (tVar 0) (tCons (tOp (rI0 fun i j => .int (Builtin.bitOr i j)) (tMeth (He.ga K "State") "largest_without" (toSp p_State_largest_without) [] E0 (tVar 0) (tCons (tVar 3) (tCons (tVar 2) tNil))) (tOp (rI CPow fun i j => .int (i * 2 ^ j.toNat)) (tC (.int 1)) (tVar 3))) tNil)) (gName 4)) (tRet (tLc (iList K (tCB (rSortedPm K) (tCons (tOp (rIxL K) (tFld K (tVar 0) "had") (tVar 2)) tNil))) (gName 5) (tNot (tB (tMeth (He.ga K "Span") "has" (toSp p_Span_has) [] E0 (tVar 4) (tCons (tMeth (He.ga K "State") "message" (toSp p_State_message) [] E0 (tVar 0) (tCons (tOp (rIxT K) (tVar 5) (tC (.int 0))) (tCons (tOp (rIxT K) (tVar 5) (tC (.int 1))) tNil))) tNil)))) (tVar 5) [5]))))
theorem mk_State_carried (T : Top K mg) {φ p_State_largest_without p_State_span p_State_message p_Span_has : Phi} (H_State_largest_without : FnC P w K mg base 11 (a_State_largest_without K) ["self", "node", "other"] p_State_largest_without) (H_State_span : FnC P w K mg base 6 (a_State_span K) ["self", "one"] p_State_span) (H_State_message : FnC P w K mg base 2 (a_State_message K) ["self", "origin", "number"] p_State_message) (H_Span_has : FnC P w K mg base 2 (a_Span_has K) ["self", "mask"] p_Span_has)
    (len : ∀ S ds Q, φ S ds Q → ds.length = 2) (h : ∀ S ds Q, φ S ds Q → Sx S (startD N_State_carried.length ds) (t_State_carried K p_State_largest_without p_State_span p_State_message p_Span_has) { nx := fun S' _ => Q S' .non, rt := Q }) : FnC P w K mg base (12) (a_State_carried K) ["self", "link"] φ := by
  exact okD T.F_State_carried sc_State_carried len fun cdv A outer s H E hr => ⟨t_State_carried K p_State_largest_without p_State_span p_State_message p_Span_has, (pss_cons (ps_asg (pe_ix ix_list (pe_fld (f := "links") (pv 0) rfl) (pv 1) (fun _ _ => rfl)) (pg_tup (by rfl) (pgs_cons (pg_name (i := 2) sc_State_carried.nd rfl (Or.inl rfl)) (pgs_cons (pg_name (i := 3) sc_State_carried.nd rfl (Or.inl rfl)) pgs_nil)))) (pss_cons (ps_set (i := 4) sc_State_carried.nd rfl (Or.inr rfl) (pe_meth (pv 0) T.c_State T.me_State_span H_State_span (hr.mono (by decide)) T.b_State_span .nil pass0 (pa_cons (pe_op op_or (pe_meth (pv 0) T.c_State T.me_State_largest_without H_State_largest_without (hr.mono (by decide)) T.b_State_largest_without .nil pass0 (pa_cons (pv 3) (pa_cons (pv 2) pa_nil))) (pe_op op_shl pe_int (pv 3))) pa_nil))) (pss_one (ps_ret (pe_lc (own := [("row", 5)]) (g := (gName 5)) (tt := (tNot (tB (tMeth (He.ga K "Span") "has" (toSp p_Span_has) [] E0 (tVar 4) (tCons (tMeth (He.ga K "State") "message" (toSp p_State_message) [] E0 (tVar 0) (tCons (tOp (rIxT K) (tVar 5) (tC (.int 0))) (tCons (tOp (rIxT K) (tVar 5) (tC (.int 1))) tNil))) tNil))))) (by rfl) sc_State_carried.nd (pi_list (pe_callB (oSortedPm (hu64_of hr)) rfl T.f_sorted (by decide +kernel) (pa_cons (pe_ix ix_list (pe_fld (f := "had") (pv 0) rfl) (pv 2) (fun _ _ => rfl)) pa_nil))) (blkOk_by (own := [("row", 5)]) (N := N_State_carried) (sc := defScope s_State_carried) (by decide +kernel)) (fun _ _ _ _ _ => (pg_name (i := 5) sc_State_carried.nd rfl (Or.inl rfl))) (fun _ _ _ _ _ => (pts_one (pt_not (pt_val (pe_meth (pv 4) T.c_Span T.me_Span_has H_Span_has (hr.mono (by decide)) T.b_Span_has .nil pass0 (pa_cons (pe_meth (pv 0) T.c_State T.me_State_message H_State_message (hr.mono (by decide)) T.b_State_message .nil pass0 (pa_cons (pe_ix ix_tup (pv 5) pe_int (fun _ _ => rfl)) (pa_cons (pe_ix ix_tup (pv 5) pe_int (fun _ _ => rfl)) pa_nil))) pa_nil)))))) (fun _ _ _ _ _ => (pv 5))))))), h⟩
def t_State_following (K : PySem.W.Frag) (p_State_deficient p_State_carried : Phi) : TS :=
  (tSeq (tIfS (tTruth K (tMeth (He.ga K "State") "deficient" (toSp p_State_deficient) [] E0 (tVar 0) tNil)) (tRet (tLst tNil)) tNext) (tSeq (tAsg (tLst tNil) (gName 1)) (tSeq (tFor (iList K (tFld K (tVar 0) "unused")) (gName 2) (tDrop (tBM K "list" rExtend (tVar 1) (tCons (tLc (iList K (tMeth (He.ga K "State") "carried" (toSp p_State_carried) [] E0 (tVar 0) (tCons (tVar 2) tNil))) (gTup K 2 (gCons (gName 3) (gCons (gName 4) gNil))) tYes (tTup (tCons (tVar 2) (tCons (tVar 3) (tCons (tVar 4) tNil)))) [3, 4]) tNil)))) (tRet (tVar 1)))))
theorem mk_State_following (T : Top K mg) {φ p_State_deficient p_State_carried : Phi} (H_State_deficient : FnC P w K mg base 10 (a_State_deficient K) ["self"] p_State_deficient) (H_State_carried : FnC P w K mg base 12 (a_State_carried K) ["self", "link"] p_State_carried)
    (len : ∀ S ds Q, φ S ds Q → ds.length = 1) (h : ∀ S ds Q, φ S ds Q → Sx S (startD N_State_following.length ds) (t_State_following K p_State_deficient p_State_carried) { nx := fun S' _ => Q S' .non, rt := Q }) : FnC P w K mg base (13) (a_State_following K) ["self"] φ := by
  exact okD T.F_State_following sc_State_following len fun cdv A outer s H E hr => ⟨t_State_following K p_State_deficient p_State_carried, (pss_cons (ps_if (oTruth (pe_meth0 (pv 0) T.c_State T.me_State_deficient H_State_deficient (hr.mono (by decide)) T.b_State_deficient .nil pass0)) (pss_one (ps_ret (pe_lst pa_nil))) pss_nil) (pss_cons (ps_set (i := 1) sc_State_following.nd rfl (Or.inl rfl) (pe_lst pa_nil)) (pss_cons (ps_for PassesOwn.never rfl (pi_list (pe_fld (f := "unused") (pv 0) rfl)) (pg_name (i := 2) sc_State_following.nd rfl (Or.inr rfl)) (pss_one (ps_expr (pe_bm PySem.F.plainAttrs_list PySem.F.slot_list_extend PySem.F.type_list_extend mt_extend (pv 1) (pa_cons (pe_lc (own := [("origin", 3), ("number", 4)]) (g := (gTup K 2 (gCons (gName 3) (gCons (gName 4) gNil)))) (tt := tYes) (by rfl) sc_State_following.nd (pi_list (pe_meth (pv 0) T.c_State T.me_State_carried H_State_carried (hr.mono (by decide)) T.b_State_carried .nil pass0 (pa_cons (pv 2) pa_nil))) (blkOk_by (own := [("origin", 3), ("number", 4)]) (N := N_State_following) (sc := defScope s_State_following) (by decide +kernel)) (fun _ _ _ _ _ => (pg_tup (by rfl) (pgs_cons (pg_name (i := 3) sc_State_following.nd rfl (Or.inl rfl)) (pgs_cons (pg_name (i := 4) sc_State_following.nd rfl (Or.inl rfl)) pgs_nil)))) (fun _ _ _ _ _ => pts_nil) (fun _ _ _ _ _ => (pe_tup (pa_cons (pv 2) (pa_cons (pv 3) (pa_cons (pv 4) pa_nil)))))) pa_nil))))) (pss_one (ps_ret (pv 1)))))), h⟩
def t_Needs_init (K : PySem.W.Frag) (p_State_init p_State_sets p_State_demand p_State_entering : Phi) : TS :=
  (tSeq (tAsg (tMake (He.ga K "State") (toSp p_State_init) [] E0 (tCons (tVar 1) tNil)) (gName 2)) (tSeq (sFld K (tVar 0) (tCB (rLenD K) (tCons (tFld K (tVar 1) "nodes") tNil)) "nodes") (tSeq (sFld K (tVar 0) (tLc (iList K (tMeth (He.ga K "State") "sets" (toSp p_State_sets) [] E0 (tVar 2) tNil)) (gName 3) tYes (tTup (tCons (tVar 3) (tCons (tMeth (He.ga K "State") "demand" (toSp p_State_demand) [] E0 (tVar 2) (tCons (tVar 3) tNil)) (tCons (tMeth (He.ga K "State") "entering" (toSp p_State_entering) [] E0 (tVar 2) (tCons (tVar 3) tNil)) tNil)))) [3]) "rows") (sFld K (tVar 0) (tLstRg (tRg1 (tCB (rLenD K) (tCons (tFld K (tVar 1) "links") tNil)))) "links"))))
theorem mk_Needs_init (T : Top K mg) {φ p_State_init p_State_sets p_State_demand p_State_entering : Phi} (H_State_init : FnC P w K mg base 5 (a_State_init K) ["self", "network"] p_State_init) (H_State_sets : FnC P w K mg base 1 (a_State_sets K) ["self"] p_State_sets) (H_State_demand : FnC P w K mg base 8 (a_State_demand K) ["self", "one"] p_State_demand) (H_State_entering : FnC P w K mg base 1 (a_State_entering K) ["self", "one"] p_State_entering)
    (len : ∀ S ds Q, φ S ds Q → ds.length = 2) (h : ∀ S ds Q, φ S ds Q → Sx S (startD N_Needs_init.length ds) (t_Needs_init K p_State_init p_State_sets p_State_demand p_State_entering) { nx := fun S' _ => Q S' .non, rt := Q }) : FnC P w K mg base (9) (a_Needs_init K) ["self", "network"] φ := by
  exact okD T.F_Needs_init sc_Needs_init len fun cdv A outer s H E hr => ⟨t_Needs_init K p_State_init p_State_sets p_State_demand p_State_entering, (pss_cons (ps_set (i := 2) sc_Needs_init.nd rfl (Or.inr rfl) (pe_make T.mk_State H_State_init (hr.mono (by decide)) rfl T.g_State T.b_State_init .nil pass0 (pa_cons (pv 1) pa_nil))) (pss_cons (ps_fld (f := "nodes") (pv 0) (pe_callB oLen rfl T.f_len (by decide +kernel) (pa_cons (pe_fld (f := "nodes") (pv 1) rfl) pa_nil)) rfl) (pss_cons (ps_fld (f := "rows") (pv 0) (pe_lc (own := [("one", 3)]) (g := (gName 3)) (tt := tYes) (by rfl) sc_Needs_init.nd (pi_list (pe_meth0 (pv 2) T.c_State T.me_State_sets H_State_sets (hr.mono (by decide)) T.b_State_sets .nil pass0)) (blkOk_by (own := [("one", 3)]) (N := N_Needs_init) (sc := defScope s_Needs_init) (by decide +kernel)) (fun _ _ _ _ _ => (pg_name (i := 3) sc_Needs_init.nd rfl (Or.inl rfl))) (fun _ _ _ _ _ => pts_nil) (fun _ _ _ _ _ => (pe_tup (pa_cons (pv 3) (pa_cons (pe_meth (pv 2) T.c_State T.me_State_demand H_State_demand (hr.mono (by decide)) T.b_State_demand .nil pass0 (pa_cons (pv 3) pa_nil)) (pa_cons (pe_meth (pv 2) T.c_State T.me_State_entering H_State_entering (hr.mono (by decide)) T.b_State_entering .nil pass0 (pa_cons (pv 3) pa_nil)) pa_nil)))))) rfl) (pss_one (ps_fld (f := "links") (pv 0) (pe_listRg (by rfl) rfl T.f_list (prg_1 rfl T.f_range (pe_callB oLen rfl T.f_len (by decide +kernel) (pa_cons (pe_fld (f := "links") (pv 1) rfl) pa_nil)))) rfl))))), h⟩
def t_Needs_is_enough (K : PySem.W.Frag) : TS :=
  (tRet (tCB (rAll K) (tCons (tLc (iList K (tFld K (tVar 0) "rows")) (gTup K 3 (gCons (gName 2) (gCons (gName 3) (gCons (gName 4) gNil)))) tYes (tOp (rI0 fun i j => .bl (decide (j ≤ i))) (tCB (rLenD K) (tCons (tLc (iList K (tVar 4)) (gName 5) (tTest (tOp (rIn K false) (tVar 5) (tVar 1))) (tVar 5) [5]) tNil)) (tVar 3)) [2, 3, 4]) tNil)))
theorem mk_Needs_is_enough (T : Top K mg) {φ : Phi} 
    (len : ∀ S ds Q, φ S ds Q → ds.length = 2) (h : ∀ S ds Q, φ S ds Q → Sx S (startD N_Needs_is_enough.length ds) (t_Needs_is_enough K) { nx := fun S' _ => Q S' .non, rt := Q }) : FnC P w K mg base (1) (a_Needs_is_enough K) ["self", "links"] φ := by
  exact okD T.F_Needs_is_enough sc_Needs_is_enough len fun cdv A outer s H E hr => ⟨t_Needs_is_enough K, (pss_one (ps_ret (pe_callB (cr_all (by rfl)) rfl T.f_all (by decide +kernel) (pa_cons (pe_lc (own := [("_", 2), ("demand", 3), ("entering", 4)]) (g := (gTup K 3 (gCons (gName 2) (gCons (gName 3) (gCons (gName 4) gNil))))) (tt := tYes) (by rfl) sc_Needs_is_enough.nd (pi_list (pe_fld (f := "rows") (pv 0) rfl)) (blkOk_by (own := [("_", 2), ("demand", 3), ("entering", 4)]) (N := N_Needs_is_enough) (sc := defScope s_Needs_is_enough) (by decide +kernel)) (fun _ _ _ _ _ => (pg_tup (by rfl) (pgs_cons (pg_name (i := 2) sc_Needs_is_enough.nd rfl (Or.inl rfl)) (pgs_cons (pg_name (i := 3) sc_Needs_is_enough.nd rfl (Or.inl rfl)) (pgs_cons (pg_name (i := 4) sc_Needs_is_enough.nd rfl (Or.inl rfl)) pgs_nil))))) (fun _ _ _ _ _ => pts_nil) (fun _ _ _ _ _ => (pe_cmpR op_ge (pe_callB oLen rfl T.f_len (by decide +kernel) (pa_cons (pe_lc (own := [("link", 5)]) (g := (gName 5)) (tt := (tTest (tOp (rIn K false) (tVar 5) (tVar 1)))) (by rfl) sc_Needs_is_enough.nd (pi_list (pv 4)) (blkOk_by (own := [("link", 5)]) (N := N_Needs_is_enough) (sc := ({ kind := .function, names := [(".0", .local), ("_", .local), ("demand", .local), ("entering", .local), ("len", .globalImplicit), ("links", .cell)], isGenerator := false, isCoroutine := false, more := [] } : Scope)) (by decide +kernel)) (fun _ _ _ _ _ => (pg_name (i := 5) sc_Needs_is_enough.nd rfl (Or.inl rfl))) (fun _ _ _ _ _ => (pts_one (pt_cmpR op_in_seq (pv 5) (pv 1) rfl))) (fun _ _ _ _ _ => (pv 5))) pa_nil)) (pv 3) (nomark _)))) pa_nil)))), h⟩
def t_Needs_of_node (K : PySem.W.Frag) : TS :=
  (tSeq (tFor (iList K (tFld K (tVar 0) "rows")) (gTup K 3 (gCons (gName 2) (gCons (gName 3) (gCons (gName 4) gNil)))) (tIfS (tTest (tOp rEq (tVar 2) (tOp (rI CPow fun i j => .int (i * 2 ^ j.toNat)) (tC (.int 1)) (tVar 1)))) (tRet (tTup (tCons (tVar 3) (tCons (tVar 4) tNil)))) tNext)) (tRet (tTup (tCons (tC (.int 0)) (tCons (tLst tNil) tNil)))))
theorem mk_Needs_of_node (T : Top K mg) {φ : Phi} 
    (len : ∀ S ds Q, φ S ds Q → ds.length = 2) (h : ∀ S ds Q, φ S ds Q → Sx S (startD N_Needs_of_node.length ds) (t_Needs_of_node K) { nx := fun S' _ => Q S' .non, rt := Q }) : FnC P w K mg base (1) (a_Needs_of_node K) ["self", "node"] φ := by
  exact okD T.F_Needs_of_node sc_Needs_of_node len fun cdv A outer s H E hr => ⟨t_Needs_of_node K, (pss_cons (ps_for PassesOwn.never rfl (pi_list (pe_fld (f := "rows") (pv 0) rfl)) (pg_tup (by rfl) (pgs_cons (pg_name (i := 2) sc_Needs_of_node.nd rfl (Or.inl rfl)) (pgs_cons (pg_name (i := 3) sc_Needs_of_node.nd rfl (Or.inl rfl)) (pgs_cons (pg_name (i := 4) sc_Needs_of_node.nd rfl (Or.inl rfl)) pgs_nil)))) (pss_one (ps_if (pt_cmpR op_eq (pv 2) (pe_op op_shl pe_int (pv 1)) (nomark _)) (pss_one (ps_ret (pe_tup (pa_cons (pv 3) (pa_cons (pv 4) pa_nil))))) pss_nil))) (pss_one (ps_ret (pe_tup (pa_cons pe_int (pa_cons (pe_lst pa_nil) pa_nil)))))), h⟩
def t_is_feasible (K : PySem.W.Frag) (p_State_init p_State_deficient : Phi) : TS :=
  (tRet (tOp (rEqD K) (tMeth (He.ga K "State") "deficient" (toSp p_State_deficient) [] E0 (tMake (He.ga K "State") (toSp p_State_init) [] E0 (tCons (tVar 0) tNil)) tNil) (tLst tNil)))
theorem mk_is_feasible (T : Top K mg) {φ p_State_init p_State_deficient : Phi} (H_State_init : FnC P w K mg base 5 (a_State_init K) ["self", "network"] p_State_init) (H_State_deficient : FnC P w K mg base 10 (a_State_deficient K) ["self"] p_State_deficient)
    (len : ∀ S ds Q, φ S ds Q → ds.length = 1) (h : ∀ S ds Q, φ S ds Q → Sx S (startD N_is_feasible.length ds) (t_is_feasible K p_State_init p_State_deficient) { nx := fun S' _ => Q S' .non, rt := Q }) : FnC P w K mg base (11) (a_is_feasible K) ["network"] φ := by
  exact okD T.F_is_feasible sc_is_feasible len fun cdv A outer s H E hr => ⟨t_is_feasible K p_State_init p_State_deficient, (pss_one (ps_ret (pe_cmpR (op_eqD (hu64_of hr)) (pe_meth0 (pe_make T.mk_State H_State_init (hr.mono (by decide)) rfl T.g_State T.b_State_init .nil pass0 (pa_cons (pv 0) pa_nil)) T.c_State T.me_State_deficient H_State_deficient (hr.mono (by decide)) T.b_State_deficient .nil pass0) (pe_lst pa_nil) (nomark _)))), h⟩
def t_reduced (K : PySem.W.Frag) (p_Needs_init p_Needs_is_enough : Phi) : TS :=
  (tSeq (tAsg (tMake (He.ga K "Needs") (toSp p_Needs_init) [] E0 (tCons (tVar 0) tNil)) (gName 1)) (tSeq (tIfS (tNot (tB (tMeth (He.ga K "Needs") "is_enough" (toSp p_Needs_is_enough) [] E0 (tVar 1) (tCons (tFld K (tVar 1) "links") tNil)))) (tRet (tC .non)) tNext) (tSeq (tAsg (tCB (rListOf K) (tCons (tFld K (tVar 1) "links") tNil)) (gName 2)) (tSeq (tFor (iList K (tFld K (tVar 1) "links")) (gName 3) (tSeq (tAsg (tLc (iList K (tVar 2)) (gName 5) (tTest (tOp rNe (tVar 5) (tVar 3))) (tVar 5) [5]) (gName 4)) (tIfS (tB (tMeth (He.ga K "Needs") "is_enough" (toSp p_Needs_is_enough) [] E0 (tVar 1) (tCons (tVar 4) tNil))) (tAsg (tVar 4) (gName 2)) tNext))) (tRet (tCB (rTupOf K) (tCons (tVar 2) tNil)))))))
theorem mk_reduced (T : Top K mg) {φ p_Needs_init p_Needs_is_enough : Phi} (H_Needs_init : FnC P w K mg base 9 (a_Needs_init K) ["self", "network"] p_Needs_init) (H_Needs_is_enough : FnC P w K mg base 1 (a_Needs_is_enough K) ["self", "links"] p_Needs_is_enough)
    (len : ∀ S ds Q, φ S ds Q → ds.length = 1) (h : ∀ S ds Q, φ S ds Q → Sx S (startD N_reduced.length ds) (t_reduced K p_Needs_init p_Needs_is_enough) { nx := fun S' _ => Q S' .non, rt := Q }) : FnC P w K mg base (11) (a_reduced K) ["network"] φ := by
  exact okD T.F_reduced sc_reduced len fun cdv A outer s H E hr => ⟨t_reduced K p_Needs_init p_Needs_is_enough, (pss_cons (ps_set (i := 1) sc_reduced.nd rfl (Or.inl rfl) (pe_make T.mk_Needs H_Needs_init (hr.mono (by decide)) rfl T.g_Needs T.b_Needs_init .nil pass0 (pa_cons (pv 0) pa_nil))) (pss_cons (ps_if (pt_not (pt_val (pe_meth (pv 1) T.c_Needs T.me_Needs_is_enough H_Needs_is_enough (hr.mono (by decide)) T.b_Needs_is_enough .nil pass0 (pa_cons (pe_fld (f := "links") (pv 1) rfl) pa_nil)))) (pss_one (ps_ret pe_non)) pss_nil) (pss_cons (ps_set (i := 2) sc_reduced.nd rfl (Or.inl rfl) (pe_callTy oListOf rfl T.f_list (by decide +kernel) (pa_cons (pe_fld (f := "links") (pv 1) rfl) pa_nil))) (pss_cons (ps_for PassesOwn.never rfl (pi_list (pe_fld (f := "links") (pv 1) rfl)) (pg_name (i := 3) sc_reduced.nd rfl (Or.inr rfl)) (pss_cons (ps_setLc (i := 4) (own := [("one", 5)]) (g := (gName 5)) (tt := (tTest (tOp rNe (tVar 5) (tVar 3)))) (by rfl) sc_reduced.nd rfl rfl (sw_true rfl rfl rfl (by decide +kernel)) (pi_list (pv 2)) (blkOk_by (own := [("one", 5)]) (N := N_reduced) (sc := defScope s_reduced) (by decide +kernel)) (fun _ _ _ _ _ => (pg_name (i := 5) sc_reduced.nd rfl (Or.inl rfl))) (fun _ _ _ _ _ => (pts_one (pt_cmpR op_ne (pv 5) (pv 3) (nomark _)))) (fun _ _ _ _ _ => (pv 5))) (pss_one (ps_if (pt_val (pe_meth (pv 1) T.c_Needs T.me_Needs_is_enough H_Needs_is_enough (hr.mono (by decide)) T.b_Needs_is_enough .nil pass0 (pa_cons (pv 4) pa_nil))) (pss_one (ps_set (i := 2) sc_reduced.nd rfl (Or.inl rfl) (pv 4))) pss_nil)))) (pss_one (ps_ret (pe_callTy oTupOf rfl T.f_tuple (by decide +kernel) (pa_cons (pv 2) pa_nil)))))))), h⟩
def t_with_link (K : PySem.W.Frag) (p_is_link p_Network_made p_is_feasible : Phi) : TS :=
  (tSeq (tIfS (tNot (tB (tCall (toSp p_is_link) [] E0 (tCons (tCB (rLenD K) (tCons (tFld K (tVar 0) "nodes") tNil)) (tCons (tVar 1) tNil))))) tNever tNext) (tRet (tCall (toSp p_is_feasible) [] E0 (tCons (ClX.tCMeth (He.ga K "Network") (toSp p_Network_made) E0 (tC (.ref (He.ga K "Network"))) (tCons (tFld K (tVar 0) "variables") (tCons (tFld K (tVar 0) "nodes") (tCons (tOp (rCatA K) (tFld K (tVar 0) "links") (tTup (tCons (tVar 1) tNil))) tNil)))) tNil))))
theorem mk_with_link (T : Top K mg) {φ p_is_link p_Network_made p_is_feasible : Phi} (H_is_link : FnC P w K mg base 1 (a_is_link K) ["nodes", "text"] p_is_link) (H_Network_made : FnC P w K mg base 6 (a_Network_made K) ["cls", "variables", "nodes", "links"] p_Network_made) (H_is_feasible : FnC P w K mg base 11 (a_is_feasible K) ["network"] p_is_feasible)
    (len : ∀ S ds Q, φ S ds Q → ds.length = 2) (h : ∀ S ds Q, φ S ds Q → Sx S (startD N_with_link.length ds) (t_with_link K p_is_link p_Network_made p_is_feasible) { nx := fun S' _ => Q S' .non, rt := Q }) : FnC P w K mg base (12) (a_with_link K) ["network", "link"] φ := by
  exact okD T.F_with_link sc_with_link len fun cdv A outer s H E hr => ⟨t_with_link K p_is_link p_Network_made p_is_feasible, (pss_cons (ps_if (pt_not (pt_val (pe_call H_is_link (hr.mono (by decide)) rfl T.g_is_link T.F_is_link.kp T.b_is_link .nil pass0 (pa_cons (pe_callB oLen rfl T.f_len (by decide +kernel) (pa_cons (pe_fld (f := "nodes") (pv 0) rfl) pa_nil)) (pa_cons (pv 1) pa_nil))))) (pss_one ps_never) pss_nil) (pss_one (ps_ret (pe_call H_is_feasible (hr.mono (by decide)) rfl T.g_is_feasible T.F_is_feasible.kp T.b_is_feasible .nil pass0 (pa_cons (ClX.pe_cmeth (pe_glob rfl T.g_Network rfl) (T.readsNet) (T.cmetNet) (rawNet H_Network_made T.b_Network_made) (hr.mono (by decide)) pass0 (pa_cons (pe_fld (f := "variables") (pv 0) rfl) (pa_cons (pe_fld (f := "nodes") (pv 0) rfl) (pa_cons (pe_op op_catA (pe_fld (f := "links") (pv 0) rfl) (pe_tup (pa_cons (pv 1) pa_nil))) pa_nil)))) pa_nil))))), h⟩
def t_helping_links (K : PySem.W.Frag) (p_Network_node_letters p_with_link : Phi) : TS :=
  (tSeq (tAsg (tMeth (He.ga K "Network") "node_letters" (toSp p_Network_node_letters) [] E0 (tVar 0) tNil) (gName 1)) (tSeq (tAsg (tLst tNil) (gName 2)) (tSeq (tFor (iStr (tVar 1)) (gName 3) (tDrop (tBM K "list" rExtend (tVar 2) (tCons (tLc (iStr (tVar 1)) (gName 5) (tTest (tOp rNe (tVar 5) (tVar 3))) (tOp rAddStr (tVar 3) (tVar 5)) [5]) tNil)))) (tRet (tCB (rTupOf K) (tCons (tLc (iList K (tVar 2)) (gName 4) (tB (tCall (toSp p_with_link) [] E0 (tCons (tVar 0) (tCons (tVar 4) tNil)))) (tVar 4) [4]) tNil))))))
theorem mk_helping_links (T : Top K mg) {φ p_Network_node_letters p_with_link : Phi} (H_Network_node_letters : FnC P w K mg base 1 (a_Network_node_letters K) ["self"] p_Network_node_letters) (H_with_link : FnC P w K mg base 12 (a_with_link K) ["network", "link"] p_with_link)
    (len : ∀ S ds Q, φ S ds Q → ds.length = 1) (h : ∀ S ds Q, φ S ds Q → Sx S (startD N_helping_links.length ds) (t_helping_links K p_Network_node_letters p_with_link) { nx := fun S' _ => Q S' .non, rt := Q }) : FnC P w K mg base (13) (a_helping_links K) ["network"] φ := by
  exact okD T.F_helping_links sc_helping_links len fun cdv A outer s H E hr => ⟨t_helping_links K p_Network_node_letters p_with_link, (pss_cons (ps_set (i := 1) sc_helping_links.nd rfl (Or.inl rfl) (pe_meth0 (pv 0) T.c_Network T.me_Network_node_letters H_Network_node_letters (hr.mono (by decide)) T.b_Network_node_letters .nil pass0)) (pss_cons (ps_set (i := 2) sc_helping_links.nd rfl (Or.inl rfl) (pe_lst pa_nil)) (pss_cons (ps_for PassesOwn.never rfl (pi_str (pv 1)) (pg_name (i := 3) sc_helping_links.nd rfl (Or.inr rfl)) (pss_one (ps_expr (pe_bm PySem.F.plainAttrs_list PySem.F.slot_list_extend PySem.F.type_list_extend mt_extend (pv 2) (pa_cons (pe_lc (own := [("receiver", 5)]) (g := (gName 5)) (tt := (tTest (tOp rNe (tVar 5) (tVar 3)))) (by rfl) sc_helping_links.nd (pi_str (pv 1)) (blkOk_by (own := [("receiver", 5)]) (N := N_helping_links) (sc := defScope s_helping_links) (by decide +kernel)) (fun _ _ _ _ _ => (pg_name (i := 5) sc_helping_links.nd rfl (Or.inl rfl))) (fun _ _ _ _ _ => (pts_one (pt_cmpR op_ne (pv 5) (pv 3) (nomark _)))) (fun _ _ _ _ _ => (pe_op oAddStr (pv 3) (pv 5)))) pa_nil))))) (pss_one (ps_ret (pe_callTy oTupOf rfl T.f_tuple (by decide +kernel) (pa_cons (pe_lc (own := [("link", 4)]) (g := (gName 4)) (tt := (tB (tCall (toSp p_with_link) [] E0 (tCons (tVar 0) (tCons (tVar 4) tNil))))) (by rfl) sc_helping_links.nd (pi_list (pv 2)) (blkOk_by (own := [("link", 4)]) (N := N_helping_links) (sc := defScope s_helping_links) (by decide +kernel)) (fun _ _ _ _ _ => (pg_name (i := 4) sc_helping_links.nd rfl (Or.inl rfl))) (fun _ _ _ _ _ => (pts_one (pt_val (pe_call H_with_link (hr.mono (by decide)) rfl T.g_with_link T.F_with_link.kp T.b_with_link .nil pass0 (pa_cons (pv 0) (pa_cons (pv 4) pa_nil)))))) (fun _ _ _ _ _ => (pv 4))) pa_nil))))))), h⟩
def t_chosen (K : PySem.W.Frag) : TS :=
  (tSeq (tAsg (tLst (tCons (tTup tNil) tNil)) (gName 2)) (tSeq (tFor (iList K (tVar 0)) (gName 3) (tDrop (tBM K "list" rExtend (tVar 2) (tCons (tLc (iList K (tVar 2)) (gName 4) (tTest (tOp (rI0 fun i j => .bl (decide (i < j))) (tCB (rLenD K) (tCons (tVar 4) tNil)) (tVar 1))) (tOp (rCatA K) (tVar 4) (tTup (tCons (tVar 3) tNil))) [4]) tNil)))) (tRet (tLc (iList K (tVar 2)) (gName 4) (tTest (tOp rEq (tCB (rLenD K) (tCons (tVar 4) tNil)) (tVar 1))) (tVar 4) [4]))))
theorem mk_chosen (T : Top K mg) {φ : Phi} 
    (len : ∀ S ds Q, φ S ds Q → ds.length = 2) (h : ∀ S ds Q, φ S ds Q → Sx S (startD N_chosen.length ds) (t_chosen K) { nx := fun S' _ => Q S' .non, rt := Q }) : FnC P w K mg base (1) (a_chosen K) ["links", "many"] φ := by
  exact okD T.F_chosen sc_chosen len fun cdv A outer s H E hr => ⟨t_chosen K, (pss_cons (ps_set (i := 2) sc_chosen.nd rfl (Or.inl rfl) (pe_lst (pa_cons (pe_tup pa_nil) pa_nil))) (pss_cons (ps_for PassesOwn.never rfl (pi_list (pv 0)) (pg_name (i := 3) sc_chosen.nd rfl (Or.inr rfl)) (pss_one (ps_expr (pe_bm PySem.F.plainAttrs_list PySem.F.slot_list_extend PySem.F.type_list_extend mt_extend (pv 2) (pa_cons (pe_lc (own := [("row", 4)]) (g := (gName 4)) (tt := (tTest (tOp (rI0 fun i j => .bl (decide (i < j))) (tCB (rLenD K) (tCons (tVar 4) tNil)) (tVar 1)))) (by rfl) sc_chosen.nd (pi_list (pv 2)) (blkOk_by (own := [("row", 4)]) (N := N_chosen) (sc := defScope s_chosen) (by decide +kernel)) (fun _ _ _ _ _ => (pg_name (i := 4) sc_chosen.nd rfl (Or.inl rfl))) (fun _ _ _ _ _ => (pts_one (pt_cmpR op_lt (pe_callB oLen rfl T.f_len (by decide +kernel) (pa_cons (pv 4) pa_nil)) (pv 1) (nomark _)))) (fun _ _ _ _ _ => (pe_op op_catA (pv 4) (pe_tup (pa_cons (pv 3) pa_nil))))) pa_nil))))) (pss_one (ps_ret (pe_lc (own := [("row", 4)]) (g := (gName 4)) (tt := (tTest (tOp rEq (tCB (rLenD K) (tCons (tVar 4) tNil)) (tVar 1)))) (by rfl) sc_chosen.nd (pi_list (pv 2)) (blkOk_by (own := [("row", 4)]) (N := N_chosen) (sc := defScope s_chosen) (by decide +kernel)) (fun _ _ _ _ _ => (pg_name (i := 4) sc_chosen.nd rfl (Or.inl rfl))) (fun _ _ _ _ _ => (pts_one (pt_cmpR op_eq (pe_callB oLen rfl T.f_len (by decide +kernel) (pa_cons (pv 4) pa_nil)) (pv 1) (nomark _)))) (fun _ _ _ _ _ => (pv 4))))))), h⟩
def t_least_sets (K : PySem.W.Frag) (p_Needs_of_node p_chosen p_Needs_is_enough : Phi) : TS :=
  (tSeq (tAsg (tLst (tCons (tLst tNil) tNil)) (gName 1)) (tSeq (tFor (iRng1 (tCons (tFld K (tVar 0) "nodes") tNil)) (gName 2) (tSeq (tAsg (tMeth (He.ga K "Needs") "of_node" (toSp p_Needs_of_node) [] E0 (tVar 0) (tCons (tVar 2) tNil)) (gTup K 2 (gCons (gName 3) (gCons (gName 4) gNil)))) (tSeq (tAsg (tCall (toSp p_chosen) [] E0 (tCons (tVar 4) (tCons (tVar 3) tNil))) (gName 5)) (tSeq (tAsg (tLst tNil) (gName 6)) (tSeq (tFor (iList K (tVar 1)) (gName 7) (tDrop (tBM K "list" rExtend (tVar 6) (tCons (tLc (iList K (tVar 5)) (gName 8) tYes (tOp rCat (tVar 7) (tCB (rListOf K) (tCons (tVar 8) tNil))) [8]) tNil)))) (tAsg (tVar 6) (gName 1))))))) (tRet (tLc (iList K (tVar 1)) (gName 7) (tB (tMeth (He.ga K "Needs") "is_enough" (toSp p_Needs_is_enough) [] E0 (tVar 0) (tCons (tVar 7) tNil))) (tCB (rSorted K) (tCons (tVar 7) tNil)) [7]))))
theorem mk_least_sets (T : Top K mg) {φ p_Needs_of_node p_chosen p_Needs_is_enough : Phi} (H_Needs_of_node : FnC P w K mg base 1 (a_Needs_of_node K) ["self", "node"] p_Needs_of_node) (H_chosen : FnC P w K mg base 1 (a_chosen K) ["links", "many"] p_chosen) (H_Needs_is_enough : FnC P w K mg base 1 (a_Needs_is_enough K) ["self", "links"] p_Needs_is_enough)
    (len : ∀ S ds Q, φ S ds Q → ds.length = 1) (h : ∀ S ds Q, φ S ds Q → Sx S (startD N_least_sets.length ds) (t_least_sets K p_Needs_of_node p_chosen p_Needs_is_enough) { nx := fun S' _ => Q S' .non, rt := Q }) : FnC P w K mg base (2) (a_least_sets K) ["needs"] φ := by
  exact okD T.F_least_sets sc_least_sets len fun cdv A outer s H E hr => ⟨t_least_sets K p_Needs_of_node p_chosen p_Needs_is_enough, (pss_cons (ps_set (i := 1) sc_least_sets.nd rfl (Or.inl rfl) (pe_lst (pa_cons (pe_lst pa_nil) pa_nil))) (pss_cons (ps_for PassesOwn.never rfl (pi_range1 rfl T.f_range (pa_cons (pe_fld (f := "nodes") (pv 0) rfl) pa_nil)) (pg_name (i := 2) sc_least_sets.nd rfl (Or.inl rfl)) (pss_cons (ps_asg (pe_meth (pv 0) T.c_Needs T.me_Needs_of_node H_Needs_of_node (hr.mono (by decide)) T.b_Needs_of_node .nil pass0 (pa_cons (pv 2) pa_nil)) (pg_tup (by rfl) (pgs_cons (pg_name (i := 3) sc_least_sets.nd rfl (Or.inl rfl)) (pgs_cons (pg_name (i := 4) sc_least_sets.nd rfl (Or.inl rfl)) pgs_nil)))) (pss_cons (ps_set (i := 5) sc_least_sets.nd rfl (Or.inl rfl) (pe_call H_chosen (hr.mono (by decide)) rfl T.g_chosen T.F_chosen.kp T.b_chosen .nil pass0 (pa_cons (pv 4) (pa_cons (pv 3) pa_nil)))) (pss_cons (ps_set (i := 6) sc_least_sets.nd rfl (Or.inl rfl) (pe_lst pa_nil)) (pss_cons (ps_for PassesOwn.never rfl (pi_list (pv 1)) (pg_name (i := 7) sc_least_sets.nd rfl (Or.inr rfl)) (pss_one (ps_expr (pe_bm PySem.F.plainAttrs_list PySem.F.slot_list_extend PySem.F.type_list_extend mt_extend (pv 6) (pa_cons (pe_lc (own := [("way", 8)]) (g := (gName 8)) (tt := tYes) (by rfl) sc_least_sets.nd (pi_list (pv 5)) (blkOk_by (own := [("way", 8)]) (N := N_least_sets) (sc := defScope s_least_sets) (by decide +kernel)) (fun _ _ _ _ _ => (pg_name (i := 8) sc_least_sets.nd rfl (Or.inl rfl))) (fun _ _ _ _ _ => pts_nil) (fun _ _ _ _ _ => (pe_op op_cat (pv 7) (pe_callTy oListOf rfl T.f_list (by decide +kernel) (pa_cons (pv 8) pa_nil))))) pa_nil))))) (pss_one (ps_set (i := 1) sc_least_sets.nd rfl (Or.inl rfl) (pv 6)))))))) (pss_one (ps_ret (pe_lc (own := [("row", 7)]) (g := (gName 7)) (tt := (tB (tMeth (He.ga K "Needs") "is_enough" (toSp p_Needs_is_enough) [] E0 (tVar 0) (tCons (tVar 7) tNil)))) (by rfl) sc_least_sets.nd (pi_list (pv 1)) (blkOk_by (own := [("row", 7)]) (N := N_least_sets) (sc := defScope s_least_sets) (by decide +kernel)) (fun _ _ _ _ _ => (pg_name (i := 7) sc_least_sets.nd rfl (Or.inl rfl))) (fun _ _ _ _ _ => (pts_one (pt_val (pe_meth (pv 0) T.c_Needs T.me_Needs_is_enough H_Needs_is_enough (hr.mono (by decide)) T.b_Needs_is_enough .nil pass0 (pa_cons (pv 7) pa_nil))))) (fun _ _ _ _ _ => (pe_callB cr_sorted rfl T.f_sorted (by decide +kernel) (pa_cons (pv 7) pa_nil)))))))), h⟩
def t_check_costs (K : PySem.W.Frag) : TS :=
  (tIfS (tOr (tTest (tOp rNe (tCB (rLenD K) (tCons (tVar 1) tNil)) (tCB (rLenD K) (tCons (tFld K (tVar 0) "links") tNil)))) (tNot (tB (tCB (rAll K) (tCons (tLc (iList K (tVar 1)) (gName 2) tYes (tOp (rI0 fun i j => .bl (decide (j ≤ i))) (tVar 2) (tC (.int 0))) [2]) tNil))))) tNever tNext)
theorem mk_check_costs (T : Top K mg) {φ : Phi} 
    (len : ∀ S ds Q, φ S ds Q → ds.length = 2) (h : ∀ S ds Q, φ S ds Q → Sx S (startD N_check_costs.length ds) (t_check_costs K) { nx := fun S' _ => Q S' .non, rt := Q }) : FnC P w K mg base (1) (a_check_costs K) ["network", "costs"] φ := by
  exact okD T.F_check_costs sc_check_costs len fun cdv A outer s H E hr => ⟨t_check_costs K, (pss_one (ps_if (PW.pt (pw_or (pt_cmpR op_ne (pe_callB oLen rfl T.f_len (by decide +kernel) (pa_cons (pv 1) pa_nil)) (pe_callB oLen rfl T.f_len (by decide +kernel) (pa_cons (pe_fld (f := "links") (pv 0) rfl) pa_nil)) (nomark _)) (pw_or1 (pt_not (pt_val (pe_callB (cr_all (by rfl)) rfl T.f_all (by decide +kernel) (pa_cons (pe_lc (own := [("cost", 2)]) (g := (gName 2)) (tt := tYes) (by rfl) sc_check_costs.nd (pi_list (pv 1)) (blkOk_by (own := [("cost", 2)]) (N := N_check_costs) (sc := defScope s_check_costs) (by decide +kernel)) (fun _ _ _ _ _ => (pg_name (i := 2) sc_check_costs.nd rfl (Or.inl rfl))) (fun _ _ _ _ _ => pts_nil) (fun _ _ _ _ _ => (pe_cmpR op_ge (pv 2) pe_int (nomark _)))) pa_nil))))))) (pss_one ps_never) pss_nil)), h⟩
def t_cheapest (K : PySem.W.Frag) (p_check_costs p_Needs_init p_Needs_is_enough p_least_sets : Phi) : TS :=
  (tSeq (tDrop (tCall (toSp p_check_costs) [] E0 (tCons (tVar 0) (tCons (tVar 1) tNil)))) (tSeq (tAsg (tMake (He.ga K "Needs") (toSp p_Needs_init) [] E0 (tCons (tVar 0) tNil)) (gName 2)) (tSeq (tIfS (tNot (tB (tMeth (He.ga K "Needs") "is_enough" (toSp p_Needs_is_enough) [] E0 (tVar 2) (tCons (tFld K (tVar 2) "links") tNil)))) (tRet (tC .non)) tNext) (tSeq (tAsg (tC .non) (gName 3)) (tSeq (tFor (iList K (tCall (toSp p_least_sets) [] E0 (tCons (tVar 2) tNil))) (gName 4) (tSeq (tAsg (tTup (tCons (tCB (rSum K) (tCons (tLc (iList K (tVar 4)) (gName 6) tYes (tOp (rIxL K) (tVar 1) (tVar 6)) [6]) tNil)) (tCons (tCB (rTupOf K) (tCons (tVar 4) tNil)) tNil))) (gName 5)) (tIfS (tOr (tTest (tOp rIsNone (tVar 3) (tC .non))) (tTest (tOp (rLtTold K) (tVar 5) (tVar 3)))) (tAsg (tVar 5) (gName 3)) tNext))) (tRet (tVar 3)))))))
theorem mk_cheapest (T : Top K mg) {φ p_check_costs p_Needs_init p_Needs_is_enough p_least_sets : Phi} (H_check_costs : FnC P w K mg base 1 (a_check_costs K) ["network", "costs"] p_check_costs) (H_Needs_init : FnC P w K mg base 9 (a_Needs_init K) ["self", "network"] p_Needs_init) (H_Needs_is_enough : FnC P w K mg base 1 (a_Needs_is_enough K) ["self", "links"] p_Needs_is_enough) (H_least_sets : FnC P w K mg base 2 (a_least_sets K) ["needs"] p_least_sets)
    (len : ∀ S ds Q, φ S ds Q → ds.length = 2) (h : ∀ S ds Q, φ S ds Q → Sx S (startD N_cheapest.length ds) (t_cheapest K p_check_costs p_Needs_init p_Needs_is_enough p_least_sets) { nx := fun S' _ => Q S' .non, rt := Q }) : FnC P w K mg base (11) (a_cheapest K) ["network", "costs"] φ := by
  exact okD T.F_cheapest sc_cheapest len fun cdv A outer s H E hr => ⟨t_cheapest K p_check_costs p_Needs_init p_Needs_is_enough p_least_sets, (pss_cons (ps_expr (pe_call H_check_costs (hr.mono (by decide)) rfl T.g_check_costs T.F_check_costs.kp T.b_check_costs .nil pass0 (pa_cons (pv 0) (pa_cons (pv 1) pa_nil)))) (pss_cons (ps_set (i := 2) sc_cheapest.nd rfl (Or.inl rfl) (pe_make T.mk_Needs H_Needs_init (hr.mono (by decide)) rfl T.g_Needs T.b_Needs_init .nil pass0 (pa_cons (pv 0) pa_nil))) (pss_cons (ps_if (pt_not (pt_val (pe_meth (pv 2) T.c_Needs T.me_Needs_is_enough H_Needs_is_enough (hr.mono (by decide)) T.b_Needs_is_enough .nil pass0 (pa_cons (pe_fld (f := "links") (pv 2) rfl) pa_nil)))) (pss_one (ps_ret pe_non)) pss_nil) (pss_cons (ps_set (i := 3) sc_cheapest.nd rfl (Or.inl rfl) pe_non) (pss_cons (ps_for PassesOwn.never rfl (pi_list (pe_call H_least_sets (hr.mono (by decide)) rfl T.g_least_sets T.F_least_sets.kp T.b_least_sets .nil pass0 (pa_cons (pv 2) pa_nil))) (pg_name (i := 4) sc_cheapest.nd rfl (Or.inl rfl)) (pss_cons (ps_set (i := 5) sc_cheapest.nd rfl (Or.inl rfl) (pe_tup (pa_cons (pe_callB (cr_sum (by rfl)) rfl T.f_sum (by decide +kernel) (pa_cons (pe_lc (own := [("link", 6)]) (g := (gName 6)) (tt := tYes) (by rfl) sc_cheapest.nd (pi_list (pv 4)) (blkOk_by (own := [("link", 6)]) (N := N_cheapest) (sc := defScope s_cheapest) (by decide +kernel)) (fun _ _ _ _ _ => (pg_name (i := 6) sc_cheapest.nd rfl (Or.inl rfl))) (fun _ _ _ _ _ => pts_nil) (fun _ _ _ _ _ => (pe_ix ix_list (pv 1) (pv 6) (fun _ _ => rfl)))) pa_nil)) (pa_cons (pe_callTy oTupOf rfl T.f_tuple (by decide +kernel) (pa_cons (pv 4) pa_nil)) pa_nil)))) (pss_one (ps_if (PW.pt (pw_or (pt_cmpR oIsN (pv 3) pe_non (nomark _)) (pw_or1 (pt_cmpR (oLtTold (hu64_of hr)) (pv 5) (pv 3) (nomark _))))) (pss_one (ps_set (i := 3) sc_cheapest.nd rfl (Or.inl rfl) (pv 5))) pss_nil)))) (pss_one (ps_ret (pv 3)))))))), h⟩
def t_checked_weights (K : PySem.W.Frag) (p_set_mask p_State_init p_State_sets : Phi) : TS :=
  (tSeq (tAsg (tLc (iList K (tVar 1)) (gTup K 2 (gCons (gName 8) (gCons (gName 9) gNil))) tYes (tCall (toSp p_set_mask) [] E0 (tCons (tVar 0) (tCons (tVar 8) tNil))) [8, 9]) (gName 2)) (tSeq (tAsg (tMeth (He.ga K "State") "sets" (toSp p_State_sets) [] E0 (tMake (He.ga K "State") (toSp p_State_init) [] E0 (tCons (tVar 0) tNil)) tNil) (gName 3)) (tSeq (tAsg (tUn (rU fun i => .int (-i)) (tC (.int 1))) (gName 4)) (tSeq (tFor (iEnum K (tCons (tVar 1) tNil)) (gTup K 2 (gCons (gName 5) (gCons (gName 6) gNil))) (tSeq (tAsg (tBM K "list" (rIndex K) (tVar 3) (tCons (tOp (rIxL K) (tVar 2) (tVar 5)) tNil)) (gName 7)) (tSeq (tIfS (tOr (tTest (tOp (rI0 fun i j => .bl (decide (i ≤ j))) (tVar 7) (tVar 4))) (tTest (tOp (rI0 fun i j => .bl (decide (i < j))) (tOp (rIxT K) (tVar 6) (tC (.int 1))) (tC (.int 1))))) tNever tNext) (tAsg (tVar 7) (gName 4))))) (tRet (tLc (iEnum K (tCons (tVar 1) tNil)) (gTup K 2 (gCons (gName 5) (gCons (gName 6) gNil))) tYes (tTup (tCons (tOp (rIxL K) (tVar 2) (tVar 5)) (tCons (tOp (rIxT K) (tVar 6) (tC (.int 1))) tNil))) [5, 6]))))))
theorem mk_checked_weights (T : Top K mg) {φ p_set_mask p_State_init p_State_sets : Phi} (H_set_mask : FnC P w K mg base 2 (a_set_mask K) ["network", "nodes"] p_set_mask) (H_State_init : FnC P w K mg base 5 (a_State_init K) ["self", "network"] p_State_init) (H_State_sets : FnC P w K mg base 1 (a_State_sets K) ["self"] p_State_sets)
    (len : ∀ S ds Q, φ S ds Q → ds.length = 2) (h : ∀ S ds Q, φ S ds Q → Sx S (startD N_checked_weights.length ds) (t_checked_weights K p_set_mask p_State_init p_State_sets) { nx := fun S' _ => Q S' .non, rt := Q }) : FnC P w K mg base (7) (a_checked_weights K) ["network", "weights"] φ := by
  exact okD T.F_checked_weights sc_checked_weights len fun cdv A outer s H E hr => ⟨t_checked_weights K p_set_mask p_State_init p_State_sets, (pss_cons (ps_set (i := 2) sc_checked_weights.nd rfl (Or.inr rfl) (pe_lc (own := [("nodes", 8), ("weight", 9)]) (g := (gTup K 2 (gCons (gName 8) (gCons (gName 9) gNil)))) (tt := tYes) (by rfl) sc_checked_weights.nd (pi_list (pv 1)) (blkOk_by (own := [("nodes", 8), ("weight", 9)]) (N := N_checked_weights) (sc := defScope s_checked_weights) (by decide +kernel)) (fun _ _ _ _ _ => (pg_tup (by rfl) (pgs_cons (pg_name (i := 8) sc_checked_weights.nd rfl (Or.inl rfl)) (pgs_cons (pg_name (i := 9) sc_checked_weights.nd rfl (Or.inl rfl)) pgs_nil)))) (fun _ _ _ _ _ => pts_nil) (fun _ _ _ _ _ => (pe_call H_set_mask (hr.mono (by decide)) rfl T.g_set_mask T.F_set_mask.kp T.b_set_mask .nil pass0 (pa_cons (pv 0) (pa_cons (pv 8) pa_nil)))))) (pss_cons (ps_set (i := 3) sc_checked_weights.nd rfl (Or.inl rfl) (pe_meth0 (pe_make T.mk_State H_State_init (hr.mono (by decide)) rfl T.g_State T.b_State_init .nil pass0 (pa_cons (pv 0) pa_nil)) T.c_State T.me_State_sets H_State_sets (hr.mono (by decide)) T.b_State_sets .nil pass0)) (pss_cons (ps_set (i := 4) sc_checked_weights.nd rfl (Or.inl rfl) (pe_un un_neg pe_int)) (pss_cons (ps_for PassesOwn.never rfl (pi_enum rfl T.f_enumerate (pa_cons (pv 1) pa_nil)) (pg_tup (by rfl) (pgs_cons (pg_name (i := 5) sc_checked_weights.nd rfl (Or.inl rfl)) (pgs_cons (pg_name (i := 6) sc_checked_weights.nd rfl (Or.inl rfl)) pgs_nil))) (pss_cons (ps_set (i := 7) sc_checked_weights.nd rfl (Or.inl rfl) (pe_bm PySem.F.plainAttrs_list PySem.F.slot_list_index PySem.F.type_list_index mt_index (pv 3) (pa_cons (pe_ix ix_list (pv 2) (pv 5) (fun _ _ => rfl)) pa_nil))) (pss_cons (ps_if (PW.pt (pw_or (pt_cmpR op_le (pv 7) (pv 4) (nomark _)) (pw_or1 (pt_cmpR op_lt (pe_ix ix_tup (pv 6) pe_int (fun _ _ => rfl)) pe_int (nomark _))))) (pss_one ps_never) pss_nil) (pss_one (ps_set (i := 4) sc_checked_weights.nd rfl (Or.inl rfl) (pv 7)))))) (pss_one (ps_ret (pe_lc (own := [("number", 5), ("row", 6)]) (g := (gTup K 2 (gCons (gName 5) (gCons (gName 6) gNil)))) (tt := tYes) (by rfl) sc_checked_weights.nd (pi_enum rfl T.f_enumerate (pa_cons (pv 1) pa_nil)) (blkOk_by (own := [("number", 5), ("row", 6)]) (N := N_checked_weights) (sc := defScope s_checked_weights) (by decide +kernel)) (fun _ _ _ _ _ => (pg_tup (by rfl) (pgs_cons (pg_name (i := 5) sc_checked_weights.nd rfl (Or.inl rfl)) (pgs_cons (pg_name (i := 6) sc_checked_weights.nd rfl (Or.inl rfl)) pgs_nil)))) (fun _ _ _ _ _ => pts_nil) (fun _ _ _ _ _ => (pe_tup (pa_cons (pe_ix ix_list (pv 2) (pv 5) (fun _ _ => rfl)) (pa_cons (pe_ix ix_tup (pv 6) pe_int (fun _ _ => rfl)) pa_nil))))))))))), h⟩
def t_bound (K : PySem.W.Frag) (p_check_costs p_checked_weights p_State_init p_State_demand p_State_entering : Phi) : TS :=
  (tSeq (tDrop (tCall (toSp p_check_costs) [] E0 (tCons (tVar 0) (tCons (tVar 1) tNil)))) (tSeq (tAsg (tCall (toSp p_checked_weights) [] E0 (tCons (tVar 0) (tCons (tVar 2) tNil))) (gName 3)) (tSeq (tAsg (tMake (He.ga K "State") (toSp p_State_init) [] E0 (tCons (tVar 0) tNil)) (gName 4)) (tSeq (tAsg (tCB (rSum K) (tCons (tLc (iList K (tVar 3)) (gTup K 2 (gCons (gName 5) (gCons (gName 6) gNil))) tYes (tOp (rI CMul fun i j => .int (i * j)) (tMeth (He.ga K "State") "demand" (toSp p_State_demand) [] E0 (tVar 4) (tCons (tVar 5) tNil)) (tVar 6)) [5, 6]) tNil)) (gName 7)) (tSeq (tAsg (tOp rRep (tLst (tCons (tC (.int 0)) tNil)) (tCB (rLenD K) (tCons (tFld K (tVar 0) "links") tNil))) (gName 8)) (tSeq (tFor (iList K (tVar 3)) (gTup K 2 (gCons (gName 5) (gCons (gName 6) gNil))) (tFor (iList K (tMeth (He.ga K "State") "entering" (toSp p_State_entering) [] E0 (tVar 4) (tCons (tVar 5) tNil))) (gName 9) (tAugS (tVar 8) (tVar 9) (tVar 6) (rGetL K) (ipI fun i j => i + j) rSetL))) (tRet (tOp (rI0 fun i j => .int (i - j)) (tVar 7) (tCB (rSum K) (tCons (tLc (iZip K (tCons (tVar 8) (tCons (tVar 1) tNil))) (gTup K 2 (gCons (gName 10) (gCons (gName 11) gNil))) tYes (tCB (rMax2) (tCons (tC (.int 0)) (tCons (tOp (rI0 fun i j => .int (i - j)) (tVar 10) (tVar 11)) tNil))) [10, 11]) tNil))))))))))
theorem mk_bound (T : Top K mg) {φ p_check_costs p_checked_weights p_State_init p_State_demand p_State_entering : Phi} (H_check_costs : FnC P w K mg base 1 (a_check_costs K) ["network", "costs"] p_check_costs) (H_checked_weights : FnC P w K mg base 7 (a_checked_weights K) ["network", "weights"] p_checked_weights) (H_State_init : FnC P w K mg base 5 (a_State_init K) ["self", "network"] p_State_init) (H_State_demand : FnC P w K mg base 8 (a_State_demand K) ["self", "one"] p_State_demand) (H_State_entering : FnC P w K mg base 1 (a_State_entering K) ["self", "one"] p_State_entering)
    (len : ∀ S ds Q, φ S ds Q → ds.length = 3) (h : ∀ S ds Q, φ S ds Q → Sx S (startD N_bound.length ds) (t_bound K p_check_costs p_checked_weights p_State_init p_State_demand p_State_entering) { nx := fun S' _ => Q S' .non, rt := Q }) : FnC P w K mg base (9) (a_bound K) ["network", "costs", "weights"] φ := by
  exact okD T.F_bound sc_bound len fun cdv A outer s H E hr => ⟨t_bound K p_check_costs p_checked_weights p_State_init p_State_demand p_State_entering, (pss_cons (ps_expr (pe_call H_check_costs (hr.mono (by decide)) rfl T.g_check_costs T.F_check_costs.kp T.b_check_costs .nil pass0 (pa_cons (pv 0) (pa_cons (pv 1) pa_nil)))) (pss_cons (ps_set (i := 3) sc_bound.nd rfl (Or.inl rfl) (pe_call H_checked_weights (hr.mono (by decide)) rfl T.g_checked_weights T.F_checked_weights.kp T.b_checked_weights .nil pass0 (pa_cons (pv 0) (pa_cons (pv 2) pa_nil)))) (pss_cons (ps_set (i := 4) sc_bound.nd rfl (Or.inr rfl) (pe_make T.mk_State H_State_init (hr.mono (by decide)) rfl T.g_State T.b_State_init .nil pass0 (pa_cons (pv 0) pa_nil))) (pss_cons (ps_set (i := 7) sc_bound.nd rfl (Or.inl rfl) (pe_callB (cr_sum (by rfl)) rfl T.f_sum (by decide +kernel) (pa_cons (pe_lc (own := [("one", 5), ("weight", 6)]) (g := (gTup K 2 (gCons (gName 5) (gCons (gName 6) gNil)))) (tt := tYes) (by rfl) sc_bound.nd (pi_list (pv 3)) (blkOk_by (own := [("one", 5), ("weight", 6)]) (N := N_bound) (sc := defScope s_bound) (by decide +kernel)) (fun _ _ _ _ _ => (pg_tup (by rfl) (pgs_cons (pg_name (i := 5) sc_bound.nd rfl (Or.inl rfl)) (pgs_cons (pg_name (i := 6) sc_bound.nd rfl (Or.inl rfl)) pgs_nil)))) (fun _ _ _ _ _ => pts_nil) (fun _ _ _ _ _ => (pe_op op_mul (pe_meth (pv 4) T.c_State T.me_State_demand H_State_demand (hr.mono (by decide)) T.b_State_demand .nil pass0 (pa_cons (pv 5) pa_nil)) (pv 6)))) pa_nil))) (pss_cons (ps_set (i := 8) sc_bound.nd rfl (Or.inl rfl) (pe_op op_rep (pe_lst (pa_cons pe_int pa_nil)) (pe_callB oLen rfl T.f_len (by decide +kernel) (pa_cons (pe_fld (f := "links") (pv 0) rfl) pa_nil)))) (pss_cons (ps_for PassesOwn.never rfl (pi_list (pv 3)) (pg_tup (by rfl) (pgs_cons (pg_name (i := 5) sc_bound.nd rfl (Or.inl rfl)) (pgs_cons (pg_name (i := 6) sc_bound.nd rfl (Or.inl rfl)) pgs_nil))) (pss_one (ps_for PassesOwn.never rfl (pi_list (pe_meth (pv 4) T.c_State T.me_State_entering H_State_entering (hr.mono (by decide)) T.b_State_entering .nil pass0 (pa_cons (pv 5) pa_nil))) (pg_name (i := 9) sc_bound.nd rfl (Or.inl rfl)) (pss_one (ps_augS (pv 8) (pv 9) oGetL (pv 6) ip_add set_list))))) (pss_one (ps_ret (pe_op op_sub (pv 7) (pe_callB (cr_sum (by rfl)) rfl T.f_sum (by decide +kernel) (pa_cons (pe_lc (own := [("load", 10), ("cost", 11)]) (g := (gTup K 2 (gCons (gName 10) (gCons (gName 11) gNil)))) (tt := tYes) (by rfl) sc_bound.nd (pi_zip rfl T.f_zip (pa_cons (pv 8) (pa_cons (pv 1) pa_nil))) (blkOk_by (own := [("load", 10), ("cost", 11)]) (N := N_bound) (sc := defScope s_bound) (by decide +kernel)) (fun _ _ _ _ _ => (pg_tup (by rfl) (pgs_cons (pg_name (i := 10) sc_bound.nd rfl (Or.inl rfl)) (pgs_cons (pg_name (i := 11) sc_bound.nd rfl (Or.inl rfl)) pgs_nil)))) (fun _ _ _ _ _ => pts_nil) (fun _ _ _ _ _ => (pe_callB (oMax2 (by rfl)) rfl T.f_max (by decide +kernel) (pa_cons pe_int (pa_cons (pe_op op_sub (pv 10) (pv 11)) pa_nil))))) pa_nil))))))))))), h⟩
def t_schedule_from (K : PySem.W.Frag) (p_State_deficient p_State_is_done p_State_following p_State_after : Phi) : TS :=
  (tSeq (tIfS (tTruth K (tMeth (He.ga K "State") "deficient" (toSp p_State_deficient) [] E0 (tVar 0) tNil)) (tRet (tC .non)) tNext) (tSeq (tAsg (tLst tNil) (gName 1)) (tSeq (tWhile (tNot (tB (tMeth (He.ga K "State") "is_done" (toSp p_State_is_done) [] E0 (tVar 0) tNil))) (tSeq (tAsg (tOp (rIxL K) (tMeth (He.ga K "State") "following" (toSp p_State_following) [] E0 (tVar 0) tNil) (tC (.int 0))) (gName 2)) (tSeq (tDrop (tBM K "list" rAppend (tVar 1) (tCons (tVar 2) tNil))) (tAsg (tMeth (He.ga K "State") "after" (toSp p_State_after) [] E0 (tVar 0) (tCons (tVar 2) tNil)) (gName 0))))) (tRet (tCB (rTupOf K) (tCons (tVar 1) tNil))))))
theorem mk_schedule_from (T : Top K mg) {φ p_State_deficient p_State_is_done p_State_following p_State_after : Phi} (H_State_deficient : FnC P w K mg base 10 (a_State_deficient K) ["self"] p_State_deficient) (H_State_is_done : FnC P w K mg base 9 (a_State_is_done K) ["self"] p_State_is_done) (H_State_following : FnC P w K mg base 13 (a_State_following K) ["self"] p_State_following) (H_State_after : FnC P w K mg base 8 (a_State_after K) ["self", "transmission"] p_State_after)
    (len : ∀ S ds Q, φ S ds Q → ds.length = 1) (h : ∀ S ds Q, φ S ds Q → Sx S (startD N_schedule_from.length ds) (t_schedule_from K p_State_deficient p_State_is_done p_State_following p_State_after) { nx := fun S' _ => Q S' .non, rt := Q }) : FnC P w K mg base (14) (a_schedule_from K) ["state"] φ := by
  exact okD T.F_schedule_from sc_schedule_from len fun cdv A outer s H E hr => ⟨t_schedule_from K p_State_deficient p_State_is_done p_State_following p_State_after, (pss_cons (ps_if (oTruth (pe_meth0 (pv 0) T.c_State T.me_State_deficient H_State_deficient (hr.mono (by decide)) T.b_State_deficient .nil pass0)) (pss_one (ps_ret pe_non)) pss_nil) (pss_cons (ps_set (i := 1) sc_schedule_from.nd rfl (Or.inl rfl) (pe_lst pa_nil)) (pss_cons (ps_while PassesOwn.never (pt_not (pt_val (pe_meth0 (pv 0) T.c_State T.me_State_is_done H_State_is_done (hr.mono (by decide)) T.b_State_is_done .nil pass0))) (pss_cons (ps_set (i := 2) sc_schedule_from.nd rfl (Or.inl rfl) (pe_ix ix_list (pe_meth0 (pv 0) T.c_State T.me_State_following H_State_following (hr.mono (by decide)) T.b_State_following .nil pass0) pe_int (fun _ _ => rfl))) (pss_cons (ps_expr (pe_bm PySem.F.plainAttrs_list PySem.F.slot_list_append PySem.F.type_list_append mt_append (pv 1) (pa_cons (pv 2) pa_nil))) (pss_one (ps_set (i := 0) sc_schedule_from.nd rfl (Or.inl rfl) (pe_meth (pv 0) T.c_State T.me_State_after H_State_after (hr.mono (by decide)) T.b_State_after .nil pass0 (pa_cons (pv 2) pa_nil))))))) (pss_one (ps_ret (pe_callTy oTupOf rfl T.f_tuple (by decide +kernel) (pa_cons (pv 1) pa_nil))))))), h⟩
def t_first_schedule (K : PySem.W.Frag) (p_State_init p_schedule_from : Phi) : TS :=
  (tRet (tCall (toSp p_schedule_from) [] E0 (tCons (tMake (He.ga K "State") (toSp p_State_init) [] E0 (tCons (tVar 0) tNil)) tNil)))
theorem mk_first_schedule (T : Top K mg) {φ p_State_init p_schedule_from : Phi} (H_State_init : FnC P w K mg base 5 (a_State_init K) ["self", "network"] p_State_init) (H_schedule_from : FnC P w K mg base 14 (a_schedule_from K) ["state"] p_schedule_from)
    (len : ∀ S ds Q, φ S ds Q → ds.length = 1) (h : ∀ S ds Q, φ S ds Q → Sx S (startD N_first_schedule.length ds) (t_first_schedule K p_State_init p_schedule_from) { nx := fun S' _ => Q S' .non, rt := Q }) : FnC P w K mg base (15) (a_first_schedule K) ["network"] φ := by
  exact okD T.F_first_schedule sc_first_schedule len fun cdv A outer s H E hr => ⟨t_first_schedule K p_State_init p_schedule_from, (pss_one (ps_ret (pe_call H_schedule_from (hr.mono (by decide)) rfl T.g_schedule_from T.F_schedule_from.kp T.b_schedule_from .nil pass0 (pa_cons (pe_make T.mk_State H_State_init (hr.mono (by decide)) rfl T.g_State T.b_State_init .nil pass0 (pa_cons (pv 0) pa_nil)) pa_nil)))), h⟩
def t_checked (K : PySem.W.Frag) (p_check_transmission : Phi) : TS :=
  (tSeq (tAsg (tLc (iTup K (tVar 1)) (gName 2) tYes (tCB (rTupOf K) (tCons (tVar 2) tNil)) [2]) (gName 3)) (tSeq (tFor (iList K (tVar 3)) (gName 2) (tDrop (tCall (toSp p_check_transmission) [] E0 (tCons (tVar 0) (tCons (tVar 2) tNil))))) (tRet (tVar 3))))
theorem mk_checked (T : Top K mg) {φ p_check_transmission : Phi} (H_check_transmission : FnC P w K mg base 3 (a_check_transmission K) ["network", "transmission"] p_check_transmission)
    (len : ∀ S ds Q, φ S ds Q → ds.length = 2) (h : ∀ S ds Q, φ S ds Q → Sx S (startD N_checked.length ds) (t_checked K p_check_transmission) { nx := fun S' _ => Q S' .non, rt := Q }) : FnC P w K mg base (4) (a_checked K) ["network", "transmissions"] φ := by
  exact okD T.F_checked sc_checked len fun cdv A outer s H E hr => ⟨t_checked K p_check_transmission, (pss_cons (ps_setLc (i := 3) (own := [("row", 2)]) (g := (gName 2)) (tt := tYes) (by rfl) sc_checked.nd rfl rfl (sw_true rfl rfl rfl (by decide +kernel)) (pi_tup (pv 1)) (blkOk_by (own := [("row", 2)]) (N := N_checked) (sc := defScope s_checked) (by decide +kernel)) (fun _ _ _ _ _ => (pg_name (i := 2) sc_checked.nd rfl (Or.inl rfl))) (fun _ _ _ _ _ => pts_nil) (fun _ _ _ _ _ => (pe_callTy oTupOf rfl T.f_tuple (by decide +kernel) (pa_cons (pv 2) pa_nil)))) (pss_cons (ps_for PassesOwn.never rfl (pi_list (pv 3)) (pg_name (i := 2) sc_checked.nd rfl (Or.inl rfl)) (pss_one (ps_expr (pe_call H_check_transmission (hr.mono (by decide)) rfl T.g_check_transmission T.F_check_transmission.kp T.b_check_transmission .nil pass0 (pa_cons (pv 0) (pa_cons (pv 2) pa_nil)))))) (pss_one (ps_ret (pv 3))))), h⟩
def t_last_state (K : PySem.W.Frag) (p_State_init p_checked p_State_why_not p_State_after : Phi) : TS :=
  (tSeq (tAsg (tMake (He.ga K "State") (toSp p_State_init) [] E0 (tCons (tVar 0) tNil)) (gName 2)) (tSeq (tFor (iList K (tCall (toSp p_checked) [] E0 (tCons (tVar 0) (tCons (tVar 1) tNil)))) (gName 3) (tSeq (tIfS (tTest (tOp rNotNone (tMeth (He.ga K "State") "why_not" (toSp p_State_why_not) [] E0 (tVar 2) (tCons (tVar 3) tNil)) (tC .non))) (tRet (tC .non)) tNext) (tAsg (tMeth (He.ga K "State") "after" (toSp p_State_after) [] E0 (tVar 2) (tCons (tVar 3) tNil)) (gName 2)))) (tRet (tVar 2))))
theorem mk_last_state (T : Top K mg) {φ p_State_init p_checked p_State_why_not p_State_after : Phi} (H_State_init : FnC P w K mg base 5 (a_State_init K) ["self", "network"] p_State_init) (H_checked : FnC P w K mg base 4 (a_checked K) ["network", "transmissions"] p_checked) (H_State_why_not : FnC P w K mg base 7 (a_State_why_not K) ["self", "transmission"] p_State_why_not) (H_State_after : FnC P w K mg base 8 (a_State_after K) ["self", "transmission"] p_State_after)
    (len : ∀ S ds Q, φ S ds Q → ds.length = 2) (h : ∀ S ds Q, φ S ds Q → Sx S (startD N_last_state.length ds) (t_last_state K p_State_init p_checked p_State_why_not p_State_after) { nx := fun S' _ => Q S' .non, rt := Q }) : FnC P w K mg base (9) (a_last_state K) ["network", "transmissions"] φ := by
  exact okD T.F_last_state sc_last_state len fun cdv A outer s H E hr => ⟨t_last_state K p_State_init p_checked p_State_why_not p_State_after, (pss_cons (ps_set (i := 2) sc_last_state.nd rfl (Or.inl rfl) (pe_make T.mk_State H_State_init (hr.mono (by decide)) rfl T.g_State T.b_State_init .nil pass0 (pa_cons (pv 0) pa_nil))) (pss_cons (ps_for PassesOwn.never rfl (pi_list (pe_call H_checked (hr.mono (by decide)) rfl T.g_checked T.F_checked.kp T.b_checked .nil pass0 (pa_cons (pv 0) (pa_cons (pv 1) pa_nil)))) (pg_name (i := 3) sc_last_state.nd rfl (Or.inl rfl)) (pss_cons (ps_if (pt_cmpR oNotN (pe_meth (pv 2) T.c_State T.me_State_why_not H_State_why_not (hr.mono (by decide)) T.b_State_why_not .nil pass0 (pa_cons (pv 3) pa_nil)) pe_non (nomark _)) (pss_one (ps_ret pe_non)) pss_nil) (pss_one (ps_set (i := 2) sc_last_state.nd rfl (Or.inl rfl) (pe_meth (pv 2) T.c_State T.me_State_after H_State_after (hr.mono (by decide)) T.b_State_after .nil pass0 (pa_cons (pv 3) pa_nil)))))) (pss_one (ps_ret (pv 2))))), h⟩
def t_is_complete (K : PySem.W.Frag) (p_last_state p_State_is_done : Phi) : TS :=
  (tSeq (tAsg (tCall (toSp p_last_state) [] E0 (tCons (tVar 0) (tCons (tVar 1) tNil))) (gName 2)) (tRet (tAndV (tOp rNotNone (tVar 2) (tC .non)) (tMeth (He.ga K "State") "is_done" (toSp p_State_is_done) [] E0 (tVar 2) tNil))))
theorem mk_is_complete (T : Top K mg) {φ p_last_state p_State_is_done : Phi} (H_last_state : FnC P w K mg base 9 (a_last_state K) ["network", "transmissions"] p_last_state) (H_State_is_done : FnC P w K mg base 9 (a_State_is_done K) ["self"] p_State_is_done)
    (len : ∀ S ds Q, φ S ds Q → ds.length = 2) (h : ∀ S ds Q, φ S ds Q → Sx S (startD N_is_complete.length ds) (t_is_complete K p_last_state p_State_is_done) { nx := fun S' _ => Q S' .non, rt := Q }) : FnC P w K mg base (10) (a_is_complete K) ["network", "transmissions"] φ := by
  exact okD T.F_is_complete sc_is_complete len fun cdv A outer s H E hr => ⟨t_is_complete K p_last_state p_State_is_done, (pss_cons (ps_set (i := 2) sc_is_complete.nd rfl (Or.inl rfl) (pe_call H_last_state (hr.mono (by decide)) rfl T.g_last_state T.F_last_state.kp T.b_last_state .nil pass0 (pa_cons (pv 0) (pa_cons (pv 1) pa_nil)))) (pss_one (ps_ret (pe_and (pe_cmpR oNotN (pv 2) pe_non (nomark _)) (pe_one (pe_meth0 (pv 2) T.c_State T.me_State_is_done H_State_is_done (hr.mono (by decide)) T.b_State_is_done .nil pass0)))))), h⟩
def t_law_pool (K : PySem.W.Frag) : TS :=
  (tRet (tLst (tCons (tLc (iList K (tVar 0)) (gName 1) tYes (tIf (tTest (tOp (rI0 fun i j => .bl (decide (j ≤ i))) (tVar 1) (tC (.int 0)))) (tOp (rI CMul fun i j => .int (i * j)) (tC (.int 2)) (tVar 1)) (tOp (rI0 fun i j => .int (i - j)) (tOp (rI CMul fun i j => .int (i * j)) (tUn (rU fun i => .int (-i)) (tC (.int 2))) (tVar 1)) (tC (.int 1)))) [1]) (tCons (tC (.int 0)) (tCons (tC (.int 0)) (tCons (tC (.int 17)) tNil))))))
theorem mk_law_pool (T : Top K mg) {φ : Phi} 
    (len : ∀ S ds Q, φ S ds Q → ds.length = 1) (h : ∀ S ds Q, φ S ds Q → Sx S (startD N_law_pool.length ds) (t_law_pool K) { nx := fun S' _ => Q S' .non, rt := Q }) : FnC P w K mg base (1) (a_law_pool K) ["_law_script"] φ := by
  exact okD T.F_law_pool sc_law_pool len fun cdv A outer s H E hr => ⟨t_law_pool K, (pss_one (ps_ret (pe_lst (pa_cons (pe_lc (own := [("_law_cell", 1)]) (g := (gName 1)) (tt := tYes) (by rfl) sc_law_pool.nd (pi_list (pv 0)) (blkOk_by (own := [("_law_cell", 1)]) (N := N_law_pool) (sc := defScope s_law_pool) (by decide +kernel)) (fun _ _ _ _ _ => (pg_name (i := 1) sc_law_pool.nd rfl (Or.inl rfl))) (fun _ _ _ _ _ => pts_nil) (fun _ _ _ _ _ => (pe_ifExp (pt_cmpR op_ge (pv 1) pe_int (nomark _)) (pe_op op_mul pe_int (pv 1)) (pe_op op_sub (pe_op op_mul (pe_un un_neg pe_int) (pv 1)) pe_int)))) (pa_cons pe_int (pa_cons pe_int (pa_cons pe_int pa_nil))))))), h⟩
def t_law_take (K : PySem.W.Frag) (p_law_take : Phi) : TS :=
  (tSeq (tIfS (tTest (tOp (rI0 fun i j => .bl (decide (j < i))) (tOp (rIxL K) (tVar 0) (tC (.int 2))) (tC (.int 0)))) (tSeq (tAsg (tOp (rI (fun _ j => j ≠ 0) fun i j => .int (i.fmod j)) (tCB (rInt1) (tCons (tOp (rIxL K) (tVar 0) (tC (.int 2))) tNil)) (tVar 1)) (gName 2)) (tSeq (tAsg (tOp (rI CDivN fun i j => .int (i.fdiv j)) (tOp (rIxL K) (tVar 0) (tC (.int 2))) (tVar 1)) (gSub (tVar 0) (tC (.int 2)) rSetL)) (tRet (tVar 2)))) tNext) (tSeq (tAsg (tC (.int 0)) (gName 3)) (tSeq (tIfS (tTest (tOp (rI0 fun i j => .bl (decide (i < j))) (tOp (rIxL K) (tVar 0) (tC (.int 1))) (tCB (rLenD K) (tCons (tOp (rIxL K) (tVar 0) (tC (.int 0))) tNil)))) (tAsg (tOp (rIxL K) (tOp (rIxL K) (tVar 0) (tC (.int 0))) (tOp (rIxL K) (tVar 0) (tC (.int 1)))) (gName 3)) tNext) (tSeq (tAsg (tOp (rI0 fun i j => .int (i + j)) (tOp (rIxL K) (tVar 0) (tC (.int 1))) (tC (.int 1))) (gSub (tVar 0) (tC (.int 1)) rSetL)) (tSeq (tIfS (tTest (tOp (rI0 fun i j => .bl (decide (j ≤ i))) (tVar 3) (tOp (rI CPow fun i j => .int (i ^ j.toNat)) (tC (.int 10)) (tC (.int 18))))) (tSeq (tAsg (tOp (rI CDivN fun i j => .int (i.fdiv j)) (tVar 3) (tC (.int 2))) (gSub (tVar 0) (tC (.int 2)) rSetL)) (tRet (tCall (toSp p_law_take) [] E0 (tCons (tVar 0) (tCons (tVar 1) tNil))))) tNext) (tSeq (tAsg (tOp (rI (fun _ j => j ≠ 0) fun i j => .int (i.fmod j)) (tCB (rInt1) (tCons (tOp (rI0 fun i j => .int (i + j)) (tOp (rI0 fun i j => .int (i + j)) (tOp (rI CMul fun i j => .int (i * j)) (tOp (rIxL K) (tVar 0) (tC (.int 3))) (tC (.int 48271))) (tOp (rI CMul fun i j => .int (i * j)) (tVar 3) (tC (.int 69621)))) (tOp (rI CMul fun i j => .int (i * j)) (tOp (rIxL K) (tVar 0) (tC (.int 1))) (tC (.int 613)))) tNil)) (tC (.int 2147483647))) (gSub (tVar 0) (tC (.int 3)) rSetL)) (tSeq (tAsg (tOp (rI (fun _ j => j ≠ 0) fun i j => .int (i.fmod j)) (tCB (rInt1) (tCons (tOp (rI0 fun i j => .int (i + j)) (tOp (rI0 fun i j => .int (i + j)) (tOp (rI CMul fun i j => .int (i * j)) (tOp (rIxL K) (tVar 0) (tC (.int 3))) (tOp (rIxL K) (tVar 0) (tC (.int 3)))) (tOp (rI CMul fun i j => .int (i * j)) (tOp (rIxL K) (tVar 0) (tC (.int 3))) (tC (.int 7919)))) (tC (.int 104729))) tNil)) (tC (.int 1000000007))) (gName 4)) (tRet (tOp (rI (fun _ j => j ≠ 0) fun i j => .int (i.fmod j)) (tCB (rInt1) (tCons (tOp (rI CDivN fun i j => .int (i.fdiv j)) (tVar 4) (tC (.int 3))) tNil)) (tVar 1))))))))))
theorem mk_law_take {j : Nat} (T : Top K mg) {φ p_law_take : Phi} (H_law_take : FnC P w K mg base j (a_law_take K) ["_law_pool_here", "_law_many"] p_law_take)
    (len : ∀ S ds Q, φ S ds Q → ds.length = 2) (h : ∀ S ds Q, φ S ds Q → Sx S (startD N_law_take.length ds) (t_law_take K p_law_take) { nx := fun S' _ => Q S' .non, rt := Q }) : FnC P w K mg base (j + 1) (a_law_take K) ["_law_pool_here", "_law_many"] φ := by
  exact okD T.F_law_take sc_law_take len fun cdv A outer s H E hr => ⟨t_law_take K p_law_take, (pss_cons (ps_if (pt_cmpR op_gt (pe_ix ix_list (pv 0) pe_int (fun _ _ => rfl)) pe_int (nomark _)) (pss_cons (ps_set (i := 2) sc_law_take.nd rfl (Or.inl rfl) (pe_op op_modN (pe_callTy oInt1 rfl T.f_int (by decide +kernel) (pa_cons (pe_ix ix_list (pv 0) pe_int (fun _ _ => rfl)) pa_nil)) (pv 1))) (pss_cons (ps_asg (pe_op op_fdivN (pe_ix ix_list (pv 0) pe_int (fun _ _ => rfl)) (pv 1)) (pg_sub (pv 0) pe_int set_list)) (pss_one (ps_ret (pv 2))))) pss_nil) (pss_cons (ps_set (i := 3) sc_law_take.nd rfl (Or.inl rfl) pe_int) (pss_cons (ps_if (pt_cmpR op_lt (pe_ix ix_list (pv 0) pe_int (fun _ _ => rfl)) (pe_callB oLen rfl T.f_len (by decide +kernel) (pa_cons (pe_ix ix_list (pv 0) pe_int (fun _ _ => rfl)) pa_nil)) (nomark _)) (pss_one (ps_set (i := 3) sc_law_take.nd rfl (Or.inl rfl) (pe_ix ix_list (pe_ix ix_list (pv 0) pe_int (fun _ _ => rfl)) (pe_ix ix_list (pv 0) pe_int (fun _ _ => rfl)) (fun _ _ => rfl)))) pss_nil) (pss_cons (ps_asg (pe_op op_add (pe_ix ix_list (pv 0) pe_int (fun _ _ => rfl)) pe_int) (pg_sub (pv 0) pe_int set_list)) (pss_cons (ps_if (pt_cmpR op_ge (pv 3) (pe_op op_pow pe_int pe_int) (nomark _)) (pss_cons (ps_asg (pe_op op_fdivN (pv 3) pe_int) (pg_sub (pv 0) pe_int set_list)) (pss_one (ps_ret (pe_call H_law_take hr rfl T.g_law_take T.F_law_take.kp T.b_law_take .nil pass0 (pa_cons (pv 0) (pa_cons (pv 1) pa_nil)))))) pss_nil) (pss_cons (ps_asg (pe_op op_modN (pe_callTy oInt1 rfl T.f_int (by decide +kernel) (pa_cons (pe_op op_add (pe_op op_add (pe_op op_mul (pe_ix ix_list (pv 0) pe_int (fun _ _ => rfl)) pe_int) (pe_op op_mul (pv 3) pe_int)) (pe_op op_mul (pe_ix ix_list (pv 0) pe_int (fun _ _ => rfl)) pe_int)) pa_nil)) pe_int) (pg_sub (pv 0) pe_int set_list)) (pss_cons (ps_set (i := 4) sc_law_take.nd rfl (Or.inl rfl) (pe_op op_modN (pe_callTy oInt1 rfl T.f_int (by decide +kernel) (pa_cons (pe_op op_add (pe_op op_add (pe_op op_mul (pe_ix ix_list (pv 0) pe_int (fun _ _ => rfl)) (pe_ix ix_list (pv 0) pe_int (fun _ _ => rfl))) (pe_op op_mul (pe_ix ix_list (pv 0) pe_int (fun _ _ => rfl)) pe_int)) pe_int) pa_nil)) pe_int)) (pss_one (ps_ret (pe_op op_modN (pe_callTy oInt1 rfl T.f_int (by decide +kernel) (pa_cons (pe_op op_fdivN (pv 4) pe_int) pa_nil)) (pv 1))))))))))), h⟩
def t_law_is_integer (K : PySem.W.Frag) : TS :=
  (tRet (tAndV (tCB (rIsi K) (tCons (tVar 0) (tCons (tC (.ty "int")) tNil))) (tNotV (tCB (rIsi K) (tCons (tVar 0) (tCons (tC (.ty "bool")) tNil))))))
theorem mk_law_is_integer (T : Top K mg) {φ : Phi} 
    (len : ∀ S ds Q, φ S ds Q → ds.length = 1) (h : ∀ S ds Q, φ S ds Q → Sx S (startD N_law_is_integer.length ds) (t_law_is_integer K) { nx := fun S' _ => Q S' .non, rt := Q }) : FnC P w K mg base (1) (a_law_is_integer K) ["_law_actual"] φ := by
  exact okD T.F_law_is_integer sc_law_is_integer len fun cdv A outer s H E hr => ⟨t_law_is_integer K, (pss_one (ps_ret (pe_and (pe_callB call_isi rfl T.f_isinstance (by decide +kernel) (pa_cons (pv 0) (pa_cons (pe_bltn (v := .ty "int") rfl T.f_int (by decide +kernel) rfl) pa_nil))) (pe_one (pe_not (pe_callB call_isi rfl T.f_isinstance (by decide +kernel) (pa_cons (pv 0) (pa_cons (pe_bltn (v := .ty "bool") rfl T.f_bool (by decide +kernel) rfl) pa_nil)))))))), h⟩
def t_law_same (K : PySem.W.Frag) (p_law_same p_law_is_integer : Phi) : TS :=
  (tSeq (tIfS (tB (tCB (rIsi K) (tCons (tVar 1) (tCons (tC (.ty "tuple")) tNil)))) (tSeq (tIfS (tOr (tNot (tB (tCB (rIsi K) (tCons (tVar 0) (tCons (tC (.ty "tuple")) tNil))))) (tTest (tOp rNe (tCB (rLenD K) (tCons (tVar 0) tNil)) (tCB (rLenD K) (tCons (tVar 1) tNil))))) (tRet (tC (.bl false))) tNext) (tRet (tCB (rAll K) (tCons (tLc (iRng1 (tCons (tCB (rLenD K) (tCons (tVar 1) tNil)) tNil)) (gName 2) tYes (tCall (toSp p_law_same) [] E0 (tCons (tOp (rIxT K) (tVar 0) (tVar 2)) (tCons (tOp (rIxT K) (tVar 1) (tVar 2)) tNil))) [2]) tNil)))) tNext) (tSeq (tIfS (tB (tCB (rIsi K) (tCons (tVar 1) (tCons (tC (.ty "list")) tNil)))) (tSeq (tIfS (tOr (tNot (tB (tCB (rIsi K) (tCons (tVar 0) (tCons (tC (.ty "list")) tNil))))) (tTest (tOp rNe (tCB (rLenD K) (tCons (tVar 0) tNil)) (tCB (rLenD K) (tCons (tVar 1) tNil))))) (tRet (tC (.bl false))) tNext) (tRet (tCB (rAll K) (tCons (tLc (iRng1 (tCons (tCB (rLenD K) (tCons (tVar 1) tNil)) tNil)) (gName 2) tYes (tCall (toSp p_law_same) [] E0 (tCons (tOp (rIxT K) (tVar 0) (tVar 2)) (tCons (tOp (rIxT K) (tVar 1) (tVar 2)) tNil))) [2]) tNil)))) tNext) (tSeq (tIfS (tTest (tOp rIsNone (tVar 1) (tC .non))) (tRet (tOp rIsNone (tVar 0) (tC .non))) tNext) (tSeq (tIfS (tB (tCB (rIsi K) (tCons (tVar 1) (tCons (tC (.ty "bool")) tNil)))) (tRet (tAndV (tCB (rIsi K) (tCons (tVar 0) (tCons (tC (.ty "bool")) tNil))) (tOp rEq (tVar 0) (tVar 1)))) tNext) (tSeq (tIfS (tB (tCB (rIsi K) (tCons (tVar 1) (tCons (tC (.ty "str")) tNil)))) (tRet (tAndV (tCB (rIsi K) (tCons (tVar 0) (tCons (tC (.ty "str")) tNil))) (tOp rEq (tVar 0) (tVar 1)))) tNext) (tRet (tAndV (tCall (toSp p_law_is_integer) [] E0 (tCons (tVar 0) tNil)) (tOp rEq (tVar 0) (tVar 1)))))))))
theorem mk_law_same {j : Nat} (T : Top K mg) (hj : 2 ≤ j) {φ p_law_same p_law_is_integer : Phi} (H_law_same : FnC P w K mg base j (a_law_same K) ["_law_actual", "_law_due"] p_law_same) (H_law_is_integer : FnC P w K mg base 1 (a_law_is_integer K) ["_law_actual"] p_law_is_integer)
    (len : ∀ S ds Q, φ S ds Q → ds.length = 2) (h : ∀ S ds Q, φ S ds Q → Sx S (startD N_law_same.length ds) (t_law_same K p_law_same p_law_is_integer) { nx := fun S' _ => Q S' .non, rt := Q }) : FnC P w K mg base (j + 1) (a_law_same K) ["_law_actual", "_law_due"] φ := by
  exact okD T.F_law_same sc_law_same len fun cdv A outer s H E hr => ⟨t_law_same K p_law_same p_law_is_integer, (pss_cons (ps_if (pt_val (pe_callB call_isi rfl T.f_isinstance (by decide +kernel) (pa_cons (pv 1) (pa_cons (pe_bltn (v := .ty "tuple") rfl T.f_tuple (by decide +kernel) rfl) pa_nil)))) (pss_cons (ps_if (PW.pt (pw_or (pt_not (pt_val (pe_callB call_isi rfl T.f_isinstance (by decide +kernel) (pa_cons (pv 0) (pa_cons (pe_bltn (v := .ty "tuple") rfl T.f_tuple (by decide +kernel) rfl) pa_nil))))) (pw_or1 (pt_cmpR op_ne (pe_callB oLen rfl T.f_len (by decide +kernel) (pa_cons (pv 0) pa_nil)) (pe_callB oLen rfl T.f_len (by decide +kernel) (pa_cons (pv 1) pa_nil)) (nomark _))))) (pss_one (ps_ret pe_bl)) pss_nil) (pss_one (ps_ret (pe_callB (cr_all (by rfl)) rfl T.f_all (by decide +kernel) (pa_cons (pe_lc (own := [("_law_k", 2)]) (g := (gName 2)) (tt := tYes) (by rfl) sc_law_same.nd (pi_range1 rfl T.f_range (pa_cons (pe_callB oLen rfl T.f_len (by decide +kernel) (pa_cons (pv 1) pa_nil)) pa_nil)) (blkOk_by (own := [("_law_k", 2)]) (N := N_law_same) (sc := defScope s_law_same) (by decide +kernel)) (fun _ _ _ _ _ => (pg_name (i := 2) sc_law_same.nd rfl (Or.inl rfl))) (fun _ _ _ _ _ => pts_nil) (fun _ _ _ _ _ => (pe_call H_law_same hr rfl T.g_law_same T.F_law_same.kp T.b_law_same .nil pass0 (pa_cons (pe_ix ix_tup (pv 0) (pv 2) (fun _ _ => rfl)) (pa_cons (pe_ix ix_tup (pv 1) (pv 2) (fun _ _ => rfl)) pa_nil))))) pa_nil))))) pss_nil) (pss_cons (ps_if (pt_val (pe_callB call_isi rfl T.f_isinstance (by decide +kernel) (pa_cons (pv 1) (pa_cons (pe_bltn (v := .ty "list") rfl T.f_list (by decide +kernel) rfl) pa_nil)))) (pss_cons (ps_if (PW.pt (pw_or (pt_not (pt_val (pe_callB call_isi rfl T.f_isinstance (by decide +kernel) (pa_cons (pv 0) (pa_cons (pe_bltn (v := .ty "list") rfl T.f_list (by decide +kernel) rfl) pa_nil))))) (pw_or1 (pt_cmpR op_ne (pe_callB oLen rfl T.f_len (by decide +kernel) (pa_cons (pv 0) pa_nil)) (pe_callB oLen rfl T.f_len (by decide +kernel) (pa_cons (pv 1) pa_nil)) (nomark _))))) (pss_one (ps_ret pe_bl)) pss_nil) (pss_one (ps_ret (pe_callB (cr_all (by rfl)) rfl T.f_all (by decide +kernel) (pa_cons (pe_lc (own := [("_law_k", 2)]) (g := (gName 2)) (tt := tYes) (by rfl) sc_law_same.nd (pi_range1 rfl T.f_range (pa_cons (pe_callB oLen rfl T.f_len (by decide +kernel) (pa_cons (pv 1) pa_nil)) pa_nil)) (blkOk_by (own := [("_law_k", 2)]) (N := N_law_same) (sc := defScope s_law_same) (by decide +kernel)) (fun _ _ _ _ _ => (pg_name (i := 2) sc_law_same.nd rfl (Or.inl rfl))) (fun _ _ _ _ _ => pts_nil) (fun _ _ _ _ _ => (pe_call H_law_same hr rfl T.g_law_same T.F_law_same.kp T.b_law_same .nil pass0 (pa_cons (pe_ix ix_tup (pv 0) (pv 2) (fun _ _ => rfl)) (pa_cons (pe_ix ix_tup (pv 1) (pv 2) (fun _ _ => rfl)) pa_nil))))) pa_nil))))) pss_nil) (pss_cons (ps_if (pt_cmpR oIsN (pv 1) pe_non (nomark _)) (pss_one (ps_ret (pe_cmpR oIsN (pv 0) pe_non (nomark _)))) pss_nil) (pss_cons (ps_if (pt_val (pe_callB call_isi rfl T.f_isinstance (by decide +kernel) (pa_cons (pv 1) (pa_cons (pe_bltn (v := .ty "bool") rfl T.f_bool (by decide +kernel) rfl) pa_nil)))) (pss_one (ps_ret (pe_and (pe_callB call_isi rfl T.f_isinstance (by decide +kernel) (pa_cons (pv 0) (pa_cons (pe_bltn (v := .ty "bool") rfl T.f_bool (by decide +kernel) rfl) pa_nil))) (pe_one (pe_cmpR op_eq (pv 0) (pv 1) (nomark _)))))) pss_nil) (pss_cons (ps_if (pt_val (pe_callB call_isi rfl T.f_isinstance (by decide +kernel) (pa_cons (pv 1) (pa_cons (pe_bltn (v := .ty "str") rfl T.f_str (by decide +kernel) rfl) pa_nil)))) (pss_one (ps_ret (pe_and (pe_callB call_isi rfl T.f_isinstance (by decide +kernel) (pa_cons (pv 0) (pa_cons (pe_bltn (v := .ty "str") rfl T.f_str (by decide +kernel) rfl) pa_nil))) (pe_one (pe_cmpR op_eq (pv 0) (pv 1) (nomark _)))))) pss_nil) (pss_one (ps_ret (pe_and (pe_call H_law_is_integer (hr.mono (by omega)) rfl T.g_law_is_integer T.F_law_is_integer.kp T.b_law_is_integer .nil pass0 (pa_cons (pv 0) pa_nil)) (pe_one (pe_cmpR op_eq (pv 0) (pv 1) (nomark _))))))))))), h⟩
def t_law_pick (K : PySem.W.Frag) (p_law_take : Phi) : TS :=
  (tRet (tOp (rIxL K) (tVar 1) (tCall (toSp p_law_take) [] E0 (tCons (tVar 0) (tCons (tCB (rLenD K) (tCons (tVar 1) tNil)) tNil)))))
theorem mk_law_pick (T : Top K mg) {φ p_law_take : Phi} (H_law_take : FnC P w K mg base 2 (a_law_take K) ["_law_pool_here", "_law_many"] p_law_take)
    (len : ∀ S ds Q, φ S ds Q → ds.length = 2) (h : ∀ S ds Q, φ S ds Q → Sx S (startD N_law_pick.length ds) (t_law_pick K p_law_take) { nx := fun S' _ => Q S' .non, rt := Q }) : FnC P w K mg base (3) (a_law_pick K) ["_law_pool_here", "_law_rows"] φ := by
  exact okD T.F_law_pick sc_law_pick len fun cdv A outer s H E hr => ⟨t_law_pick K p_law_take, (pss_one (ps_ret (pe_ix ix_list (pv 1) (pe_call H_law_take (hr.mono (by decide)) rfl T.g_law_take T.F_law_take.kp T.b_law_take .nil pass0 (pa_cons (pv 0) (pa_cons (pe_callB oLen rfl T.f_len (by decide +kernel) (pa_cons (pv 1) pa_nil)) pa_nil))) (fun _ _ => rfl)))), h⟩
def t_law_parity (K : PySem.W.Frag) (p_law_take : Phi) : TS :=
  (tSeq (tAsg (tSl rSlS (tC (.str "abcdef")) tNoPart (tPart (tVar 1))) (gName 2)) (tRet (tBM K "str" (rJoin K) (tC (.str "")) (tCons (tLc (iStr (tVar 2)) (gName 3) (tTest (tOp rEq (tCall (toSp p_law_take) [] E0 (tCons (tVar 0) (tCons (tC (.int 2)) tNil))) (tC (.int 1)))) (tVar 3) [3]) tNil))))
theorem mk_law_parity (T : Top K mg) {φ p_law_take : Phi} (H_law_take : FnC P w K mg base 2 (a_law_take K) ["_law_pool_here", "_law_many"] p_law_take)
    (len : ∀ S ds Q, φ S ds Q → ds.length = 2) (h : ∀ S ds Q, φ S ds Q → Sx S (startD N_law_parity.length ds) (t_law_parity K p_law_take) { nx := fun S' _ => Q S' .non, rt := Q }) : FnC P w K mg base (3) (a_law_parity K) ["_law_pool_here", "_law_variables"] φ := by
  exact okD T.F_law_parity sc_law_parity len fun cdv A outer s H E hr => ⟨t_law_parity K p_law_take, (pss_cons (ps_set (i := 2) sc_law_parity.nd rfl (Or.inl rfl) (pe_slice sl_str pe_str po_none (po_some (pv 1)))) (pss_one (ps_ret (pe_bm PySem.F.plainAttrs_str PySem.F.slot_str_join PySem.F.type_str_join oJoin pe_str (pa_cons (pe_lc (own := [("_law_letter", 3)]) (g := (gName 3)) (tt := (tTest (tOp rEq (tCall (toSp p_law_take) [] E0 (tCons (tVar 0) (tCons (tC (.int 2)) tNil))) (tC (.int 1))))) (by rfl) sc_law_parity.nd (pi_str (pv 2)) (blkOk_by (own := [("_law_letter", 3)]) (N := N_law_parity) (sc := defScope s_law_parity) (by decide +kernel)) (fun _ _ _ _ _ => (pg_name (i := 3) sc_law_parity.nd rfl (Or.inl rfl))) (fun _ _ _ _ _ => (pts_one (pt_cmpR op_eq (pe_call H_law_take (hr.mono (by decide)) rfl T.g_law_take T.F_law_take.kp T.b_law_take .nil pass0 (pa_cons (pv 0) (pa_cons pe_int pa_nil))) pe_int (nomark _)))) (fun _ _ _ _ _ => (pv 3))) pa_nil))))), h⟩
def t_law_message (K : PySem.W.Frag) (p_law_parity p_law_take : Phi) : TS :=
  (tSeq (tAsg (tSl rSlS (tC (.str "abcdef")) tNoPart (tPart (tVar 1))) (gName 2)) (tSeq (tAsg (tCall (toSp p_law_parity) [] E0 (tCons (tVar 0) (tCons (tVar 1) tNil))) (gName 3)) (tRet (tIf (tTest (tOp rNe (tVar 3) (tC (.str "")))) (tVar 3) (tOp rIxS (tVar 2) (tCall (toSp p_law_take) [] E0 (tCons (tVar 0) (tCons (tVar 1) tNil))))))))
theorem mk_law_message (T : Top K mg) {φ p_law_parity p_law_take : Phi} (H_law_parity : FnC P w K mg base 3 (a_law_parity K) ["_law_pool_here", "_law_variables"] p_law_parity) (H_law_take : FnC P w K mg base 2 (a_law_take K) ["_law_pool_here", "_law_many"] p_law_take)
    (len : ∀ S ds Q, φ S ds Q → ds.length = 2) (h : ∀ S ds Q, φ S ds Q → Sx S (startD N_law_message.length ds) (t_law_message K p_law_parity p_law_take) { nx := fun S' _ => Q S' .non, rt := Q }) : FnC P w K mg base (4) (a_law_message K) ["_law_pool_here", "_law_variables"] φ := by
  exact okD T.F_law_message sc_law_message len fun cdv A outer s H E hr => ⟨t_law_message K p_law_parity p_law_take, (pss_cons (ps_set (i := 2) sc_law_message.nd rfl (Or.inl rfl) (pe_slice sl_str pe_str po_none (po_some (pv 1)))) (pss_cons (ps_set (i := 3) sc_law_message.nd rfl (Or.inl rfl) (pe_call H_law_parity (hr.mono (by decide)) rfl T.g_law_parity T.F_law_parity.kp T.b_law_parity .nil pass0 (pa_cons (pv 0) (pa_cons (pv 1) pa_nil)))) (pss_one (ps_ret (pe_ifExp (pt_cmpR op_ne (pv 3) pe_str (nomark _)) (pv 3) (pe_ix ix_str (pv 2) (pe_call H_law_take (hr.mono (by decide)) rfl T.g_law_take T.F_law_take.kp T.b_law_take .nil pass0 (pa_cons (pv 0) (pa_cons (pv 1) pa_nil))) (fun _ _ => rfl))))))), h⟩
def t_law_sum (K : PySem.W.Frag) : TS :=
  (tSeq (tAsg (tBM K "str" (rJoin K) (tC (.str "")) (tCons (tVar 0) tNil)) (gName 1)) (tRet (tBM K "str" (rJoin K) (tC (.str "")) (tCons (tLc (iStr (tC (.str "abcdef"))) (gName 2) (tTest (tOp rEq (tOp (rI (fun _ j => j ≠ 0) fun i j => .int (i.fmod j)) (tCB (rInt1) (tCons (tBM K "str" rCount (tVar 1) (tCons (tVar 2) tNil)) tNil)) (tC (.int 2))) (tC (.int 1)))) (tVar 2) [2]) tNil))))
theorem mk_law_sum (T : Top K mg) {φ : Phi} 
    (len : ∀ S ds Q, φ S ds Q → ds.length = 1) (h : ∀ S ds Q, φ S ds Q → Sx S (startD N_law_sum.length ds) (t_law_sum K) { nx := fun S' _ => Q S' .non, rt := Q }) : FnC P w K mg base (1) (a_law_sum K) ["_law_texts"] φ := by
  exact okD T.F_law_sum sc_law_sum len fun cdv A outer s H E hr => ⟨t_law_sum K, (pss_cons (ps_set (i := 1) sc_law_sum.nd rfl (Or.inr rfl) (pe_bm PySem.F.plainAttrs_str PySem.F.slot_str_join PySem.F.type_str_join oJoin pe_str (pa_cons (pv 0) pa_nil))) (pss_one (ps_ret (pe_bm PySem.F.plainAttrs_str PySem.F.slot_str_join PySem.F.type_str_join oJoin pe_str (pa_cons (pe_lc (own := [("_law_letter", 2)]) (g := (gName 2)) (tt := (tTest (tOp rEq (tOp (rI (fun _ j => j ≠ 0) fun i j => .int (i.fmod j)) (tCB (rInt1) (tCons (tBM K "str" rCount (tVar 1) (tCons (tVar 2) tNil)) tNil)) (tC (.int 2))) (tC (.int 1))))) (by rfl) sc_law_sum.nd (pi_str pe_str) (blkOk_by (own := [("_law_letter", 2)]) (N := N_law_sum) (sc := defScope s_law_sum) (by decide +kernel)) (fun _ _ _ _ _ => (pg_name (i := 2) sc_law_sum.nd rfl (Or.inl rfl))) (fun _ _ _ _ _ => (pts_one (pt_cmpR op_eq (pe_op op_modN (pe_callTy oInt1 rfl T.f_int (by decide +kernel) (pa_cons (pe_bm PySem.F.plainAttrs_str PySem.F.slot_str_count PySem.F.type_str_count oCount (pv 1) (pa_cons (pv 2) pa_nil)) pa_nil)) pe_int) pe_int (nomark _)))) (fun _ _ _ _ _ => (pv 2))) pa_nil))))), h⟩
def t_law_derived (K : PySem.W.Frag) (p_law_sum : Phi) : TS :=
  (tSeq (tAsg (tLst (tCons (tC (.str "")) tNil)) (gName 1)) (tSeq (tFor (iList K (tVar 0)) (gName 2) (tIfS (tTest (tOp (rIn K true) (tVar 2) (tVar 1))) (tAsg (tOp rCat (tVar 1) (tLc (iList K (tVar 1)) (gName 3) tYes (tCall (toSp p_law_sum) [] E0 (tCons (tLst (tCons (tVar 3) (tCons (tVar 2) tNil))) tNil)) [3])) (gName 1)) tNext)) (tRet (tCB (rSortedS K) (tCons (tVar 1) tNil)))))
theorem mk_law_derived (T : Top K mg) {φ p_law_sum : Phi} (H_law_sum : FnC P w K mg base 1 (a_law_sum K) ["_law_texts"] p_law_sum)
    (len : ∀ S ds Q, φ S ds Q → ds.length = 1) (h : ∀ S ds Q, φ S ds Q → Sx S (startD N_law_derived.length ds) (t_law_derived K p_law_sum) { nx := fun S' _ => Q S' .non, rt := Q }) : FnC P w K mg base (2) (a_law_derived K) ["_law_messages"] φ := by
  exact okD T.F_law_derived sc_law_derived len fun cdv A outer s H E hr => ⟨t_law_derived K p_law_sum, (pss_cons (ps_set (i := 1) sc_law_derived.nd rfl (Or.inl rfl) (pe_lst (pa_cons pe_str pa_nil))) (pss_cons (ps_for PassesOwn.never rfl (pi_list (pv 0)) (pg_name (i := 2) sc_law_derived.nd rfl (Or.inr rfl)) (pss_one (ps_if (pt_cmpR op_notIn_seq (pv 2) (pv 1) rfl) (pss_one (ps_set (i := 1) sc_law_derived.nd rfl (Or.inl rfl) (pe_op op_cat (pv 1) (pe_lc (own := [("_law_one", 3)]) (g := (gName 3)) (tt := tYes) (by rfl) sc_law_derived.nd (pi_list (pv 1)) (blkOk_by (own := [("_law_one", 3)]) (N := N_law_derived) (sc := defScope s_law_derived) (by decide +kernel)) (fun _ _ _ _ _ => (pg_name (i := 3) sc_law_derived.nd rfl (Or.inl rfl))) (fun _ _ _ _ _ => pts_nil) (fun _ _ _ _ _ => (pe_call H_law_sum (hr.mono (by decide)) rfl T.g_law_sum T.F_law_sum.kp T.b_law_sum .nil pass0 (pa_cons (pe_lst (pa_cons (pv 3) (pa_cons (pv 2) pa_nil))) pa_nil))))))) pss_nil))) (pss_one (ps_ret (pe_callB cr_sortedS rfl T.f_sorted (by decide +kernel) (pa_cons (pv 1) pa_nil)))))), h⟩
def t_law_rank (K : PySem.W.Frag) (p_law_derived : Phi) : TS :=
  (tSeq (tAsg (tCB (rLenD K) (tCons (tCall (toSp p_law_derived) [] E0 (tCons (tVar 0) tNil)) tNil)) (gName 1)) (tSeq (tAsg (tC (.int 0)) (gName 2)) (tSeq (tFor (iRng1 (tCons (tC (.int 6)) tNil)) (gName 3) (tIfS (tTest (tOp (rI0 fun i j => .bl (decide (j < i))) (tVar 1) (tC (.int 1)))) (tSeq (tAsg (tOp (rI CDivN fun i j => .int (i.fdiv j)) (tVar 1) (tC (.int 2))) (gName 1)) (tAsg (tOp (rI0 fun i j => .int (i + j)) (tVar 2) (tC (.int 1))) (gName 2))) tNext)) (tRet (tVar 2)))))
theorem mk_law_rank (T : Top K mg) {φ p_law_derived : Phi} (H_law_derived : FnC P w K mg base 2 (a_law_derived K) ["_law_messages"] p_law_derived)
    (len : ∀ S ds Q, φ S ds Q → ds.length = 1) (h : ∀ S ds Q, φ S ds Q → Sx S (startD N_law_rank.length ds) (t_law_rank K p_law_derived) { nx := fun S' _ => Q S' .non, rt := Q }) : FnC P w K mg base (3) (a_law_rank K) ["_law_messages"] φ := by
  exact okD T.F_law_rank sc_law_rank len fun cdv A outer s H E hr => ⟨t_law_rank K p_law_derived, (pss_cons (ps_set (i := 1) sc_law_rank.nd rfl (Or.inl rfl) (pe_callB oLen rfl T.f_len (by decide +kernel) (pa_cons (pe_call H_law_derived (hr.mono (by decide)) rfl T.g_law_derived T.F_law_derived.kp T.b_law_derived .nil pass0 (pa_cons (pv 0) pa_nil)) pa_nil))) (pss_cons (ps_set (i := 2) sc_law_rank.nd rfl (Or.inl rfl) pe_int) (pss_cons (ps_for PassesOwn.never rfl (pi_range1 rfl T.f_range (pa_cons pe_int pa_nil)) (pg_name (i := 3) sc_law_rank.nd rfl (Or.inl rfl)) (pss_one (ps_if (pt_cmpR op_gt (pv 1) pe_int (nomark _)) (pss_cons (ps_set (i := 1) sc_law_rank.nd rfl (Or.inl rfl) (pe_op op_fdivN (pv 1) pe_int)) (pss_one (ps_set (i := 2) sc_law_rank.nd rfl (Or.inl rfl) (pe_op op_add (pv 2) pe_int)))) pss_nil))) (pss_one (ps_ret (pv 2)))))), h⟩
def t_law_some_messages (K : PySem.W.Frag) (p_law_take p_law_message : Phi) : TS :=
  (tRet (tLc (iRng1 (tCons (tCall (toSp p_law_take) [] E0 (tCons (tVar 0) (tCons (tOp (rI0 fun i j => .int (i + j)) (tVar 2) (tC (.int 1))) tNil))) tNil)) (gName 3) (tTest (tOp (rI0 fun i j => .bl (decide (j < i))) (tVar 1) (tC (.int 0)))) (tCall (toSp p_law_message) [] E0 (tCons (tVar 0) (tCons (tVar 1) tNil))) [3]))
theorem mk_law_some_messages (T : Top K mg) {φ p_law_take p_law_message : Phi} (H_law_take : FnC P w K mg base 2 (a_law_take K) ["_law_pool_here", "_law_many"] p_law_take) (H_law_message : FnC P w K mg base 4 (a_law_message K) ["_law_pool_here", "_law_variables"] p_law_message)
    (len : ∀ S ds Q, φ S ds Q → ds.length = 3) (h : ∀ S ds Q, φ S ds Q → Sx S (startD N_law_some_messages.length ds) (t_law_some_messages K p_law_take p_law_message) { nx := fun S' _ => Q S' .non, rt := Q }) : FnC P w K mg base (5) (a_law_some_messages K) ["_law_pool_here", "_law_variables", "_law_most"] φ := by
  exact okD T.F_law_some_messages sc_law_some_messages len fun cdv A outer s H E hr => ⟨t_law_some_messages K p_law_take p_law_message, (pss_one (ps_ret (pe_lc (own := [("_law_k", 3)]) (g := (gName 3)) (tt := (tTest (tOp (rI0 fun i j => .bl (decide (j < i))) (tVar 1) (tC (.int 0))))) (by rfl) sc_law_some_messages.nd (pi_range1 rfl T.f_range (pa_cons (pe_call H_law_take (hr.mono (by decide)) rfl T.g_law_take T.F_law_take.kp T.b_law_take .nil pass0 (pa_cons (pv 0) (pa_cons (pe_op op_add (pv 2) pe_int) pa_nil))) pa_nil)) (blkOk_by (own := [("_law_k", 3)]) (N := N_law_some_messages) (sc := defScope s_law_some_messages) (by decide +kernel)) (fun _ _ _ _ _ => (pg_name (i := 3) sc_law_some_messages.nd rfl (Or.inl rfl))) (fun _ _ _ _ _ => (pts_one (pt_cmpR op_gt (pv 1) pe_int (nomark _)))) (fun _ _ _ _ _ => (pe_call H_law_message (hr.mono (by decide)) rfl T.g_law_message T.F_law_message.kp T.b_law_message .nil pass0 (pa_cons (pv 0) (pa_cons (pv 1) pa_nil))))))), h⟩
def t_law_drawn (K : PySem.W.Frag) (p_law_take p_law_some_messages : Phi) : TS :=
  (tSeq (tAsg (tCall (toSp p_law_take) [] E0 (tCons (tVar 0) (tCons (tC (.int 5)) tNil))) (gName 3)) (tSeq (tAsg (tLc (iRng1 (tCons (tOp (rI0 fun i j => .int (i + j)) (tC (.int 1)) (tCall (toSp p_law_take) [] E0 (tCons (tVar 0) (tCons (tVar 1) tNil)))) tNil)) (gName 4) tYes (tCall (toSp p_law_some_messages) [] E0 (tCons (tVar 0) (tCons (tVar 3) (tCons (tOp (rIxT K) (tTup (tCons (tC (.int 1)) (tCons (tC (.int 2)) (tCons (tC (.int 4)) tNil)))) (tCall (toSp p_law_take) [] E0 (tCons (tVar 0) (tCons (tC (.int 3)) tNil)))) tNil)))) [4]) (gName 5)) (tSeq (tAsg (tSl rSlS (tC (.str "ABCDEF")) tNoPart (tPart (tCB (rLenD K) (tCons (tVar 5) tNil)))) (gName 6)) (tSeq (tAsg (tLst tNil) (gName 7)) (tSeq (tFor (iRng1 (tCons (tCall (toSp p_law_take) [] E0 (tCons (tVar 0) (tCons (tOp (rI0 fun i j => .int (i + j)) (tVar 2) (tC (.int 1))) tNil))) tNil)) (gName 4) (tIfS (tTest (tOp (rI0 fun i j => .bl (decide (j < i))) (tCB (rLenD K) (tCons (tVar 5) tNil)) (tC (.int 1)))) (tSeq (tAsg (tCall (toSp p_law_take) [] E0 (tCons (tVar 0) (tCons (tCB (rLenD K) (tCons (tVar 5) tNil)) tNil))) (gName 8)) (tSeq (tAsg (tOp (rI (fun _ j => j ≠ 0) fun i j => .int (i.fmod j)) (tOp (rI0 fun i j => .int (i + j)) (tOp (rI0 fun i j => .int (i + j)) (tVar 8) (tC (.int 1))) (tCall (toSp p_law_take) [] E0 (tCons (tVar 0) (tCons (tOp (rI0 fun i j => .int (i - j)) (tCB (rLenD K) (tCons (tVar 5) tNil)) (tC (.int 1))) tNil)))) (tCB (rLenD K) (tCons (tVar 5) tNil))) (gName 9)) (tDrop (tBM K "list" rAppend (tVar 7) (tCons (tOp rAddStr (tOp rIxS (tVar 6) (tVar 8)) (tOp rIxS (tVar 6) (tVar 9))) tNil))))) tNext)) (tRet (tDisp [((tC (.str "variables")), (tVar 3)), ((tC (.str "nodes")), (tVar 5)), ((tC (.str "links")), (tVar 7))])))))))
theorem mk_law_drawn (T : Top K mg) {φ p_law_take p_law_some_messages : Phi} (H_law_take : FnC P w K mg base 2 (a_law_take K) ["_law_pool_here", "_law_many"] p_law_take) (H_law_some_messages : FnC P w K mg base 5 (a_law_some_messages K) ["_law_pool_here", "_law_variables", "_law_most"] p_law_some_messages)
    (len : ∀ S ds Q, φ S ds Q → ds.length = 3) (h : ∀ S ds Q, φ S ds Q → Sx S (startD N_law_drawn.length ds) (t_law_drawn K p_law_take p_law_some_messages) { nx := fun S' _ => Q S' .non, rt := Q }) : FnC P w K mg base (6) (a_law_drawn K) ["_law_pool_here", "_law_nodes", "_law_links"] φ := by
  exact okD T.F_law_drawn sc_law_drawn len fun cdv A outer s H E hr => ⟨t_law_drawn K p_law_take p_law_some_messages, (pss_cons (ps_set (i := 3) sc_law_drawn.nd rfl (Or.inr rfl) (pe_call H_law_take (hr.mono (by decide)) rfl T.g_law_take T.F_law_take.kp T.b_law_take .nil pass0 (pa_cons (pv 0) (pa_cons pe_int pa_nil)))) (pss_cons (ps_setLc (i := 5) (own := [("_law_k", 4)]) (g := (gName 4)) (tt := tYes) (by rfl) sc_law_drawn.nd rfl rfl (sw_true rfl rfl rfl (by decide +kernel)) (pi_range1 rfl T.f_range (pa_cons (pe_op op_add pe_int (pe_call H_law_take (hr.mono (by decide)) rfl T.g_law_take T.F_law_take.kp T.b_law_take .nil pass0 (pa_cons (pv 0) (pa_cons (pv 1) pa_nil)))) pa_nil)) (blkOk_by (own := [("_law_k", 4)]) (N := N_law_drawn) (sc := defScope s_law_drawn) (by decide +kernel)) (fun _ _ _ _ _ => (pg_name (i := 4) sc_law_drawn.nd rfl (Or.inl rfl))) (fun _ _ _ _ _ => pts_nil) (fun _ _ _ _ _ => (pe_call H_law_some_messages (hr.mono (by decide)) rfl T.g_law_some_messages T.F_law_some_messages.kp T.b_law_some_messages .nil pass0 (pa_cons (pv 0) (pa_cons (pv 3) (pa_cons (pe_ix ix_tup (pe_tup (pa_cons pe_int (pa_cons pe_int (pa_cons pe_int pa_nil)))) (pe_call H_law_take (hr.mono (by decide)) rfl T.g_law_take T.F_law_take.kp T.b_law_take .nil pass0 (pa_cons (pv 0) (pa_cons pe_int pa_nil))) (fun _ _ => rfl)) pa_nil)))))) (pss_cons (ps_set (i := 6) sc_law_drawn.nd rfl (Or.inl rfl) (pe_slice sl_str pe_str po_none (po_some (pe_callB oLen rfl T.f_len (by decide +kernel) (pa_cons (pv 5) pa_nil))))) (pss_cons (ps_set (i := 7) sc_law_drawn.nd rfl (Or.inl rfl) (pe_lst pa_nil)) (pss_cons (ps_for PassesOwn.never rfl (pi_range1 rfl T.f_range (pa_cons (pe_call H_law_take (hr.mono (by decide)) rfl T.g_law_take T.F_law_take.kp T.b_law_take .nil pass0 (pa_cons (pv 0) (pa_cons (pe_op op_add (pv 2) pe_int) pa_nil))) pa_nil)) (pg_name (i := 4) sc_law_drawn.nd rfl (Or.inl rfl)) (pss_one (ps_if (pt_cmpR op_gt (pe_callB oLen rfl T.f_len (by decide +kernel) (pa_cons (pv 5) pa_nil)) pe_int (nomark _)) (pss_cons (ps_set (i := 8) sc_law_drawn.nd rfl (Or.inl rfl) (pe_call H_law_take (hr.mono (by decide)) rfl T.g_law_take T.F_law_take.kp T.b_law_take .nil pass0 (pa_cons (pv 0) (pa_cons (pe_callB oLen rfl T.f_len (by decide +kernel) (pa_cons (pv 5) pa_nil)) pa_nil)))) (pss_cons (ps_set (i := 9) sc_law_drawn.nd rfl (Or.inl rfl) (pe_op op_modN (pe_op op_add (pe_op op_add (pv 8) pe_int) (pe_call H_law_take (hr.mono (by decide)) rfl T.g_law_take T.F_law_take.kp T.b_law_take .nil pass0 (pa_cons (pv 0) (pa_cons (pe_op op_sub (pe_callB oLen rfl T.f_len (by decide +kernel) (pa_cons (pv 5) pa_nil)) pe_int) pa_nil)))) (pe_callB oLen rfl T.f_len (by decide +kernel) (pa_cons (pv 5) pa_nil)))) (pss_one (ps_expr (pe_bm PySem.F.plainAttrs_list PySem.F.slot_list_append PySem.F.type_list_append mt_append (pv 7) (pa_cons (pe_op oAddStr (pe_ix ix_str (pv 6) (pv 8) (fun _ _ => rfl)) (pe_ix ix_str (pv 6) (pv 9) (fun _ _ => rfl))) pa_nil)))))) pss_nil))) (pss_one (ps_ret (pe_disp (pps_cons pe_str (pv 3) (pps_cons pe_str (pv 5) (pps_cons pe_str (pv 7) pps_nil))) rfl rfl (by decide) (by decide))))))))), h⟩
def t_law_filled (K : PySem.W.Frag) (p_law_drawn p_law_deficient p_law_pick p_law_take : Phi) : TS :=
  (tSeq (tAsg (tCall (toSp p_law_drawn) [] E0 (tCons (tVar 0) (tCons (tVar 1) (tCons (tOp (rI CDivN fun i j => .int (i.fdiv j)) (tVar 2) (tC (.int 3))) tNil)))) (gName 3)) (tSeq (tFor (iRng1 (tCons (tOp (rI0 fun i j => .int (i - j)) (tVar 2) (tCB (rLenD K) (tCons (tDGet (tVar 3) (tC (.str "links"))) tNil))) tNil)) (gName 4) (tSeq (tAsg (tCall (toSp p_law_deficient) [] E0 (tCons (tVar 3) tNil)) (gName 5)) (tSeq (tIfS (tTest (tOp rEq (tVar 5) (tC (.str "")))) tBreak tNext) (tSeq (tAsg (tSl rSlS (tC (.str "ABCDEF")) tNoPart (tPart (tCB (rLenD K) (tCons (tDGet (tVar 3) (tC (.str "nodes"))) tNil)))) (gName 6)) (tSeq (tAsg (tLc (iStr (tVar 6)) (gName 8) (tTest (tOp rNotInSign (tVar 8) (tVar 5))) (tVar 8) [8]) (gName 7)) (tSeq (tIfS (tNot (tTruth K (tVar 7))) tBreak tNext) (sDPut (tVar 3) (tC (.str "links")) (tOp rCat (tDGet (tVar 3) (tC (.str "links"))) (tLst (tCons (tOp rAddStr (tCall (toSp p_law_pick) [] E0 (tCons (tVar 0) (tCons (tVar 7) tNil))) (tOp rIxS (tVar 5) (tCall (toSp p_law_take) [] E0 (tCons (tVar 0) (tCons (tCB (rLenD K) (tCons (tVar 5) tNil)) tNil))))) tNil)))))))))) (tRet (tVar 3))))
theorem mk_law_filled (T : Top K mg) {φ p_law_drawn p_law_deficient p_law_pick p_law_take : Phi} (H_law_drawn : FnC P w K mg base 6 (a_law_drawn K) ["_law_pool_here", "_law_nodes", "_law_links"] p_law_drawn) (H_law_deficient : FnC P w K mg base 5 (a_law_deficient K) ["_law_network_here"] p_law_deficient) (H_law_pick : FnC P w K mg base 3 (a_law_pick K) ["_law_pool_here", "_law_rows"] p_law_pick) (H_law_take : FnC P w K mg base 2 (a_law_take K) ["_law_pool_here", "_law_many"] p_law_take)
    (len : ∀ S ds Q, φ S ds Q → ds.length = 3) (h : ∀ S ds Q, φ S ds Q → Sx S (startD N_law_filled.length ds) (t_law_filled K p_law_drawn p_law_deficient p_law_pick p_law_take) { nx := fun S' _ => Q S' .non, rt := Q }) : FnC P w K mg base (7) (a_law_filled K) ["_law_pool_here", "_law_nodes", "_law_links"] φ := by
  exact okD T.F_law_filled sc_law_filled len fun cdv A outer s H E hr => ⟨t_law_filled K p_law_drawn p_law_deficient p_law_pick p_law_take, (pss_cons (ps_set (i := 3) sc_law_filled.nd rfl (Or.inl rfl) (pe_call H_law_drawn (hr.mono (by decide)) rfl T.g_law_drawn T.F_law_drawn.kp T.b_law_drawn .nil pass0 (pa_cons (pv 0) (pa_cons (pv 1) (pa_cons (pe_op op_fdivN (pv 2) pe_int) pa_nil))))) (pss_cons (ps_for PassesOwn.never rfl (pi_range1 rfl T.f_range (pa_cons (pe_op op_sub (pv 2) (pe_callB oLen rfl T.f_len (by decide +kernel) (pa_cons (pe_dget (hu_of hr) (pv 3) pe_str (fun _ _ => rfl)) pa_nil))) pa_nil)) (pg_name (i := 4) sc_law_filled.nd rfl (Or.inl rfl)) (pss_cons (ps_set (i := 5) sc_law_filled.nd rfl (Or.inr rfl) (pe_call H_law_deficient (hr.mono (by decide)) rfl T.g_law_deficient T.F_law_deficient.kp T.b_law_deficient .nil pass0 (pa_cons (pv 3) pa_nil))) (pss_cons (ps_if (pt_cmpR op_eq (pv 5) pe_str (nomark _)) (pss_one ps_break) pss_nil) (pss_cons (ps_set (i := 6) sc_law_filled.nd rfl (Or.inl rfl) (pe_slice sl_str pe_str po_none (po_some (pe_callB oLen rfl T.f_len (by decide +kernel) (pa_cons (pe_dget (hu_of hr) (pv 3) pe_str (fun _ _ => rfl)) pa_nil))))) (pss_cons (ps_setLc (i := 7) (own := [("_law_letter", 8)]) (g := (gName 8)) (tt := (tTest (tOp rNotInSign (tVar 8) (tVar 5)))) (by rfl) sc_law_filled.nd rfl rfl (sw_true rfl rfl rfl (by decide +kernel)) (pi_str (pv 6)) (blkOk_by (own := [("_law_letter", 8)]) (N := N_law_filled) (sc := defScope s_law_filled) (by decide +kernel)) (fun _ _ _ _ _ => (pg_name (i := 8) sc_law_filled.nd rfl (Or.inl rfl))) (fun _ _ _ _ _ => (pts_one (pt_cmpR oNotInSign (pv 8) (pv 5) rfl))) (fun _ _ _ _ _ => (pv 8))) (pss_cons (ps_if (pt_not (oTruth (pv 7))) (pss_one ps_break) pss_nil) (pss_one (ps_dput (hu_of hr) (pv 3) pe_str (pe_op op_cat (pe_dget (hu_of hr) (pv 3) pe_str (fun _ _ => rfl)) (pe_lst (pa_cons (pe_op oAddStr (pe_call H_law_pick (hr.mono (by decide)) rfl T.g_law_pick T.F_law_pick.kp T.b_law_pick .nil pass0 (pa_cons (pv 0) (pa_cons (pv 7) pa_nil))) (pe_ix ix_str (pv 5) (pe_call H_law_take (hr.mono (by decide)) rfl T.g_law_take T.F_law_take.kp T.b_law_take .nil pass0 (pa_cons (pv 0) (pa_cons (pe_callB oLen rfl T.f_len (by decide +kernel) (pa_cons (pv 5) pa_nil)) pa_nil))) (fun _ _ => rfl))) pa_nil))) rfl)))))))) (pss_one (ps_ret (pv 3))))), h⟩
def t_law_network (K : PySem.W.Frag) (p_law_take p_law_drawn p_law_filled : Phi) : TS :=
  (tSeq (tAsg (tCall (toSp p_law_take) [] E0 (tCons (tVar 0) (tCons (tC (.int 5)) tNil))) (gName 3)) (tSeq (tIfS (tTest (tOp rEq (tVar 3) (tC (.int 0)))) (tRet (tCall (toSp p_law_drawn) [] E0 (tCons (tVar 0) (tCons (tVar 1) (tCons (tVar 2) tNil))))) tNext) (tSeq (tAsg (tCall (toSp p_law_filled) [] E0 (tCons (tVar 0) (tCons (tVar 1) (tCons (tVar 2) tNil)))) (gName 4)) (tSeq (tIfS (tAnd (tTest (tOp rEq (tVar 3) (tC (.int 1)))) (tTruth K (tDGet (tVar 4) (tC (.str "links"))))) (tSeq (tAsg (tCall (toSp p_law_take) [] E0 (tCons (tVar 0) (tCons (tCB (rLenD K) (tCons (tDGet (tVar 4) (tC (.str "links"))) tNil)) tNil))) (gName 5)) (sDPut (tVar 4) (tC (.str "links")) (tOp rCat (tSl (rSlL K) (tDGet (tVar 4) (tC (.str "links"))) tNoPart (tPart (tVar 5))) (tSl (rSlL K) (tDGet (tVar 4) (tC (.str "links"))) (tPart (tOp (rI0 fun i j => .int (i + j)) (tVar 5) (tC (.int 1)))) tNoPart)))) tNext) (tSeq (tIfS (tAnd (tTest (tOp rEq (tVar 3) (tC (.int 2)))) (tTruth K (tDGet (tVar 4) (tC (.str "links"))))) (tSeq (tAsg (tCall (toSp p_law_take) [] E0 (tCons (tVar 0) (tCons (tCB (rLenD K) (tCons (tDGet (tVar 4) (tC (.str "links"))) tNil)) tNil))) (gName 5)) (tSeq (tAsg (tOp (rIxL K) (tDGet (tVar 4) (tC (.str "links"))) (tVar 5)) (gName 6)) (sDPut (tVar 4) (tC (.str "links")) (tOp rCat (tOp rCat (tSl (rSlL K) (tDGet (tVar 4) (tC (.str "links"))) tNoPart (tPart (tVar 5))) (tLst (tCons (tOp rAddStr (tOp rIxS (tVar 6) (tC (.int 1))) (tOp rIxS (tVar 6) (tC (.int 0)))) tNil))) (tSl (rSlL K) (tDGet (tVar 4) (tC (.str "links"))) (tPart (tOp (rI0 fun i j => .int (i + j)) (tVar 5) (tC (.int 1)))) tNoPart))))) tNext) (tRet (tVar 4)))))))
theorem mk_law_network (T : Top K mg) {φ p_law_take p_law_drawn p_law_filled : Phi} (H_law_take : FnC P w K mg base 2 (a_law_take K) ["_law_pool_here", "_law_many"] p_law_take) (H_law_drawn : FnC P w K mg base 6 (a_law_drawn K) ["_law_pool_here", "_law_nodes", "_law_links"] p_law_drawn) (H_law_filled : FnC P w K mg base 7 (a_law_filled K) ["_law_pool_here", "_law_nodes", "_law_links"] p_law_filled)
    (len : ∀ S ds Q, φ S ds Q → ds.length = 3) (h : ∀ S ds Q, φ S ds Q → Sx S (startD N_law_network.length ds) (t_law_network K p_law_take p_law_drawn p_law_filled) { nx := fun S' _ => Q S' .non, rt := Q }) : FnC P w K mg base (8) (a_law_network K) ["_law_pool_here", "_law_nodes", "_law_links"] φ := by
  exact okD T.F_law_network sc_law_network len fun cdv A outer s H E hr => ⟨t_law_network K p_law_take p_law_drawn p_law_filled, (pss_cons (ps_set (i := 3) sc_law_network.nd rfl (Or.inl rfl) (pe_call H_law_take (hr.mono (by decide)) rfl T.g_law_take T.F_law_take.kp T.b_law_take .nil pass0 (pa_cons (pv 0) (pa_cons pe_int pa_nil)))) (pss_cons (ps_if (pt_cmpR op_eq (pv 3) pe_int (nomark _)) (pss_one (ps_ret (pe_call H_law_drawn (hr.mono (by decide)) rfl T.g_law_drawn T.F_law_drawn.kp T.b_law_drawn .nil pass0 (pa_cons (pv 0) (pa_cons (pv 1) (pa_cons (pv 2) pa_nil)))))) pss_nil) (pss_cons (ps_set (i := 4) sc_law_network.nd rfl (Or.inl rfl) (pe_call H_law_filled (hr.mono (by decide)) rfl T.g_law_filled T.F_law_filled.kp T.b_law_filled .nil pass0 (pa_cons (pv 0) (pa_cons (pv 1) (pa_cons (pv 2) pa_nil))))) (pss_cons (ps_if (PW.pt (pw_and (pt_cmpR op_eq (pv 3) pe_int (nomark _)) (pw_and1 (oTruth (pe_dget (hu_of hr) (pv 4) pe_str (fun _ _ => rfl)))))) (pss_cons (ps_set (i := 5) sc_law_network.nd rfl (Or.inl rfl) (pe_call H_law_take (hr.mono (by decide)) rfl T.g_law_take T.F_law_take.kp T.b_law_take .nil pass0 (pa_cons (pv 0) (pa_cons (pe_callB oLen rfl T.f_len (by decide +kernel) (pa_cons (pe_dget (hu_of hr) (pv 4) pe_str (fun _ _ => rfl)) pa_nil)) pa_nil)))) (pss_one (ps_dput (hu_of hr) (pv 4) pe_str (pe_op op_cat (pe_slice sl_list (pe_dget (hu_of hr) (pv 4) pe_str (fun _ _ => rfl)) po_none (po_some (pv 5))) (pe_slice sl_list (pe_dget (hu_of hr) (pv 4) pe_str (fun _ _ => rfl)) (po_some (pe_op op_add (pv 5) pe_int)) po_none)) rfl))) pss_nil) (pss_cons (ps_if (PW.pt (pw_and (pt_cmpR op_eq (pv 3) pe_int (nomark _)) (pw_and1 (oTruth (pe_dget (hu_of hr) (pv 4) pe_str (fun _ _ => rfl)))))) (pss_cons (ps_set (i := 5) sc_law_network.nd rfl (Or.inl rfl) (pe_call H_law_take (hr.mono (by decide)) rfl T.g_law_take T.F_law_take.kp T.b_law_take .nil pass0 (pa_cons (pv 0) (pa_cons (pe_callB oLen rfl T.f_len (by decide +kernel) (pa_cons (pe_dget (hu_of hr) (pv 4) pe_str (fun _ _ => rfl)) pa_nil)) pa_nil)))) (pss_cons (ps_set (i := 6) sc_law_network.nd rfl (Or.inl rfl) (pe_ix ix_list (pe_dget (hu_of hr) (pv 4) pe_str (fun _ _ => rfl)) (pv 5) (fun _ _ => rfl))) (pss_one (ps_dput (hu_of hr) (pv 4) pe_str (pe_op op_cat (pe_op op_cat (pe_slice sl_list (pe_dget (hu_of hr) (pv 4) pe_str (fun _ _ => rfl)) po_none (po_some (pv 5))) (pe_lst (pa_cons (pe_op oAddStr (pe_ix ix_str (pv 6) pe_int (fun _ _ => rfl)) (pe_ix ix_str (pv 6) pe_int (fun _ _ => rfl))) pa_nil))) (pe_slice sl_list (pe_dget (hu_of hr) (pv 4) pe_str (fun _ _ => rfl)) (po_some (pe_op op_add (pv 5) pe_int)) po_none)) rfl)))) pss_nil) (pss_one (ps_ret (pv 4)))))))), h⟩
def t_law_sets (K : PySem.W.Frag) : TS :=
  (tSeq (tAsg (tLst (tCons (tC (.str "")) tNil)) (gName 1)) (tSeq (tFor (iStr (tSl rSlS (tC (.str "ABCDEF")) tNoPart (tPart (tVar 0)))) (gName 2) (tAsg (tOp rCat (tVar 1) (tLc (iList K (tVar 1)) (gName 4) tYes (tOp rAddStr (tVar 4) (tVar 2)) [4])) (gName 1))) (tRet (tLc (iList K (tCB (rSortedPm K) (tCons (tLc (iList K (tVar 1)) (gName 4) (tTest (tOp rNe (tVar 4) (tC (.str "")))) (tTup (tCons (tCB (rLenD K) (tCons (tVar 4) tNil)) (tCons (tVar 4) tNil))) [4]) tNil))) (gName 3) tYes (tOp (rIxT K) (tVar 3) (tC (.int 1))) [3]))))
theorem mk_law_sets (T : Top K mg) {φ : Phi} 
    (len : ∀ S ds Q, φ S ds Q → ds.length = 1) (h : ∀ S ds Q, φ S ds Q → Sx S (startD N_law_sets.length ds) (t_law_sets K) { nx := fun S' _ => Q S' .non, rt := Q }) : FnC P w K mg base (1) (a_law_sets K) ["_law_many"] φ := by
  exact okD T.F_law_sets sc_law_sets len fun cdv A outer s H E hr => ⟨t_law_sets K, (pss_cons (ps_set (i := 1) sc_law_sets.nd rfl (Or.inl rfl) (pe_lst (pa_cons pe_str pa_nil))) (pss_cons (ps_for PassesOwn.never rfl (pi_str (pe_slice sl_str pe_str po_none (po_some (pv 0)))) (pg_name (i := 2) sc_law_sets.nd rfl (Or.inr rfl)) (pss_one (ps_set (i := 1) sc_law_sets.nd rfl (Or.inl rfl) (pe_op op_cat (pv 1) (pe_lc (own := [("_law_one", 4)]) (g := (gName 4)) (tt := tYes) (by rfl) sc_law_sets.nd (pi_list (pv 1)) (blkOk_by (own := [("_law_one", 4)]) (N := N_law_sets) (sc := defScope s_law_sets) (by decide +kernel)) (fun _ _ _ _ _ => (pg_name (i := 4) sc_law_sets.nd rfl (Or.inl rfl))) (fun _ _ _ _ _ => pts_nil) (fun _ _ _ _ _ => (pe_op oAddStr (pv 4) (pv 2)))))))) (pss_one (ps_ret (pe_lc (own := [("_law_pair", 3)]) (g := (gName 3)) (tt := tYes) (by rfl) sc_law_sets.nd (pi_list (pe_callB (oSortedPm (hu64_of hr)) rfl T.f_sorted (by decide +kernel) (pa_cons (pe_lc (own := [("_law_one", 4)]) (g := (gName 4)) (tt := (tTest (tOp rNe (tVar 4) (tC (.str ""))))) (by rfl) sc_law_sets.nd (pi_list (pv 1)) (blkOk_by (own := [("_law_one", 4)]) (N := N_law_sets) (sc := defScope s_law_sets) (by decide +kernel)) (fun _ _ _ _ _ => (pg_name (i := 4) sc_law_sets.nd rfl (Or.inl rfl))) (fun _ _ _ _ _ => (pts_one (pt_cmpR op_ne (pv 4) pe_str (nomark _)))) (fun _ _ _ _ _ => (pe_tup (pa_cons (pe_callB oLen rfl T.f_len (by decide +kernel) (pa_cons (pv 4) pa_nil)) (pa_cons (pv 4) pa_nil))))) pa_nil))) (blkOk_by (own := [("_law_pair", 3)]) (N := N_law_sets) (sc := defScope s_law_sets) (by decide +kernel)) (fun _ _ _ _ _ => (pg_name (i := 3) sc_law_sets.nd rfl (Or.inl rfl))) (fun _ _ _ _ _ => pts_nil) (fun _ _ _ _ _ => (pe_ix ix_tup (pv 3) pe_int (fun _ _ => rfl)))))))), h⟩
def t_law_messages_of (K : PySem.W.Frag) : TS :=
  (tSeq (tAsg (tLst tNil) (gName 2)) (tSeq (tFor (iRng1 (tCons (tCB (rLenD K) (tCons (tDGet (tVar 0) (tC (.str "nodes"))) tNil)) tNil)) (gName 3) (tIfS (tTest (tOp rInSign (tOp rIxS (tC (.str "ABCDEF")) (tVar 3)) (tVar 1))) (tDrop (tBM K "list" rExtend (tVar 2) (tCons (tOp (rIxL K) (tDGet (tVar 0) (tC (.str "nodes"))) (tVar 3)) tNil))) tNext)) (tRet (tVar 2))))
theorem mk_law_messages_of (T : Top K mg) {φ : Phi} 
    (len : ∀ S ds Q, φ S ds Q → ds.length = 2) (h : ∀ S ds Q, φ S ds Q → Sx S (startD N_law_messages_of.length ds) (t_law_messages_of K) { nx := fun S' _ => Q S' .non, rt := Q }) : FnC P w K mg base (1) (a_law_messages_of K) ["_law_network_here", "_law_letters"] φ := by
  exact okD T.F_law_messages_of sc_law_messages_of len fun cdv A outer s H E hr => ⟨t_law_messages_of K, (pss_cons (ps_set (i := 2) sc_law_messages_of.nd rfl (Or.inl rfl) (pe_lst pa_nil)) (pss_cons (ps_for PassesOwn.never rfl (pi_range1 rfl T.f_range (pa_cons (pe_callB oLen rfl T.f_len (by decide +kernel) (pa_cons (pe_dget (hu_of hr) (pv 0) pe_str (fun _ _ => rfl)) pa_nil)) pa_nil)) (pg_name (i := 3) sc_law_messages_of.nd rfl (Or.inl rfl)) (pss_one (ps_if (pt_cmpR oInSign (pe_ix ix_str pe_str (pv 3) (fun _ _ => rfl)) (pv 1) rfl) (pss_one (ps_expr (pe_bm PySem.F.plainAttrs_list PySem.F.slot_list_extend PySem.F.type_list_extend mt_extend (pv 2) (pa_cons (pe_ix ix_list (pe_dget (hu_of hr) (pv 0) pe_str (fun _ _ => rfl)) (pv 3) (fun _ _ => rfl)) pa_nil)))) pss_nil))) (pss_one (ps_ret (pv 2))))), h⟩
def t_law_demand (K : PySem.W.Frag) (p_law_messages_of p_law_rank : Phi) : TS :=
  (tRet (tOp (rI0 fun i j => .int (i - j)) (tCall (toSp p_law_rank) [] E0 (tCons (tCall (toSp p_law_messages_of) [] E0 (tCons (tVar 0) (tCons (tC (.str "ABCDEF")) tNil))) tNil)) (tCall (toSp p_law_rank) [] E0 (tCons (tCall (toSp p_law_messages_of) [] E0 (tCons (tVar 0) (tCons (tVar 1) tNil))) tNil))))
theorem mk_law_demand (T : Top K mg) {φ p_law_messages_of p_law_rank : Phi} (H_law_messages_of : FnC P w K mg base 1 (a_law_messages_of K) ["_law_network_here", "_law_letters"] p_law_messages_of) (H_law_rank : FnC P w K mg base 3 (a_law_rank K) ["_law_messages"] p_law_rank)
    (len : ∀ S ds Q, φ S ds Q → ds.length = 2) (h : ∀ S ds Q, φ S ds Q → Sx S (startD N_law_demand.length ds) (t_law_demand K p_law_messages_of p_law_rank) { nx := fun S' _ => Q S' .non, rt := Q }) : FnC P w K mg base (4) (a_law_demand K) ["_law_network_here", "_law_letters"] φ := by
  exact okD T.F_law_demand sc_law_demand len fun cdv A outer s H E hr => ⟨t_law_demand K p_law_messages_of p_law_rank, (pss_one (ps_ret (pe_op op_sub (pe_call H_law_rank (hr.mono (by decide)) rfl T.g_law_rank T.F_law_rank.kp T.b_law_rank .nil pass0 (pa_cons (pe_call H_law_messages_of (hr.mono (by decide)) rfl T.g_law_messages_of T.F_law_messages_of.kp T.b_law_messages_of .nil pass0 (pa_cons (pv 0) (pa_cons pe_str pa_nil))) pa_nil)) (pe_call H_law_rank (hr.mono (by decide)) rfl T.g_law_rank T.F_law_rank.kp T.b_law_rank .nil pass0 (pa_cons (pe_call H_law_messages_of (hr.mono (by decide)) rfl T.g_law_messages_of T.F_law_messages_of.kp T.b_law_messages_of .nil pass0 (pa_cons (pv 0) (pa_cons (pv 1) pa_nil))) pa_nil))))), h⟩
def t_law_entering (K : PySem.W.Frag) : TS :=
  (tRet (tLc (iRng1 (tCons (tCB (rLenD K) (tCons (tDGet (tVar 0) (tC (.str "links"))) tNil)) tNil)) (gName 2) (tAnd (tTest (tOp rInSign (tOp rIxS (tOp (rIxL K) (tDGet (tVar 0) (tC (.str "links"))) (tVar 2)) (tC (.int 1))) (tVar 1))) (tTest (tOp rNotInSign (tOp rIxS (tOp (rIxL K) (tDGet (tVar 0) (tC (.str "links"))) (tVar 2)) (tC (.int 0))) (tVar 1)))) (tVar 2) [2]))
theorem mk_law_entering (T : Top K mg) {φ : Phi} 
    (len : ∀ S ds Q, φ S ds Q → ds.length = 2) (h : ∀ S ds Q, φ S ds Q → Sx S (startD N_law_entering.length ds) (t_law_entering K) { nx := fun S' _ => Q S' .non, rt := Q }) : FnC P w K mg base (1) (a_law_entering K) ["_law_network_here", "_law_letters"] φ := by
  exact okD T.F_law_entering sc_law_entering len fun cdv A outer s H E hr => ⟨t_law_entering K, (pss_one (ps_ret (pe_lc (own := [("_law_k", 2)]) (g := (gName 2)) (tt := (tAnd (tTest (tOp rInSign (tOp rIxS (tOp (rIxL K) (tDGet (tVar 0) (tC (.str "links"))) (tVar 2)) (tC (.int 1))) (tVar 1))) (tTest (tOp rNotInSign (tOp rIxS (tOp (rIxL K) (tDGet (tVar 0) (tC (.str "links"))) (tVar 2)) (tC (.int 0))) (tVar 1))))) (by rfl) sc_law_entering.nd (pi_range1 rfl T.f_range (pa_cons (pe_callB oLen rfl T.f_len (by decide +kernel) (pa_cons (pe_dget (hu_of hr) (pv 0) pe_str (fun _ _ => rfl)) pa_nil)) pa_nil)) (blkOk_by (own := [("_law_k", 2)]) (N := N_law_entering) (sc := defScope s_law_entering) (by decide +kernel)) (fun _ _ _ _ _ => (pg_name (i := 2) sc_law_entering.nd rfl (Or.inl rfl))) (fun _ _ _ _ _ => (pts_one (PW.pt (pw_and (pt_cmpR oInSign (pe_ix ix_str (pe_ix ix_list (pe_dget (hu_of hr) (pv 0) pe_str (fun _ _ => rfl)) (pv 2) (fun _ _ => rfl)) pe_int (fun _ _ => rfl)) (pv 1) rfl) (pw_and1 (pt_cmpR oNotInSign (pe_ix ix_str (pe_ix ix_list (pe_dget (hu_of hr) (pv 0) pe_str (fun _ _ => rfl)) (pv 2) (fun _ _ => rfl)) pe_int (fun _ _ => rfl)) (pv 1) rfl)))))) (fun _ _ _ _ _ => (pv 2))))), h⟩
def t_law_deficient (K : PySem.W.Frag) (p_law_sets p_law_entering p_law_demand : Phi) : TS :=
  (tSeq (tFor (iList K (tCall (toSp p_law_sets) [] E0 (tCons (tCB (rLenD K) (tCons (tDGet (tVar 0) (tC (.str "nodes"))) tNil)) tNil))) (gName 1) (tIfS (tTest (tOp (rI0 fun i j => .bl (decide (i < j))) (tCB (rLenD K) (tCons (tCall (toSp p_law_entering) [] E0 (tCons (tVar 0) (tCons (tVar 1) tNil))) tNil)) (tCall (toSp p_law_demand) [] E0 (tCons (tVar 0) (tCons (tVar 1) tNil))))) (tRet (tVar 1)) tNext)) (tRet (tC (.str ""))))
theorem mk_law_deficient (T : Top K mg) {φ p_law_sets p_law_entering p_law_demand : Phi} (H_law_sets : FnC P w K mg base 1 (a_law_sets K) ["_law_many"] p_law_sets) (H_law_entering : FnC P w K mg base 1 (a_law_entering K) ["_law_network_here", "_law_letters"] p_law_entering) (H_law_demand : FnC P w K mg base 4 (a_law_demand K) ["_law_network_here", "_law_letters"] p_law_demand)
    (len : ∀ S ds Q, φ S ds Q → ds.length = 1) (h : ∀ S ds Q, φ S ds Q → Sx S (startD N_law_deficient.length ds) (t_law_deficient K p_law_sets p_law_entering p_law_demand) { nx := fun S' _ => Q S' .non, rt := Q }) : FnC P w K mg base (5) (a_law_deficient K) ["_law_network_here"] φ := by
  exact okD T.F_law_deficient sc_law_deficient len fun cdv A outer s H E hr => ⟨t_law_deficient K p_law_sets p_law_entering p_law_demand, (pss_cons (ps_for PassesOwn.never rfl (pi_list (pe_call H_law_sets (hr.mono (by decide)) rfl T.g_law_sets T.F_law_sets.kp T.b_law_sets .nil pass0 (pa_cons (pe_callB oLen rfl T.f_len (by decide +kernel) (pa_cons (pe_dget (hu_of hr) (pv 0) pe_str (fun _ _ => rfl)) pa_nil)) pa_nil))) (pg_name (i := 1) sc_law_deficient.nd rfl (Or.inl rfl)) (pss_one (ps_if (pt_cmpR op_lt (pe_callB oLen rfl T.f_len (by decide +kernel) (pa_cons (pe_call H_law_entering (hr.mono (by decide)) rfl T.g_law_entering T.F_law_entering.kp T.b_law_entering .nil pass0 (pa_cons (pv 0) (pa_cons (pv 1) pa_nil))) pa_nil)) (pe_call H_law_demand (hr.mono (by decide)) rfl T.g_law_demand T.F_law_demand.kp T.b_law_demand .nil pass0 (pa_cons (pv 0) (pa_cons (pv 1) pa_nil))) (nomark _)) (pss_one (ps_ret (pv 1))) pss_nil))) (pss_one (ps_ret pe_str))), h⟩
def t_law_only (K : PySem.W.Frag) (p_Network_init : Phi) : TS :=
  (tRet (tMake (He.ga K "Network") (toSp p_Network_init) [] E0 (tCons (tDGet (tVar 0) (tC (.str "variables"))) (tCons (tDGet (tVar 0) (tC (.str "nodes"))) (tCons (tLc (iSeq K (tVar 1)) (gName 2) tYes (tOp (rIxL K) (tDGet (tVar 0) (tC (.str "links"))) (tVar 2)) [2]) tNil)))))
theorem mk_law_only (T : Top K mg) {φ p_Network_init : Phi} (H_Network_init : FnC P w K mg base 4 (a_Network_init K) ["self", "variables", "nodes", "links"] p_Network_init)
    (len : ∀ S ds Q, φ S ds Q → ds.length = 2) (h : ∀ S ds Q, φ S ds Q → Sx S (startD N_law_only.length ds) (t_law_only K p_Network_init) { nx := fun S' _ => Q S' .non, rt := Q }) : FnC P w K mg base (6) (a_law_only K) ["_law_network_here", "_law_links"] φ := by
  exact okD T.F_law_only sc_law_only len fun cdv A outer s H E hr => ⟨t_law_only K p_Network_init, (pss_one (ps_ret (pe_make T.mk_Network H_Network_init (hr.mono (by decide)) rfl T.g_Network T.b_Network_init .nil pass0 (pa_cons (pe_dget (hu_of hr) (pv 0) pe_str (fun _ _ => rfl)) (pa_cons (pe_dget (hu_of hr) (pv 0) pe_str (fun _ _ => rfl)) (pa_cons (pe_lc (own := [("_law_link", 2)]) (g := (gName 2)) (tt := tYes) (by rfl) sc_law_only.nd (pi_seq (pv 1)) (blkOk_by (own := [("_law_link", 2)]) (N := N_law_only) (sc := defScope s_law_only) (by decide +kernel)) (fun _ _ _ _ _ => (pg_name (i := 2) sc_law_only.nd rfl (Or.inl rfl))) (fun _ _ _ _ _ => pts_nil) (fun _ _ _ _ _ => (pe_ix ix_list (pe_dget (hu_of hr) (pv 0) pe_str (fun _ _ => rfl)) (pv 2) (fun _ _ => rfl)))) pa_nil)))))), h⟩
def t_law_is_least (K : PySem.W.Frag) (p_law_only p_first_schedule p_is_complete p_is_feasible : Phi) : TS :=
  (tSeq (tAsg (tCall (toSp p_first_schedule) [] E0 (tCons (tCall (toSp p_law_only) [] E0 (tCons (tVar 0) (tCons (tVar 1) tNil))) tNil)) (gName 2)) (tSeq (tIfS (tOr (tTest (tOp rIsNone (tVar 2) (tC .non))) (tNot (tB (tCall (toSp p_is_complete) [] E0 (tCons (tCall (toSp p_law_only) [] E0 (tCons (tVar 0) (tCons (tVar 1) tNil))) (tCons (tVar 2) tNil)))))) (tRet (tC (.bl false))) tNext) (tSeq (tIfS (tTest (tOp (rNeD K) (tCB (rSorted K) (tCons (tLc (iTup K (tVar 2)) (gName 3) tYes (tOp (rIxT K) (tVar 3) (tC (.int 0))) [3]) tNil)) (tLstRg (tRg1 (tCB (rLenD K) (tCons (tVar 1) tNil)))))) (tRet (tC (.bl false))) tNext) (tRet (tNotV (tCB (rAny K) (tCons (tLc (iTup K (tVar 1)) (gName 4) tYes (tCall (toSp p_is_feasible) [] E0 (tCons (tCall (toSp p_law_only) [] E0 (tCons (tVar 0) (tCons (tLc (iTup K (tVar 1)) (gName 5) (tTest (tOp rNe (tVar 5) (tVar 4))) (tVar 5) [5]) tNil))) tNil)) [4]) tNil)))))))
theorem mk_law_is_least (T : Top K mg) {φ p_law_only p_first_schedule p_is_complete p_is_feasible : Phi} (H_law_only : FnC P w K mg base 6 (a_law_only K) ["_law_network_here", "_law_links"] p_law_only) (H_first_schedule : FnC P w K mg base 15 (a_first_schedule K) ["network"] p_first_schedule) (H_is_complete : FnC P w K mg base 10 (a_is_complete K) ["network", "transmissions"] p_is_complete) (H_is_feasible : FnC P w K mg base 11 (a_is_feasible K) ["network"] p_is_feasible)
    (len : ∀ S ds Q, φ S ds Q → ds.length = 2) (h : ∀ S ds Q, φ S ds Q → Sx S (startD N_law_is_least.length ds) (t_law_is_least K p_law_only p_first_schedule p_is_complete p_is_feasible) { nx := fun S' _ => Q S' .non, rt := Q }) : FnC P w K mg base (16) (a_law_is_least K) ["_law_network_here", "_law_links"] φ := by
  exact okD T.F_law_is_least sc_law_is_least len fun cdv A outer s H E hr => ⟨t_law_is_least K p_law_only p_first_schedule p_is_complete p_is_feasible, (pss_cons (ps_set (i := 2) sc_law_is_least.nd rfl (Or.inl rfl) (pe_call H_first_schedule (hr.mono (by decide)) rfl T.g_first_schedule T.F_first_schedule.kp T.b_first_schedule .nil pass0 (pa_cons (pe_call H_law_only (hr.mono (by decide)) rfl T.g_law_only T.F_law_only.kp T.b_law_only .nil pass0 (pa_cons (pv 0) (pa_cons (pv 1) pa_nil))) pa_nil))) (pss_cons (ps_if (PW.pt (pw_or (pt_cmpR oIsN (pv 2) pe_non (nomark _)) (pw_or1 (pt_not (pt_val (pe_call H_is_complete (hr.mono (by decide)) rfl T.g_is_complete T.F_is_complete.kp T.b_is_complete .nil pass0 (pa_cons (pe_call H_law_only (hr.mono (by decide)) rfl T.g_law_only T.F_law_only.kp T.b_law_only .nil pass0 (pa_cons (pv 0) (pa_cons (pv 1) pa_nil))) (pa_cons (pv 2) pa_nil)))))))) (pss_one (ps_ret pe_bl)) pss_nil) (pss_cons (ps_if (pt_cmpR (op_neD (hu64_of hr)) (pe_callB cr_sorted rfl T.f_sorted (by decide +kernel) (pa_cons (pe_lc (own := [("_law_row", 3)]) (g := (gName 3)) (tt := tYes) (by rfl) sc_law_is_least.nd (pi_tup (pv 2)) (blkOk_by (own := [("_law_row", 3)]) (N := N_law_is_least) (sc := defScope s_law_is_least) (by decide +kernel)) (fun _ _ _ _ _ => (pg_name (i := 3) sc_law_is_least.nd rfl (Or.inl rfl))) (fun _ _ _ _ _ => pts_nil) (fun _ _ _ _ _ => (pe_ix ix_tup (pv 3) pe_int (fun _ _ => rfl)))) pa_nil)) (pe_listRg (by rfl) rfl T.f_list (prg_1 rfl T.f_range (pe_callB oLen rfl T.f_len (by decide +kernel) (pa_cons (pv 1) pa_nil)))) (nomark _)) (pss_one (ps_ret pe_bl)) pss_nil) (pss_one (ps_ret (pe_not (pe_callB (cr_any (by rfl)) rfl T.f_any (by decide +kernel) (pa_cons (pe_lc (own := [("_law_link", 4)]) (g := (gName 4)) (tt := tYes) (by rfl) sc_law_is_least.nd (pi_tup (pv 1)) (blkOk_by (own := [("_law_link", 4)]) (N := N_law_is_least) (sc := defScope s_law_is_least) (by decide +kernel)) (fun _ _ _ _ _ => (pg_name (i := 4) sc_law_is_least.nd rfl (Or.inr rfl))) (fun _ _ _ _ _ => pts_nil) (fun _ _ _ _ _ => (pe_call H_is_feasible (hr.mono (by decide)) rfl T.g_is_feasible T.F_is_feasible.kp T.b_is_feasible .nil pass0 (pa_cons (pe_call H_law_only (hr.mono (by decide)) rfl T.g_law_only T.F_law_only.kp T.b_law_only .nil pass0 (pa_cons (pv 0) (pa_cons (pe_lc (own := [("_law_one", 5)]) (g := (gName 5)) (tt := (tTest (tOp rNe (tVar 5) (tVar 4)))) (by rfl) sc_law_is_least.nd (pi_tup (pv 1)) (blkOk_by (own := [("_law_one", 5)]) (N := N_law_is_least) (sc := ({ kind := .function, names := [(".0", .local), ("_law_link", .cell), ("is_feasible", .globalImplicit), ("_law_only", .globalImplicit), ("_law_links", .cell), ("_law_network_here", .cell)], isGenerator := false, isCoroutine := false, more := [] } : Scope)) (by decide +kernel)) (fun _ _ _ _ _ => (pg_name (i := 5) sc_law_is_least.nd rfl (Or.inl rfl))) (fun _ _ _ _ _ => (pts_one (pt_cmpR op_ne (pv 5) (pv 4) (nomark _)))) (fun _ _ _ _ _ => (pv 5))) pa_nil))) pa_nil)))) pa_nil)))))))), h⟩
def t_law (K : PySem.W.Frag) (p_law_pool p_law_network p_Network_init p_law_take p_reduced p_cheapest p_law_deficient p_helping_links p_law_is_least p_law_same p_with_link p_bound : Phi) : TS :=
  (tSeq (tAsg (tCall (toSp p_law_pool) [] E0 (tCons (tVar 0) tNil)) (gName 1)) (tSeq (tAsg (tCall (toSp p_law_network) [] E0 (tCons (tVar 1) (tCons (tC (.int 5)) (tCons (tC (.int 12)) tNil)))) (gName 2)) (tSeq (tAsg (tMake (He.ga K "Network") (toSp p_Network_init) [] E0 (tCons (tDGet (tVar 2) (tC (.str "variables"))) (tCons (tDGet (tVar 2) (tC (.str "nodes"))) (tCons (tDGet (tVar 2) (tC (.str "links"))) tNil)))) (gName 3)) (tSeq (tAsg (tLc (iList K (tDGet (tVar 2) (tC (.str "links")))) (gName 4) tYes (tCall (toSp p_law_take) [] E0 (tCons (tVar 1) (tCons (tOp (rIxT K) (tTup (tCons (tC (.int 4)) (tCons (tC (.int 100)) tNil))) (tCall (toSp p_law_take) [] E0 (tCons (tVar 1) (tCons (tC (.int 2)) tNil)))) tNil))) [4]) (gName 5)) (tSeq (tAsg (tCall (toSp p_reduced) [] E0 (tCons (tVar 3) tNil)) (gName 6)) (tSeq (tAsg (tCall (toSp p_cheapest) [] E0 (tCons (tVar 3) (tCons (tVar 5) tNil))) (gName 7)) (tSeq (tIfS (tOr (tTest (tOp rNe (tOp rIsNone (tVar 6) (tC .non)) (tOp rNe (tCall (toSp p_law_deficient) [] E0 (tCons (tVar 2) tNil)) (tC (.str ""))))) (tTest (tOp rNe (tOp rIsNone (tVar 7) (tC .non)) (tOp rIsNone (tVar 6) (tC .non))))) (tRet (tC (.bl false))) tNext) (tSeq (tAsg (tCall (toSp p_law_take) [] E0 (tCons (tVar 1) (tCons (tCB (rMax2) (tCons (tC (.int 1)) (tCons (tOp (rI0 fun i j => .int (i - j)) (tCB (rLenD K) (tCons (tDGet (tVar 2) (tC (.str "nodes"))) tNil)) (tC (.int 1))) tNil))) tNil))) (gName 8)) (tSeq (tIfS (tTest (tOp rIsNone (tVar 6) (tC .non))) (tSeq (tAsg (tCall (toSp p_helping_links) [] E0 (tCons (tVar 3) tNil)) (gName 9)) (tRet (tCB (rAll K) (tCons (tLc (iTup K (tVar 9)) (gName 4) tYes (tOp rNotNone (tCall (toSp p_reduced) [] E0 (tCons (tMake (He.ga K "Network") (toSp p_Network_init) [] E0 (tCons (tDGet (tVar 2) (tC (.str "variables"))) (tCons (tDGet (tVar 2) (tC (.str "nodes"))) (tCons (tOp rCat (tCB (rListOf K) (tCons (tDGet (tVar 2) (tC (.str "links"))) tNil)) (tLst (tCons (tVar 4) tNil))) tNil)))) tNil)) (tC .non)) [4]) tNil)))) tNext) (tSeq (tIfS (tOr (tNot (tB (tCall (toSp p_law_is_least) [] E0 (tCons (tVar 2) (tCons (tVar 6) tNil))))) (tOr (tNot (tB (tCall (toSp p_law_is_least) [] E0 (tCons (tVar 2) (tCons (tOp (rIxT K) (tVar 7) (tC (.int 1))) tNil))))) (tTest (tOp rNe (tCB (rLenD K) (tCons (tVar 6) tNil)) (tCB (rLenD K) (tCons (tOp (rIxT K) (tVar 7) (tC (.int 1))) tNil)))))) (tRet (tC (.bl false))) tNext) (tSeq (tIfS (tOr (tTest (tOp (rI0 fun i j => .bl (decide (i < j))) (tCB (rSum K) (tCons (tLc (iTup K (tVar 6)) (gName 4) tYes (tOp (rIxL K) (tVar 5) (tVar 4)) [4]) tNil)) (tOp (rIxT K) (tVar 7) (tC (.int 0))))) (tTest (tOp rNe (tCB (rSum K) (tCons (tLc (iTup K (tOp (rIxT K) (tVar 7) (tC (.int 1)))) (gName 4) tYes (tOp (rIxL K) (tVar 5) (tVar 4)) [4]) tNil)) (tOp (rIxT K) (tVar 7) (tC (.int 0)))))) (tRet (tC (.bl false))) tNext) (tSeq (tAsg (tCall (toSp p_cheapest) [] E0 (tCons (tVar 3) (tCons (tLc (iList K (tVar 5)) (gName 14) tYes (tOp (rI0 fun i j => .int (i + j)) (tVar 14) (tC (.int 1))) [14]) tNil))) (gName 10)) (tSeq (tIfS (tNot (tB (tCall (toSp p_law_same) [] E0 (tCons (tVar 10) (tCons (tTup (tCons (tOp (rI0 fun i j => .int (i + j)) (tOp (rIxT K) (tVar 7) (tC (.int 0))) (tCB (rLenD K) (tCons (tOp (rIxT K) (tVar 7) (tC (.int 1))) tNil))) (tCons (tOp (rIxT K) (tVar 7) (tC (.int 1))) tNil))) tNil))))) (tRet (tC (.bl false))) tNext) (tSeq (tIfS (tTest (tOp (rI0 fun i j => .bl (decide (j < i))) (tCB (rLenD K) (tCons (tDGet (tVar 2) (tC (.str "nodes"))) tNil)) (tC (.int 1)))) (tSeq (tAsg (tOp rAddStr (tOp rIxS (tC (.str "ABCDEF")) (tOp (rI0 fun i j => .int (i + j)) (tVar 8) (tC (.int 1)))) (tC (.str "A"))) (gName 4)) (tSeq (tAsg (tMake (He.ga K "Network") (toSp p_Network_init) [] E0 (tCons (tDGet (tVar 2) (tC (.str "variables"))) (tCons (tDGet (tVar 2) (tC (.str "nodes"))) (tCons (tOp rCat (tCB (rListOf K) (tCons (tDGet (tVar 2) (tC (.str "links"))) tNil)) (tLst (tCons (tVar 4) tNil))) tNil)))) (gName 11)) (tIfS (tOr (tTest (tOp rNotB (tCall (toSp p_with_link) [] E0 (tCons (tVar 3) (tCons (tVar 4) tNil))) (tC (.bl true)))) (tTest (tOp (rI0 fun i j => .bl (decide (j < i))) (tOp (rIxT K) (tCall (toSp p_cheapest) [] E0 (tCons (tVar 11) (tCons (tOp rCat (tVar 5) (tLst (tCons (tCall (toSp p_law_take) [] E0 (tCons (tVar 1) (tCons (tC (.int 3)) tNil))) tNil))) tNil))) (tC (.int 0))) (tOp (rIxT K) (tVar 7) (tC (.int 0)))))) (tRet (tC (.bl false))) tNext))) tNext) (tSeq (tAsg (tLc (iStr (tSl rSlS (tC (.str "ABCDEF")) tNoPart (tPart (tCB (rLenD K) (tCons (tDGet (tVar 2) (tC (.str "nodes"))) tNil))))) (gName 13) tYes (tTup (tCons (tVar 13) (tCons (tOp (rI0 fun i j => .int (i + j)) (tC (.int 1)) (tCall (toSp p_law_take) [] E0 (tCons (tVar 1) (tCons (tC (.int 50)) tNil)))) tNil))) [13]) (gName 12)) (tRet (tAndV (tOp (rI0 fun i j => .bl (decide (i ≤ j))) (tCall (toSp p_bound) [] E0 (tCons (tVar 3) (tCons (tVar 5) (tCons (tVar 12) tNil)))) (tOp (rIxT K) (tVar 7) (tC (.int 0)))) (tCall (toSp p_law_same) [] E0 (tCons (tCall (toSp p_bound) [] E0 (tCons (tVar 3) (tCons (tVar 5) (tCons (tLst tNil) tNil)))) (tCons (tC (.int 0)) tNil))))))))))))))))))))
theorem mk_law (T : Top K mg) {φ p_law_pool p_law_network p_Network_init p_law_take p_reduced p_cheapest p_law_deficient p_helping_links p_law_is_least p_law_same p_with_link p_bound : Phi} (H_law_pool : FnC P w K mg base 1 (a_law_pool K) ["_law_script"] p_law_pool) (H_law_network : FnC P w K mg base 8 (a_law_network K) ["_law_pool_here", "_law_nodes", "_law_links"] p_law_network) (H_Network_init : FnC P w K mg base 4 (a_Network_init K) ["self", "variables", "nodes", "links"] p_Network_init) (H_law_take : FnC P w K mg base 2 (a_law_take K) ["_law_pool_here", "_law_many"] p_law_take) (H_reduced : FnC P w K mg base 11 (a_reduced K) ["network"] p_reduced) (H_cheapest : FnC P w K mg base 11 (a_cheapest K) ["network", "costs"] p_cheapest) (H_law_deficient : FnC P w K mg base 5 (a_law_deficient K) ["_law_network_here"] p_law_deficient) (H_helping_links : FnC P w K mg base 13 (a_helping_links K) ["network"] p_helping_links) (H_law_is_least : FnC P w K mg base 16 (a_law_is_least K) ["_law_network_here", "_law_links"] p_law_is_least) (H_law_same : FnC P w K mg base 5 (a_law_same K) ["_law_actual", "_law_due"] p_law_same) (H_with_link : FnC P w K mg base 12 (a_with_link K) ["network", "link"] p_with_link) (H_bound : FnC P w K mg base 9 (a_bound K) ["network", "costs", "weights"] p_bound)
    (len : ∀ S ds Q, φ S ds Q → ds.length = 1) (h : ∀ S ds Q, φ S ds Q → Sx S (startD N_law.length ds) (t_law K p_law_pool p_law_network p_Network_init p_law_take p_reduced p_cheapest p_law_deficient p_helping_links p_law_is_least p_law_same p_with_link p_bound) { nx := fun S' _ => Q S' .non, rt := Q }) : FnC P w K mg base (17) (a_law K) ["_law_script"] φ := by
  exact okD T.F_law sc_law len fun cdv A outer s H E hr => ⟨t_law K p_law_pool p_law_network p_Network_init p_law_take p_reduced p_cheapest p_law_deficient p_helping_links p_law_is_least p_law_same p_with_link p_bound, (pss_cons (ps_set (i := 1) sc_law.nd rfl (Or.inr rfl) (pe_call H_law_pool (hr.mono (by decide)) rfl T.g_law_pool T.F_law_pool.kp T.b_law_pool .nil pass0 (pa_cons (pv 0) pa_nil))) (pss_cons (ps_set (i := 2) sc_law.nd rfl (Or.inr rfl) (pe_call H_law_network (hr.mono (by decide)) rfl T.g_law_network T.F_law_network.kp T.b_law_network .nil pass0 (pa_cons (pv 1) (pa_cons pe_int (pa_cons pe_int pa_nil))))) (pss_cons (ps_set (i := 3) sc_law.nd rfl (Or.inl rfl) (pe_make T.mk_Network H_Network_init (hr.mono (by decide)) rfl T.g_Network T.b_Network_init .nil pass0 (pa_cons (pe_dget (hu_of hr) (pv 2) pe_str (fun _ _ => rfl)) (pa_cons (pe_dget (hu_of hr) (pv 2) pe_str (fun _ _ => rfl)) (pa_cons (pe_dget (hu_of hr) (pv 2) pe_str (fun _ _ => rfl)) pa_nil))))) (pss_cons (ps_set (i := 5) sc_law.nd rfl (Or.inr rfl) (pe_lc (own := [("_law_link", 4)]) (g := (gName 4)) (tt := tYes) (by rfl) sc_law.nd (pi_list (pe_dget (hu_of hr) (pv 2) pe_str (fun _ _ => rfl))) (blkOk_by (own := [("_law_link", 4)]) (N := N_law) (sc := defScope s_law) (by decide +kernel)) (fun _ _ _ _ _ => (pg_name (i := 4) sc_law.nd rfl (Or.inl rfl))) (fun _ _ _ _ _ => pts_nil) (fun _ _ _ _ _ => (pe_call H_law_take (hr.mono (by decide)) rfl T.g_law_take T.F_law_take.kp T.b_law_take .nil pass0 (pa_cons (pv 1) (pa_cons (pe_ix ix_tup (pe_tup (pa_cons pe_int (pa_cons pe_int pa_nil))) (pe_call H_law_take (hr.mono (by decide)) rfl T.g_law_take T.F_law_take.kp T.b_law_take .nil pass0 (pa_cons (pv 1) (pa_cons pe_int pa_nil))) (fun _ _ => rfl)) pa_nil)))))) (pss_cons (ps_set (i := 6) sc_law.nd rfl (Or.inl rfl) (pe_call H_reduced (hr.mono (by decide)) rfl T.g_reduced T.F_reduced.kp T.b_reduced .nil pass0 (pa_cons (pv 3) pa_nil))) (pss_cons (ps_set (i := 7) sc_law.nd rfl (Or.inl rfl) (pe_call H_cheapest (hr.mono (by decide)) rfl T.g_cheapest T.F_cheapest.kp T.b_cheapest .nil pass0 (pa_cons (pv 3) (pa_cons (pv 5) pa_nil)))) (pss_cons (ps_if (PW.pt (pw_or (pt_cmpR op_ne (pe_cmpR oIsN (pv 6) pe_non (nomark _)) (pe_cmpR op_ne (pe_call H_law_deficient (hr.mono (by decide)) rfl T.g_law_deficient T.F_law_deficient.kp T.b_law_deficient .nil pass0 (pa_cons (pv 2) pa_nil)) pe_str (nomark _)) (nomark _)) (pw_or1 (pt_cmpR op_ne (pe_cmpR oIsN (pv 7) pe_non (nomark _)) (pe_cmpR oIsN (pv 6) pe_non (nomark _)) (nomark _))))) (pss_one (ps_ret pe_bl)) pss_nil) (pss_cons (ps_set (i := 8) sc_law.nd rfl (Or.inl rfl) (pe_call H_law_take (hr.mono (by decide)) rfl T.g_law_take T.F_law_take.kp T.b_law_take .nil pass0 (pa_cons (pv 1) (pa_cons (pe_callB (oMax2 (by rfl)) rfl T.f_max (by decide +kernel) (pa_cons pe_int (pa_cons (pe_op op_sub (pe_callB oLen rfl T.f_len (by decide +kernel) (pa_cons (pe_dget (hu_of hr) (pv 2) pe_str (fun _ _ => rfl)) pa_nil)) pe_int) pa_nil))) pa_nil)))) (pss_cons (ps_if (pt_cmpR oIsN (pv 6) pe_non (nomark _)) (pss_cons (ps_set (i := 9) sc_law.nd rfl (Or.inl rfl) (pe_call H_helping_links (hr.mono (by decide)) rfl T.g_helping_links T.F_helping_links.kp T.b_helping_links .nil pass0 (pa_cons (pv 3) pa_nil))) (pss_one (ps_ret (pe_callB (cr_all (by rfl)) rfl T.f_all (by decide +kernel) (pa_cons (pe_lc (own := [("_law_link", 4)]) (g := (gName 4)) (tt := tYes) (by rfl) sc_law.nd (pi_tup (pv 9)) (blkOk_by (own := [("_law_link", 4)]) (N := N_law) (sc := defScope s_law) (by decide +kernel)) (fun _ _ _ _ _ => (pg_name (i := 4) sc_law.nd rfl (Or.inl rfl))) (fun _ _ _ _ _ => pts_nil) (fun _ _ _ _ _ => (pe_cmpR oNotN (pe_call H_reduced (hr.mono (by decide)) rfl T.g_reduced T.F_reduced.kp T.b_reduced .nil pass0 (pa_cons (pe_make T.mk_Network H_Network_init (hr.mono (by decide)) rfl T.g_Network T.b_Network_init .nil pass0 (pa_cons (pe_dget (hu_of hr) (pv 2) pe_str (fun _ _ => rfl)) (pa_cons (pe_dget (hu_of hr) (pv 2) pe_str (fun _ _ => rfl)) (pa_cons (pe_op op_cat (pe_callTy oListOf rfl T.f_list (by decide +kernel) (pa_cons (pe_dget (hu_of hr) (pv 2) pe_str (fun _ _ => rfl)) pa_nil)) (pe_lst (pa_cons (pv 4) pa_nil))) pa_nil)))) pa_nil)) pe_non (nomark _)))) pa_nil))))) pss_nil) (pss_cons (ps_if (PW.pt (pw_or (pt_not (pt_val (pe_call H_law_is_least (hr.mono (by decide)) rfl T.g_law_is_least T.F_law_is_least.kp T.b_law_is_least .nil pass0 (pa_cons (pv 2) (pa_cons (pv 6) pa_nil))))) (pw_or (pt_not (pt_val (pe_call H_law_is_least (hr.mono (by decide)) rfl T.g_law_is_least T.F_law_is_least.kp T.b_law_is_least .nil pass0 (pa_cons (pv 2) (pa_cons (pe_ix ix_tup (pv 7) pe_int (fun _ _ => rfl)) pa_nil))))) (pw_or1 (pt_cmpR op_ne (pe_callB oLen rfl T.f_len (by decide +kernel) (pa_cons (pv 6) pa_nil)) (pe_callB oLen rfl T.f_len (by decide +kernel) (pa_cons (pe_ix ix_tup (pv 7) pe_int (fun _ _ => rfl)) pa_nil)) (nomark _)))))) (pss_one (ps_ret pe_bl)) pss_nil) (pss_cons (ps_if (PW.pt (pw_or (pt_cmpR op_lt (pe_callB (cr_sum (by rfl)) rfl T.f_sum (by decide +kernel) (pa_cons (pe_lc (own := [("_law_link", 4)]) (g := (gName 4)) (tt := tYes) (by rfl) sc_law.nd (pi_tup (pv 6)) (blkOk_by (own := [("_law_link", 4)]) (N := N_law) (sc := defScope s_law) (by decide +kernel)) (fun _ _ _ _ _ => (pg_name (i := 4) sc_law.nd rfl (Or.inl rfl))) (fun _ _ _ _ _ => pts_nil) (fun _ _ _ _ _ => (pe_ix ix_list (pv 5) (pv 4) (fun _ _ => rfl)))) pa_nil)) (pe_ix ix_tup (pv 7) pe_int (fun _ _ => rfl)) (nomark _)) (pw_or1 (pt_cmpR op_ne (pe_callB (cr_sum (by rfl)) rfl T.f_sum (by decide +kernel) (pa_cons (pe_lc (own := [("_law_link", 4)]) (g := (gName 4)) (tt := tYes) (by rfl) sc_law.nd (pi_tup (pe_ix ix_tup (pv 7) pe_int (fun _ _ => rfl))) (blkOk_by (own := [("_law_link", 4)]) (N := N_law) (sc := defScope s_law) (by decide +kernel)) (fun _ _ _ _ _ => (pg_name (i := 4) sc_law.nd rfl (Or.inl rfl))) (fun _ _ _ _ _ => pts_nil) (fun _ _ _ _ _ => (pe_ix ix_list (pv 5) (pv 4) (fun _ _ => rfl)))) pa_nil)) (pe_ix ix_tup (pv 7) pe_int (fun _ _ => rfl)) (nomark _))))) (pss_one (ps_ret pe_bl)) pss_nil) (pss_cons (ps_set (i := 10) sc_law.nd rfl (Or.inl rfl) (pe_call H_cheapest (hr.mono (by decide)) rfl T.g_cheapest T.F_cheapest.kp T.b_cheapest .nil pass0 (pa_cons (pv 3) (pa_cons (pe_lc (own := [("_law_cost", 14)]) (g := (gName 14)) (tt := tYes) (by rfl) sc_law.nd (pi_list (pv 5)) (blkOk_by (own := [("_law_cost", 14)]) (N := N_law) (sc := defScope s_law) (by decide +kernel)) (fun _ _ _ _ _ => (pg_name (i := 14) sc_law.nd rfl (Or.inl rfl))) (fun _ _ _ _ _ => pts_nil) (fun _ _ _ _ _ => (pe_op op_add (pv 14) pe_int))) pa_nil)))) (pss_cons (ps_if (pt_not (pt_val (pe_call H_law_same (hr.mono (by decide)) rfl T.g_law_same T.F_law_same.kp T.b_law_same .nil pass0 (pa_cons (pv 10) (pa_cons (pe_tup (pa_cons (pe_op op_add (pe_ix ix_tup (pv 7) pe_int (fun _ _ => rfl)) (pe_callB oLen rfl T.f_len (by decide +kernel) (pa_cons (pe_ix ix_tup (pv 7) pe_int (fun _ _ => rfl)) pa_nil))) (pa_cons (pe_ix ix_tup (pv 7) pe_int (fun _ _ => rfl)) pa_nil))) pa_nil))))) (pss_one (ps_ret pe_bl)) pss_nil) (pss_cons (ps_if (pt_cmpR op_gt (pe_callB oLen rfl T.f_len (by decide +kernel) (pa_cons (pe_dget (hu_of hr) (pv 2) pe_str (fun _ _ => rfl)) pa_nil)) pe_int (nomark _)) (pss_cons (ps_set (i := 4) sc_law.nd rfl (Or.inl rfl) (pe_op oAddStr (pe_ix ix_str pe_str (pe_op op_add (pv 8) pe_int) (fun _ _ => rfl)) pe_str)) (pss_cons (ps_set (i := 11) sc_law.nd rfl (Or.inl rfl) (pe_make T.mk_Network H_Network_init (hr.mono (by decide)) rfl T.g_Network T.b_Network_init .nil pass0 (pa_cons (pe_dget (hu_of hr) (pv 2) pe_str (fun _ _ => rfl)) (pa_cons (pe_dget (hu_of hr) (pv 2) pe_str (fun _ _ => rfl)) (pa_cons (pe_op op_cat (pe_callTy oListOf rfl T.f_list (by decide +kernel) (pa_cons (pe_dget (hu_of hr) (pv 2) pe_str (fun _ _ => rfl)) pa_nil)) (pe_lst (pa_cons (pv 4) pa_nil))) pa_nil))))) (pss_one (ps_if (PW.pt (pw_or (pt_cmpR op_notBl (pe_call H_with_link (hr.mono (by decide)) rfl T.g_with_link T.F_with_link.kp T.b_with_link .nil pass0 (pa_cons (pv 3) (pa_cons (pv 4) pa_nil))) pe_bl (nomark _)) (pw_or1 (pt_cmpR op_gt (pe_ix ix_tup (pe_call H_cheapest (hr.mono (by decide)) rfl T.g_cheapest T.F_cheapest.kp T.b_cheapest .nil pass0 (pa_cons (pv 11) (pa_cons (pe_op op_cat (pv 5) (pe_lst (pa_cons (pe_call H_law_take (hr.mono (by decide)) rfl T.g_law_take T.F_law_take.kp T.b_law_take .nil pass0 (pa_cons (pv 1) (pa_cons pe_int pa_nil))) pa_nil))) pa_nil))) pe_int (fun _ _ => rfl)) (pe_ix ix_tup (pv 7) pe_int (fun _ _ => rfl)) (nomark _))))) (pss_one (ps_ret pe_bl)) pss_nil)))) pss_nil) (pss_cons (ps_setLc (i := 12) (own := [("_law_letter", 13)]) (g := (gName 13)) (tt := tYes) (by rfl) sc_law.nd rfl rfl (sw_true rfl rfl rfl (by decide +kernel)) (pi_str (pe_slice sl_str pe_str po_none (po_some (pe_callB oLen rfl T.f_len (by decide +kernel) (pa_cons (pe_dget (hu_of hr) (pv 2) pe_str (fun _ _ => rfl)) pa_nil))))) (blkOk_by (own := [("_law_letter", 13)]) (N := N_law) (sc := defScope s_law) (by decide +kernel)) (fun _ _ _ _ _ => (pg_name (i := 13) sc_law.nd rfl (Or.inl rfl))) (fun _ _ _ _ _ => pts_nil) (fun _ _ _ _ _ => (pe_tup (pa_cons (pv 13) (pa_cons (pe_op op_add pe_int (pe_call H_law_take (hr.mono (by decide)) rfl T.g_law_take T.F_law_take.kp T.b_law_take .nil pass0 (pa_cons (pv 1) (pa_cons pe_int pa_nil)))) pa_nil))))) (pss_one (ps_ret (pe_and (pe_cmpR op_le (pe_call H_bound (hr.mono (by decide)) rfl T.g_bound T.F_bound.kp T.b_bound .nil pass0 (pa_cons (pv 3) (pa_cons (pv 5) (pa_cons (pv 12) pa_nil)))) (pe_ix ix_tup (pv 7) pe_int (fun _ _ => rfl)) (nomark _)) (pe_one (pe_call H_law_same (hr.mono (by decide)) rfl T.g_law_same T.F_law_same.kp T.b_law_same .nil pass0 (pa_cons (pe_call H_bound (hr.mono (by decide)) rfl T.g_bound T.F_bound.kp T.b_bound .nil pass0 (pa_cons (pv 3) (pa_cons (pv 5) (pa_cons (pe_lst pa_nil) pa_nil)))) (pa_cons pe_int pa_nil)))))))))))))))))))))), h⟩
end AK
set_option Elab.async false
set_option linter.all false
set_option maxRecDepth 100000
set_option maxHeartbeats 4000000
/-! The rules in the form in which they are used: the four ways on written apart; more rules. -/
namespace AK
open PySem PySem.Spec PyProof.Rows L2
section
variable {K : PySem.W.Frag} {S : Sto} {ρ : Env} {ta tb te tc : TE} {tt tu : TT} {ts tr : TS} {d x y : D} {g : TG} {wi : TI} {nx bk ct : Sto → Env → Prop} {rt : Sto → D → Prop} {P : Sto → D → Prop}
theorem q_seq (h : Sx S ρ ts ⟨fun S' ρ' => Sx S' ρ' tr ⟨nx, rt, bk, ct⟩, rt, bk, ct⟩) : Sx S ρ (tSeq ts tr) ⟨nx, rt, bk, ct⟩ := sx_seq h
theorem q_next (h : nx S ρ) : Sx S ρ tNext ⟨nx, rt, bk, ct⟩ := sx_next h
theorem q_break (h : bk S ρ) : Sx S ρ tBreak ⟨nx, rt, bk, ct⟩ := sx_break h
theorem q_asg {i : Nat} (h : Ev S ρ te fun S1 x => nx S1 (ρ.set i (some x))) : Sx S ρ (tAsg te (gName i)) ⟨nx, rt, bk, ct⟩ := sx_asg h
theorem q_asgG (h : Ev S ρ te fun S1 x => GD S1 ρ g x nx) : Sx S ρ (tAsg te g) ⟨nx, rt, bk, ct⟩ := sx_asgG h
theorem q_drop (h : Ev S ρ te fun S1 _ => nx S1 ρ) : Sx S ρ (tDrop te) ⟨nx, rt, bk, ct⟩ := sx_drop h
theorem q_ret (h : Ev S ρ te rt) : Sx S ρ (tRet te) ⟨nx, rt, bk, ct⟩ := sx_ret h
theorem q_if (h : EvT S ρ tt fun S1 b => (b = true → Sx S1 ρ ts ⟨nx, rt, bk, ct⟩) ∧ (b = false → Sx S1 ρ tr ⟨nx, rt, bk, ct⟩)) : Sx S ρ (tIfS tt ts tr) ⟨nx, rt, bk, ct⟩ := sx_if h
theorem q_aug {i : Nat} {f : Int → Int → Int} {a : Int} (hx : ρ[i]? = some (some (.int a))) (h : Ev S ρ te fun S1 x => ∃ b, x = .int b ∧ nx S1 (ρ.set i (some (.int (f a b))))) : Sx S ρ (tAug i te (ipI f)) ⟨nx, rt, bk, ct⟩ := sx_aug hx h
theorem q_fld {f : Str} (h : Ev S ρ te fun S1 y => Ev S1 ρ ta fun S2 x => ∃ a C ns l, x = .ref a ∧ S2 a = some (.ins C ns l) ∧ Cls K C ∧ NoAttr K C f ∧ ns.length < 1000 ∧ nx (S2.put a (.ins C (putN f y ns l).1 (putN f y ns l).2)) ρ) : Sx S ρ (sFld K ta te f) ⟨nx, rt, bk, ct⟩ := sx_fld h
theorem q_less {S' : Sto} {ρ' : Env} (l : SLe S' S) (hl : ρ'.length = ρ.length) (hr : ∀ (i : Nat) (d : D), ρ'[i]? = some (some d) → ρ[i]? = some (some d)) (h : Sx S' ρ' ts ⟨nx, rt, bk, ct⟩) : Sx S ρ ts ⟨nx, rt, bk, ct⟩ := sx_less l hl hr h
theorem q_lessS {S' : Sto} (l : SLe S' S) (h : Sx S' ρ ts ⟨nx, rt, bk, ct⟩) : Sx S ρ ts ⟨nx, rt, bk, ct⟩ := sx_less l rfl (fun _ _ h => h) h
theorem q_while (W : Nat → Sto → Env → Prop) (m0 : Nat) (h0 : W m0 S ρ)
    (hs : ∀ m S' ρ', W m S' ρ' → EvT S' ρ' tt fun S1 b => (b = true → Sx S1 ρ' ts ⟨fun S2 ρ2 => ∃ m', m' < m ∧ W m' S2 ρ2, rt, nx, fun S2 ρ2 => ∃ m', m' < m ∧ W m' S2 ρ2⟩) ∧ (b = false → nx S1 ρ')) : Sx S ρ (tWhile tt ts) ⟨nx, rt, bk, ct⟩ := sx_while W m0 h0 hs
theorem q_forN {j : Nat} (h : EvI S ρ wi fun S1 T => ∃ I : Nat → Sto → Env → Prop, I 0 S1 ρ ∧ (∀ i S' ρ', i ≤ T.items.length → I i S' ρ' → T.need S') ∧
      (∀ i d S' ρ', T.items[i]? = some d → I i S' ρ' → Sx S' (ρ'.set j (some d)) ts ⟨I (i + 1), rt, nx, I (i + 1)⟩) ∧
      ∀ S' ρ', I T.items.length S' ρ' → nx S' ρ') : Sx S ρ (tFor wi (gName j) ts) ⟨nx, rt, bk, ct⟩ := sx_forN h
theorem q_for (h : EvI S ρ wi fun S1 T => ∃ I : Nat → Sto → Env → Prop, I 0 S1 ρ ∧ (∀ i S' ρ', i ≤ T.items.length → I i S' ρ' → T.need S') ∧
      (∀ i d S' ρ', T.items[i]? = some d → I i S' ρ' → GD S' ρ' g d fun S2 ρ2 => Sx S2 ρ2 ts ⟨I (i + 1), rt, nx, I (i + 1)⟩) ∧
      ∀ S' ρ', I T.items.length S' ρ' → nx S' ρ') : Sx S ρ (tFor wi g ts) ⟨nx, rt, bk, ct⟩ := sx_for h
theorem q_frz {a : Addr} {l : List D} (h0 : S a = some (.lst l)) (S' : Sto) (ρ' : Env) (hl : ρ'.length = ρ.length)
    (hr : ∀ (i : Nat) (d : D), ρ'[i]? = some (some d) → ρ[i]? = some (some d) ∨ (ρ[i]? = some (some (.ref a)) ∧ d = .lst l)) (hS : SLe S' (S.del a)) (h : Sx S' ρ' ts ⟨nx, rt, bk, ct⟩) : Sx S ρ ts ⟨nx, rt, bk, ct⟩ := sx_frz h0 S' ρ' hl hr hS h
theorem q_frzF {a p : Addr} {l : List D} {C : Addr} {ns : List Str} {fs fs' : List D} (h0 : S a = some (.lst l)) (hp : S p = some (.ins C ns fs)) (hap : p ≠ a)
    (hf : fs'.length = fs.length ∧ ∀ (i : Nat) (d : D), fs'[i]? = some d → fs[i]? = some d ∨ (fs[i]? = some (.ref a) ∧ d = .lst l)) (h : Sx ((S.del a).put p (.ins C ns fs')) ρ ts ⟨nx, rt, bk, ct⟩) : Sx S ρ ts ⟨nx, rt, bk, ct⟩ := sx_frzF h0 hp hap hf h
theorem q_dputL {td tv : TE} (h : Ev S ρ tv fun S1 v => Ev S1 ρ td fun S2 x => ∃ a dv dn dl, x = .ref a ∧ S2 a = some (.dk NK [dv, dn, dl]) ∧ nx (S2.put a (.dk NK [dv, dn, v])) ρ) : Sx S ρ (sDPut td (tC (.str "links")) tv) ⟨nx, rt, bk, ct⟩ := sx_dputL h
theorem q_augL {to ti te : TE} {f : Int → Int → Int} (h : Ev S ρ to fun S1 o => Ev S1 ρ ti fun S2 i => ∃ (a : Addr) (l : List D) (j : Nat) (x : Int), o = .ref a ∧ i = .int (j : Nat) ∧ S2 a = some (.lst l) ∧ l[j]? = some (.int x) ∧
    Ev S2 ρ te fun S3 y => ∃ z, y = .int z ∧ S3 a = some (.lst l) ∧ nx (S3.put a (.lst (l.set j (.int (f x z))))) ρ) : Sx S ρ (tAugS to ti te (rGetL K) (ipI f) rSetL) ⟨nx, rt, bk, ct⟩ := sx_augL h
theorem q_never_if {rest : TS} (h : EvT S ρ tt fun S1 b => b = false ∧ nx S1 ρ) : Sx S ρ (tIfS tt rest tNext) ⟨nx, rt, bk, ct⟩ :=
  q_if (evT_mono h fun S' b h => ⟨fun z => by have e := h.1; rw [e] at z; exact absurd z (by decide), fun _ => q_next h.2⟩)
theorem q_frzO {a : Addr} {C : Addr} {ns : List Str} {l : List D} {i : Nat} (h0 : S a = some (.ins C ns l)) (hi : ρ[i]? = some (some (.ref a))) (h : Sx (S.del a) (ρ.set i (some (.ob C ns l))) ts ⟨nx, rt, bk, ct⟩) : Sx S ρ ts ⟨nx, rt, bk, ct⟩ := fun F G H σ w s N c => by
  obtain ⟨o, ho, cr, g0, w2⟩ := w.frz h0
  cases cr with
  | @ins _ dx fs _ _ en rs =>
    have e := same_new (o := HO.ins C dx fs) g0
    refine h F _ H σ w2 ⟨by rw [List.length_set]; exact s.len, fun j d hj => ?_⟩ N (c.mono e)
    by_cases hij : i = j
    · subst hij
      have hlt : i < ρ.length := (List.getElem?_eq_some_iff.mp hi).1
      rw [List.getElem?_set_self hlt] at hj
      cases hj
      obtain ⟨v, h1, h2⟩ := s.at_ i _ hi
      cases h2
      exact ⟨_, h1, .ob upd_same en (rs.mono e)⟩
    · rw [List.getElem?_set_ne hij] at hj
      obtain ⟨v, h1, h2⟩ := s.at_ j d hj
      exact ⟨v, h1, h2.mono e⟩
/-- the entries of a cell -/
def Cell.ents : Cell → List D
  | .lst l => l
  | .ins _ _ l => l
  | .dk _ l => l
def Cell.withE : Cell → List D → Cell
  | .lst _, l => .lst l
  | .ins C ns _, l => .ins C ns l
  | .dk ks _, l => .dk ks l
theorem reps_frz {G : Hp} {a : Addr} {l : List D} {xs : List V} (g0 : G a = none) (rs : Reps G l xs) {fs fs' : List D} {vs : List V} (rv : Reps G fs vs) (hl : fs'.length = fs.length)
    (hf : ∀ (i : Nat) (d : D), fs'[i]? = some d → fs[i]? = some d ∨ (fs[i]? = some (.ref a) ∧ d = .lst l)) : Reps (upd G a (.lst xs)) fs' vs := by
  have e := same_new (o := HO.lst xs) g0
  have all : ∀ (l1 : List D) (l2 : List V), l1.length = l2.length → (∀ (i : Nat) (d : D), l1[i]? = some d → ∃ v, l2[i]? = some v ∧ Rep (upd G a (.lst xs)) d v) → Reps (upd G a (.lst xs)) l1 l2 := by
    intro l1
    induction l1 with
    | nil =>
      intro l2 hl _
      cases l2 with
      | nil => exact .nil
      | cons _ _ => cases hl
    | cons d0 l1 ih =>
      intro l2 hl hh
      cases l2 with
      | nil => cases hl
      | cons v0 l2 =>
        obtain ⟨v, q1, q2⟩ := hh 0 d0 rfl
        cases q1
        exact .cons q2 (ih l2 (Nat.succ.inj hl) fun i d hi => hh (i + 1) d hi)
  refine all _ _ (hl.trans rv.length) fun i d hi => ?_
  rcases hf i d hi with q | ⟨q, ed⟩
  · obtain ⟨v, h1, h2⟩ := rv.get q
    exact ⟨v, h1, h2.mono e⟩
  · obtain ⟨v, h1, h2⟩ := rv.get q
    cases h2
    subst ed
    exact ⟨_, h1, .lst upd_same (rs.mono e)⟩
/-- a, a cell that is a list, stands for good, and the cell at p names it -/
theorem q_frzC {a p : Addr} {l : List D} {c : Cell} {fs' : List D} (h0 : S a = some (.lst l)) (hp : S p = some c) (hap : p ≠ a)
    (hl : fs'.length = c.ents.length) (hf : ∀ (i : Nat) (d : D), fs'[i]? = some d → c.ents[i]? = some d ∨ (c.ents[i]? = some (.ref a) ∧ d = .lst l)) (h : Sx ((S.del a).put p (c.withE fs')) ρ ts ⟨nx, rt, bk, ct⟩) : Sx S ρ ts ⟨nx, rt, bk, ct⟩ := fun F G H σ w s N k => by
  obtain ⟨o, ho, cr, g0, w2⟩ := w.frz h0
  cases cr with
  | @lst _ xs rs =>
    have e := same_new (o := HO.lst xs) g0
    have hp2 : (S.del a) p = some c := by
      rw [del_ne hap]
      exact hp
    obtain ⟨gp0, o20, ho20, cr20⟩ := w.hid p c hp
    obtain ⟨gp, o2, ho2, cr2⟩ := w2.hid p _ hp2
    rw [ho20] at ho2
    cases ho2
    refine h F _ H σ ⟨w2.ext, fun b c' hb => ?_, fun b u hb => ?_⟩ (s.mono e) N (k.mono e)
    · by_cases hbp : b = p
      · subst hbp
        rw [put_same] at hb
        cases hb
        refine ⟨gp, _, ho20, ?_⟩
        cases cr20 with
        | lst r => exact .lst (reps_frz g0 rs r hl hf)
        | ins en r => exact .ins en (reps_frz g0 rs r hl hf)
        | dk en r => exact .dk en (reps_frz g0 rs r hl hf)
      · rw [put_ne hbp] at hb
        exact w2.hid b c' hb
    · obtain ⟨q1, q2, q3⟩ := w2.frm b u hb
      have nb : b ≠ p := fun z => by
        rw [z, hp2] at q3
        cases q3
      exact ⟨q1, q2, by rw [put_ne nb]; exact q3⟩
/-! ### more expressions -/
theorem sl_S {z : Str} {lo hi : Option Int} (hz : z.length ≤ 16777216) (q : P S (.str (cutS z lo hi))) : ∀ F G H vx, Wd S F G H → Rep G (.str z) vx → ∀ Q, Pq F G P Q → rSlS vx lo hi H Q := fun F G H vx w r Q k => by
  cases r
  exact ⟨z, rfl, by rw [sizeLine_eq]; exact hz, k _ _ _ _ _ (Same.refl _) w q .str⟩
theorem kw_sortedRevH {ns : List Int} (h : LV S x (ns.map D.int)) (q : ∀ ns' : List Int, ns'.Perm ns → ns'.Pairwise (· ≥ ·) → ∀ p, S p = none → P (S.put p (.lst (ns'.map D.int))) (.ref p)) :
    ∀ F G H vs ws, Wd S F G H → Reps G [x] vs → Reps G [.bl true] ws → ∀ Q, Pq F G P Q → rSortedKw K true [.bl true] vs ws H Q := fun F G H vs ws w r r2 Q k => by
  cases r with
  | cons r t =>
    cases t
    cases r2 with
    | cons r2 t2 =>
      cases t2
      cases r2
      obtain ⟨a, xs, rfl, ha, rr⟩ := h.at_ w r
      rw [rr.ints] at ha
      exact ⟨a, ns, rfl, rfl, SqL.of ha, fun ns' p h1 h2 hp => k _ _ _ _ _ (Same.refl _) (w.newH hp (.lst Reps.of_ints)) (q ns' h1 h2 p (w.sfree hp)) .ref⟩
theorem evI_seqL {P : Sto → DIt → Prop} (h : EvI S ρ (iList K te) P) : EvI S ρ (iSeq K te) P := fun F G H σ w s R k => .inl (h F G H σ w s R k)
theorem evI_seqT {P : Sto → DIt → Prop} (h : EvI S ρ (iTup K te) P) : EvI S ρ (iSeq K te) P := fun F G H σ w s R k => .inr (h F G H σ w s R k)
theorem evI_enumSL {t : TA} {P : Sto → DIt → Prop} (h : EvI S ρ (iEnum K t) P) : EvI S ρ (iEnumS K t) P := fun F G H σ w s R k => .inl (h F G H σ w s R k)
theorem evI_enumST {t : TA} {P : Sto → DIt → Prop} (h : EvI S ρ (iEnumT K t) P) : EvI S ρ (iEnumS K t) P := fun F G H σ w s R k => .inr (h F G H σ w s R k)
/-- over an empty tuple of the text -/
theorem evI_none {a : Addr} {P : Sto → DIt → Prop} (he : ∀ H : Hp, SqT K H a []) (h : Ev S ρ te fun S1 x => x = .ref a ∧ P S1 ⟨[], fun _ => True⟩) : EvI S ρ (iTup K te) P := fun F G H σ w s R k =>
  h F G H σ w s _ fun v1 d1 S1 G1 H1 e1 w1 ⟨ex, p⟩ r1 => by
    subst ex
    cases r1
    exact ⟨a, rfl, ⟨[], he _⟩, k _ ⟨[], fun _ => True⟩ _ _ _ e1 w1 (fun S' F' G' H' e' w' n' => ⟨fun i hi => absurd hi (Nat.not_lt_zero i), [], he _, Nat.le_refl _⟩) p⟩
theorem ev_listRg (h : Ev S ρ te fun S1 x => ∃ n : Nat, x = .int n ∧ n ≤ 16777216 ∧ P S1 (.lst ((List.range n).map fun i => D.int (i : Nat)))) : Ev S ρ (tLstRg (tRg1 te)) P := fun F G H σ w s Q k =>
  h F G H σ w s _ fun v1 d1 S1 G1 H1 e1 w1 ⟨n, ex, hn, p⟩ r1 => by
    subst ex
    cases r1
    refine ⟨(n : Int), rfl, RgOk.of_le (Int.le_refl 0) (by omega) (by omega) (by omega), fun q hq => ?_⟩
    refine k _ _ _ _ _ (e1.trans (same_new (w1.gfree hq))) (w1.newD hq) p (.lst upd_same ?_)
    have e : rgV 0 (n : Int) = (List.range n).map fun i => V.int (i : Nat) := by
      unfold rgV
      rw [Int.sub_zero, Int.toNat_natCast]
      exact List.map_congr_left fun i _ => by rw [Int.zero_add]
    rw [e]
    have all : ∀ l : List Nat, Reps (upd G1 q (.lst ((List.range n).map fun i => V.int (i : Nat)))) (l.map fun i => D.int (i : Nat)) (l.map fun i => V.int (i : Nat)) := by
      intro l
      induction l with
      | nil => exact .nil
      | cons a l ih => exact .cons .int ih
    exact all _
/-- C() whose one default is the thing at b -/
theorem ev_makeD {φ : Phi} {E : XK} {t : TA} {C b : Addr} (h : EvA S ρ t fun S1 xs => ∀ a, S1 a = none → φ (S1.put a (.ins C [] [])) (.ref a :: (xs ++ [.ref b])) fun S2 d => d = .non ∧ P S2 (.ref a)) : Ev S ρ (tMake C (toSp φ) [V.ref b] E t) P := fun F G H σ w s Q k =>
  h F G H σ w s _ fun vs ds S1 G1 H1 e1 w1 p1 r1 x dx hx hdx ne => by
    have gdx := w1.gfree hdx
    have w2 : Wd S1 F (upd G1 dx (.own x)) (upd H1 dx (.own x)) := w1.newD hdx
    have hx2 : (upd H1 dx (.own x)) x = none := by
      rw [upd_ne (Ne.symm ne)]
      exact hx
    have w3 : Wd (S1.put x (.ins C [] [])) F (upd G1 dx (.own x)) (upd (upd H1 dx (.own x)) x (.ins C dx [])) := w2.newH hx2 (.ins rfl .nil)
    refine ⟨_, F, _, .ref x :: (ds ++ [.ref b]), _, w3, ?_, p1 x (w1.sfree hx), fun v d S' G' H' e' w' ⟨p', q'⟩ r' => ?_⟩
    · exact .cons .ref ((r1.mono (same_new gdx)).append (.cons .ref .nil))
    · subst p'
      cases r'
      exact ⟨rfl, k _ _ _ _ _ (e1.trans ((same_new gdx).trans e')) w' q' .ref⟩
end
end AK
set_option Elab.async false
set_option linter.all false
set_option maxRecDepth 100000
set_option maxHeartbeats 4000000
/-! Loops and comprehensions over encoded lists; texts. -/
namespace AK
open PySem PySem.Spec PyProof.Rows L2
section
variable {K : PySem.W.Frag} {S : Sto} {ρ : Env} {wi : TI} {g : TG} {tt : TT} {te : TE} {ts : TS} {vs : List Nat} {P : Sto → D → Prop} {nx bk ct : Sto → Env → Prop} {rt : Sto → D → Prop}
theorem evI_mono {wi : TI} {P P' : Sto → DIt → Prop} (h : EvI S ρ wi P') (k : ∀ S' T, P' S' T → P S' T) : EvI S ρ wi P := fun F G H σ w s R q => h F G H σ w s R fun J T S' G' H' e w' ir p => q J T S' G' H' e w' ir (k _ _ p)
theorem gd_mono {d : D} {P P' : Sto → Env → Prop} (h : GD S ρ g d P') (k : ∀ S' ρ', P' S' ρ' → P S' ρ') : GD S ρ g d P := fun F G H σ v w s r Q q => h F G H σ v w s r Q fun S' ρ' G' H' σ' e w' s' p => q _ _ _ _ _ e w' s' (k _ _ p)
theorem filter_take_succ {α : Type} {l : List α} {i : Nat} {a : α} (p : α → Bool) (h : l[i]? = some a) : (l.take (i + 1)).filter p = (l.take i).filter p ++ (if p a then [a] else []) := by
  have e : l.take (i + 1) = l.take i ++ [a] := by
    rw [List.take_add_one, h]
    rfl
  rw [e, List.filter_append]
  congr 1
  by_cases hp : p a = true
  · simp [hp]
  · simp [hp]
theorem comp_map {α : Type} {S1 : Sto} {T : DIt} (J : Sto → Prop) (enc : α → D) (l : List α) (p : α → Bool) (f : α → D) (hT : T.items = l.map enc) (hz : l.length ≤ 16777216) (h0 : J S1) (hn : ∀ S', J S' → T.need S')
    (ht : ∀ a ∈ l, ∀ S', J S' → GD S' (wipeD ρ vs) g (enc a) fun S2 ρ2 => EvT S2 ρ2 tt fun S3 b => b = p a ∧ (p a = true → Ev S3 ρ2 te fun S4 y => J S4 ∧ y = f a) ∧ (p a = false → J S3)) {Fin : Sto → List D → Prop} (hF : ∀ S', J S' → Fin S' ((l.filter p).map f)) :
    Comp S1 ρ vs g tt te T Fin := by
  have hl : T.items.length = l.length := by rw [hT, List.length_map]
  refine ⟨by omega, fun i S' acc => J S' ∧ acc = ((l.take i).filter p).map f, ⟨h0, by simp⟩, fun i S' acc _ h => hn S' h.1, ?_, ?_⟩
  · rintro i d S' acc hi ⟨hJ, rfl⟩ _
    rw [hT, List.getElem?_map] at hi
    cases e : l[i]? with
    | none =>
      rw [e] at hi
      cases hi
    | some a =>
      rw [e] at hi
      cases hi
      refine gd_mono (ht a (List.mem_of_getElem? e) S' hJ) fun S2 ρ2 q => evT_mono q fun S3 b q => ?_
      obtain ⟨rfl, q1, q2⟩ := q
      refine ⟨fun hb => ev_mono (q1 hb) fun S4 y q => ⟨q.1, ?_⟩, fun hb => ⟨q2 hb, ?_⟩⟩
      · rw [q.2, filter_take_succ p e, if_pos hb, List.map_append]
        rfl
      · rw [filter_take_succ p e, hb]
        simp
  · rintro S' acc _ ⟨hJ, rfl⟩
    rw [hl, List.take_length]
    exact hF S' hJ
/-- [f(a) for a in l if p(a)] -/
theorem ev_lcM {α : Type} (gw : OwnG g vs) (J : Sto → Prop) (enc : α → D) (l : List α) (p : α → Bool) (f : α → D) (hz : l.length ≤ 16777216) (hI : EvI S ρ wi fun S1 T => T.items = l.map enc ∧ (∀ S', J S' → T.need S') ∧ J S1)
    (ht : ∀ a ∈ l, ∀ S', J S' → GD S' (wipeD ρ vs) g (enc a) fun S2 ρ2 => EvT S2 ρ2 tt fun S3 b => b = p a ∧ (p a = true → Ev S3 ρ2 te fun S4 y => J S4 ∧ y = f a) ∧ (p a = false → J S3))
    (k : ∀ S', J S' → P S' (.lst ((l.filter p).map f))) : Ev S ρ (tLc wi g tt te vs) P :=
  ev_lc gw (evI_mono hI fun S1 T q => comp_map J enc l p f q.1 hz q.2.2 q.2.1 ht k)
theorem ev_lcMH {α : Type} (gw : OwnG g vs) (J : Sto → Prop) (enc : α → D) (l : List α) (p : α → Bool) (f : α → D) (hz : l.length ≤ 16777216) (hI : EvI S ρ wi fun S1 T => T.items = l.map enc ∧ (∀ S', J S' → T.need S') ∧ J S1)
    (ht : ∀ a ∈ l, ∀ S', J S' → GD S' (wipeD ρ vs) g (enc a) fun S2 ρ2 => EvT S2 ρ2 tt fun S3 b => b = p a ∧ (p a = true → Ev S3 ρ2 te fun S4 y => J S4 ∧ y = f a) ∧ (p a = false → J S3))
    (k : ∀ S', J S' → ∀ q, S' q = none → P (S'.put q (.lst ((l.filter p).map f))) (.ref q)) : Ev S ρ (tLc wi g tt te vs) P :=
  ev_lcH gw (evI_mono hI fun S1 T q => comp_map J enc l p f q.1 hz q.2.2 q.2.1 ht k)
theorem filter_yes {α : Type} (l : List α) : l.filter (fun _ => true) = l := List.filter_eq_self.mpr fun _ _ => rfl
/-- [f(a) for a in l] -/
theorem ev_lcA {α : Type} (gw : OwnG g vs) (J : Sto → Prop) (enc : α → D) (l : List α) (f : α → D) (hz : l.length ≤ 16777216) (hI : EvI S ρ wi fun S1 T => T.items = l.map enc ∧ (∀ S', J S' → T.need S') ∧ J S1)
    (ht : ∀ a ∈ l, ∀ S', J S' → GD S' (wipeD ρ vs) g (enc a) fun S2 ρ2 => Ev S2 ρ2 te fun S4 y => J S4 ∧ y = f a)
    (k : ∀ S', J S' → P S' (.lst (l.map f))) : Ev S ρ (tLc wi g tYes te vs) P :=
  ev_lcM gw J enc l (fun _ => true) f hz hI (fun a ha S' hJ => gd_mono (ht a ha S' hJ) fun S2 ρ2 q => evT_yes ⟨rfl, fun _ => q, fun h => Bool.noConfusion h⟩) fun S' hJ => by
    rw [filter_yes]
    exact k S' hJ
theorem ev_lcAH {α : Type} (gw : OwnG g vs) (J : Sto → Prop) (enc : α → D) (l : List α) (f : α → D) (hz : l.length ≤ 16777216) (hI : EvI S ρ wi fun S1 T => T.items = l.map enc ∧ (∀ S', J S' → T.need S') ∧ J S1)
    (ht : ∀ a ∈ l, ∀ S', J S' → GD S' (wipeD ρ vs) g (enc a) fun S2 ρ2 => Ev S2 ρ2 te fun S4 y => J S4 ∧ y = f a)
    (k : ∀ S', J S' → ∀ q, S' q = none → P (S'.put q (.lst (l.map f))) (.ref q)) : Ev S ρ (tLc wi g tYes te vs) P :=
  ev_lcMH gw J enc l (fun _ => true) f hz hI (fun a ha S' hJ => gd_mono (ht a ha S' hJ) fun S2 ρ2 q => evT_yes ⟨rfl, fun _ => q, fun h => Bool.noConfusion h⟩) fun S' hJ => by
    rw [filter_yes]
    exact k S' hJ
/-- for a in l -/
theorem q_forM {α : Type} (enc : α → D) (l : List α) (I : Nat → Sto → Env → Prop) (hI : EvI S ρ wi fun S1 T => T.items = l.map enc ∧ (∀ i S' ρ', i ≤ l.length → I i S' ρ' → T.need S') ∧ I 0 S1 ρ)
    (ht : ∀ i a S' ρ', l[i]? = some a → I i S' ρ' → GD S' ρ' g (enc a) fun S2 ρ2 => Sx S2 ρ2 ts ⟨I (i + 1), rt, nx, I (i + 1)⟩) (hd : ∀ S' ρ', I l.length S' ρ' → nx S' ρ') : Sx S ρ (tFor wi g ts) ⟨nx, rt, bk, ct⟩ :=
  q_for (evI_mono hI fun S1 T q => ⟨I, q.2.2, fun i S' ρ' hi h => q.2.1 i S' ρ' (by rw [q.1, List.length_map] at hi; exact hi) h, fun i d S' ρ' hi h => by
    rw [q.1, List.getElem?_map] at hi
    cases e : l[i]? with
    | none =>
      rw [e] at hi
      cases hi
    | some a =>
      rw [e] at hi
      cases hi
      exact ht i a S' ρ' e h, fun S' ρ' h => hd S' ρ' (by rw [q.1, List.length_map] at h; exact h)⟩)
end
section
variable {K : PySem.W.Frag} {S : Sto} {ρ : Env} {tt tu : TT} {ta tb tc : TE} {ts tr : TS} {P : Sto → D → Prop} {PB : Sto → Bool → Prop} {nx bk ct : Sto → Env → Prop} {rt : Sto → D → Prop}
theorem bl_t {p : Prop} [Decidable p] (h : p) : D.bl (decide p) = .bl true := by rw [decide_eq_true h]
theorem bl_f {p : Prop} [Decidable p] (h : ¬ p) : D.bl (decide p) = .bl false := by rw [decide_eq_false h]
theorem bl_nt {p : Prop} [Decidable p] (h : ¬ p) : D.bl (!decide p) = .bl true := by rw [decide_eq_false h]; rfl
theorem bl_nf {p : Prop} [Decidable p] (h : p) : D.bl (!decide p) = .bl false := by rw [decide_eq_true h]; rfl
theorem ev_chainT {r r' : R2} (h : Ev S ρ ta fun S1 x => Ev S1 ρ tb fun S2 y => R2D r S2 x y fun S3 z => z = .bl true ∧ Ev S3 ρ tc fun S4 z' => R2D r' S4 y z' P) : Ev S ρ (tChain r r' ta tb tc) P :=
  ev_chain (ev_mono h fun S1 x q => ev_mono q fun S2 y q => fun F G H vx vy w r1 r2 Q k => q F G H vx vy w r1 r2 Q fun v d S' G' H' e w' p rr => k v d S' G' H' e w' ⟨true, p.1, fun _ => p.2, fun z => Bool.noConfusion z⟩ rr)
theorem ev_andT (h : Ev S ρ ta fun S1 x => x = .bl true ∧ Ev S1 ρ tb P) : Ev S ρ (tAndV ta tb) P := ev_andV (ev_mono h fun S' d q => ⟨true, q.1, fun _ => q.2, fun z => Bool.noConfusion z⟩)
theorem ev_ifT (h : EvT S ρ tt fun S1 c => c = true ∧ Ev S1 ρ ta P) : Ev S ρ (tIf tt ta tb) P := ev_if (evT_mono h fun S' b q => ⟨fun _ => q.2, fun z => by rw [q.1] at z; exact Bool.noConfusion z⟩)
theorem ev_ifF (h : EvT S ρ tt fun S1 c => c = false ∧ Ev S1 ρ tb P) : Ev S ρ (tIf tt ta tb) P := ev_if (evT_mono h fun S' b q => ⟨fun z => by rw [q.1] at z; exact Bool.noConfusion z, fun _ => q.2⟩)
theorem q_ifT (h : EvT S ρ tt fun S1 b => b = true ∧ Sx S1 ρ ts ⟨nx, rt, bk, ct⟩) : Sx S ρ (tIfS tt ts tr) ⟨nx, rt, bk, ct⟩ := q_if (evT_mono h fun S' b q => ⟨fun _ => q.2, fun z => by rw [q.1] at z; exact Bool.noConfusion z⟩)
theorem q_ifF (h : EvT S ρ tt fun S1 b => b = false ∧ Sx S1 ρ tr ⟨nx, rt, bk, ct⟩) : Sx S ρ (tIfS tt ts tr) ⟨nx, rt, bk, ct⟩ := q_if (evT_mono h fun S' b q => ⟨fun z => by rw [q.1] at z; exact Bool.noConfusion z, fun _ => q.2⟩)
/-- a test that fails: the branch behind it raises -/
theorem q_no (h : EvT S ρ tt fun S1 b => b = false ∧ nx S1 ρ) : Sx S ρ (tIfS tt ts tNext) ⟨nx, rt, bk, ct⟩ := q_ifF (evT_mono h fun S' b q => ⟨q.1, q_next q.2⟩)
theorem evT_orF (h : EvT S ρ tt fun S1 c => c = false ∧ EvT S1 ρ tu PB) : EvT S ρ (tOr tt tu) PB := evT_or (evT_mono h fun S' b q => ⟨fun _ => q.2, fun z => by rw [q.1] at z; exact Bool.noConfusion z⟩)
theorem evT_andT (h : EvT S ρ tt fun S1 c => c = true ∧ EvT S1 ρ tu PB) : EvT S ρ (tAnd tt tu) PB := evT_and (evT_mono h fun S' b q => ⟨fun _ => q.2, fun z => by rw [q.1] at z; exact Bool.noConfusion z⟩)
theorem evT_andF (h : EvT S ρ tt fun S1 c => c = false ∧ PB S1 false) : EvT S ρ (tAnd tt tu) PB := evT_and (evT_mono h fun S' b q => ⟨fun z => by rw [q.1] at z; exact Bool.noConfusion z, fun _ => q.2⟩)
end
/-! ### encoded lists -/
def intD (n : Nat) : D := .int (n : Nat)
def strD (s : Str) : D := .str s
theorem rangeD_nat (n : Nat) : rangeD 0 (n : Int) = (List.range n).map intD := by
  unfold rangeD intD
  rw [Int.sub_zero, Int.toNat_natCast]
  exact List.map_congr_left fun i _ => by rw [Int.zero_add]
theorem rangeD_nat2 (m n : Nat) : rangeD (m : Int) (n : Int) = (List.range (n - m)).map fun i => intD (m + i) := by
  unfold rangeD intD
  have e : ((n : Int) - m).toNat = n - m := by omega
  rw [e]
  exact List.map_congr_left fun i _ => by rw [Int.natCast_add]
theorem enumD_map {α : Type} (f : α → D) (l : List α) : enumD (l.map f) = l.zipIdx.map fun p => .tup [intD p.2, f p.1] := by
  unfold enumD
  refine List.ext_getElem? fun i => ?_
  rw [List.getElem?_map, List.getElem?_map, List.length_map]
  by_cases h : i < l.length
  · rw [List.getElem?_range h]
    simp [List.getElem?_zipIdx, h, intD]
  · have h1 : (List.range l.length)[i]? = none := List.getElem?_eq_none (by rw [List.length_range]; omega)
    have h2 : l.zipIdx[i]? = none := List.getElem?_eq_none (by rw [List.length_zipIdx]; omega)
    rw [h1, h2]
    rfl
theorem zipD_map {α β : Type} (f : α → D) (g : β → D) (l : List α) (m : List β) : zipD (l.map f) (m.map g) = (l.zip m).map fun p => .tup [f p.1, g p.2] := by
  unfold zipD
  rw [List.zip_map, List.map_map]
  rfl
/-- a text of code points -/
abbrev tx (l : List Nat) : Str := ⟨l.toArray⟩
theorem signs_tx (l : List Nat) : signsD (tx l) = l.map fun c => .str (tx [c]) := rfl
theorem tx_append (a b : List Nat) : tx a ++ tx b = tx (a ++ b) := by
  show (⟨a.toArray ++ b.toArray⟩ : Str) = _
  simp
theorem tx_len (l : List Nat) : (tx l).length = l.length := by
  show l.toArray.size = l.length
  simp
theorem tx_small {l : List Nat} (h : l.length ≤ 1000) : (tx l).length ≤ 16777216 := by
  rw [tx_len]
  omega
theorem cut_take (l : List Nat) (k : Nat) : cutS (tx l) none (some (k : Int)) = tx (l.take k) := by
  unfold cutS
  rw [tx_len]
  congr 2
  show (l.drop 0).take (HT.sIx l.length l.length (some (k : Int)) - 0) = l.take k
  rw [List.drop_zero, Nat.sub_zero]
  have e : HT.sIx l.length l.length (some (k : Int)) = min k l.length := by
    unfold HT.sIx
    first | (simp; omega) | simp | (split <;> omega) | omega
  rw [e]
  by_cases h : k ≤ l.length
  · rw [Nat.min_eq_left h]
  · rw [Nat.min_eq_right (by omega), List.take_length, List.take_of_length_le (by omega)]
theorem cutD_take (l : List D) (k : Nat) : cutD l none (some (k : Int)) = l.take k := by
  unfold cutD
  show (l.drop 0).take (HT.sIx l.length l.length (some (k : Int)) - 0) = l.take k
  rw [List.drop_zero, Nat.sub_zero]
  have e : HT.sIx l.length l.length (some (k : Int)) = min k l.length := by
    unfold HT.sIx
    first | (simp; omega) | simp | (split <;> omega) | omega
  rw [e]
  by_cases h : k ≤ l.length
  · rw [Nat.min_eq_left h]
  · rw [Nat.min_eq_right (by omega), List.take_length, List.take_of_length_le (by omega)]
theorem cutD_drop (l : List D) (k : Nat) : cutD l (some (k : Int)) none = l.drop k := by
  unfold cutD
  have e : HT.sIx l.length 0 (some (k : Int)) = min k l.length := by
    unfold HT.sIx
    first | (simp; omega) | simp | (split <;> omega) | omega
  show (l.drop (HT.sIx l.length 0 (some (k : Int)))).take (l.length - HT.sIx l.length 0 (some (k : Int))) = l.drop k
  rw [e]
  by_cases h : k ≤ l.length
  · rw [Nat.min_eq_left h]
    exact List.take_of_length_le (by rw [List.length_drop]; omega)
  · rw [Nat.min_eq_right (by omega), List.drop_of_length_le (l := l) (i := k) (by omega), List.drop_length]
    exact List.take_nil
/-- xs[i] by a place -/
theorem atI_natD {α : Type} {l : List α} {i : Nat} {d : α} (h : l[i]? = some d) : L2.atI l (i : Int) = some d := by
  unfold L2.atI
  have hi := (List.getElem?_eq_some_iff.mp h).1
  rw [Evl.ixN_nat hi]
  exact h
end AK
set_option Elab.async false
set_option linter.all false
set_option maxRecDepth 100000
set_option maxHeartbeats 4000000
/-! Networks: what the defs of the first part give. -/
namespace AK
local macro_rules | `(tactic| walk_at "akgo") => `(tactic| (repeat (first | with_reducible refine q_seq ?_ | with_reducible refine q_asg ?_ | with_reducible refine q_drop ?_ | with_reducible refine q_ret ?_ | with_reducible refine q_next ?_ | with_reducible refine q_break ?_ | with_reducible refine ev_int ?_ | with_reducible refine ev_str ?_ | with_reducible refine ev_bl ?_ | with_reducible refine ev_non ?_ | with_reducible refine ev_ty ?_ | with_reducible refine ev_cls ?_ | with_reducible refine ev_op ?_ | with_reducible refine ev_un ?_ | with_reducible refine ev_cb ?_ | with_reducible refine evA_cons ?_ | with_reducible refine evA_nil ?_ | with_reducible refine rd_int ?_ | with_reducible refine rd_cmp ?_ | with_reducible refine r1_neg ?_ | with_reducible refine rd_eqI ?_ | with_reducible refine rd_neI ?_ | with_reducible refine rd_eqS ?_ | with_reducible refine rd_neS ?_ | with_reducible refine rd_neB ?_ | with_reducible refine rd_isN ?_ | with_reducible refine rd_notN ?_ | with_reducible refine rd_notB ?_ | with_reducible refine rd_inS ?_ | with_reducible refine rd_ninS ?_ | with_reducible refine evT_test ?_ | with_reducible refine evT_B ?_ | with_reducible refine evT_not ?_ | with_reducible refine evT_yes ?_ | with_reducible refine ev_notV ?_ | with_reducible refine rc_int ?_ | with_reducible refine rc_min2 ?_ | with_reducible refine rc_max2 ?_ | with_reducible refine rc_lenT ?_ | with_reducible refine q_asgG ?_ | with_reducible refine gds_nil ?_ | with_reducible refine gds_name ?_ | with_reducible refine ev_call ?_ | with_reducible refine gd_name ?_ | with_reducible refine ev_tup ?_ | with_reducible refine ev_var (by with_unfolding_all rfl) ?_ | with_reducible refine ⟨_, rfl, ?_⟩ | with_reducible refine gd_tup rfl ?_ | with_reducible refine rc_lenL LV.o ?_)))
open PySem PySem.Spec PyProof.Rows L2
/-- the letters of a set of variables -/
def vl (m : Nat) : List Nat := ((List.range 6).filter m.testBit).map (97 + ·)
abbrev vt (m : Nat) : Str := tx (vl m)
abbrev up (i : Nat) : Str := tx [65 + i]
abbrev lk (l : Nat × Nat) : Str := tx [65 + l.1, 65 + l.2]
abbrev abc6 : List Nat := [97, 98, 99, 100, 101, 102]
abbrev ABC6 : List Nat := [65, 66, 67, 68, 69, 70]
theorem s_abc : (Str.ofString "abcdef") = tx abc6 := by decide +kernel
theorem s_ABC : (Str.ofString "ABCDEF") = tx ABC6 := by decide +kernel
theorem s_nil : (Str.ofString "") = tx [] := by decide +kernel
structure Net where
  v : Nat
  nodes : List (List Nat)
  links : List (Nat × Nat)
structure Net.Ok (N : Net) : Prop where
  v4 : N.v ≤ 4
  n1 : 1 ≤ N.nodes.length
  n5 : N.nodes.length ≤ 5
  ms4 : ∀ ms ∈ N.nodes, ms.length ≤ 4
  msv : ∀ ms ∈ N.nodes, ∀ m ∈ ms, 1 ≤ m ∧ m < 2 ^ N.v
  l16 : N.links.length ≤ 16
  lks : ∀ l ∈ N.links, l.1 < N.nodes.length ∧ l.2 < N.nodes.length ∧ l.1 ≠ l.2
def msgD (m : Nat) : D := .str (vt m)
def lkD (l : Nat × Nat) : D := .str (lk l)
def seqD (b : Bool) (l : List D) : D := if b then .lst l else .tup l
def NF : List Str := ["variables", "nodes", "links"]
def nodesD (N : Net) : D := .tup (N.nodes.map fun ms => .tup (ms.map msgD))
def linksD (N : Net) : D := .tup (N.links.map lkD)
def netV (N : Net) : List D := [.int N.v, nodesD N, linksD N]
def netD (K : PySem.W.Frag) (N : Net) : D := .ob (He.ga K "Network") NF (netV N)
theorem seq_sv {S : Sto} (b : Bool) (l : List D) : SV S (seqD b l) l := by
  cases b with
  | true => exact .inl .o
  | false => exact .inr rfl
theorem seq_len {S : Sto} (b : Bool) (l : List D) : LenD S (seqD b l) l.length := by
  cases b with
  | true => exact .inl ⟨l, .o, rfl⟩
  | false => exact .inr (.inl ⟨l, rfl, rfl⟩)
theorem lv_of {S S' : Sto} {l : List D} : LV S' (.lst l) l := .o

def isAsc (t l : List Nat) : Bool := (t.map fun c => Txt.find (tx l) (tx [c])).all (fun i => decide (0 ≤ i)) &&
  ((t.map fun c => Txt.find (tx l) (tx [c])).zip ((t.map fun c => Txt.find (tx l) (tx [c])).drop 1)).all fun p => decide (p.1 < p.2)
def p_is_ascending : Phi := fun S ds P => ∃ t l : List Nat, ds = [.str (tx t), .str (tx l)] ∧ t.length ≤ 100 ∧ P S (.bl (isAsc t l))
variable {P : Program} {w : World} {K : PySem.W.Frag} {mg : Str → Option Value} {base : Heap}
theorem all_map (l : List Int) (f : Int → Bool) : (l.map f).all id = l.all f := by
  rw [List.all_map]
  rfl
theorem all_mapG {α : Type} (l : List α) (f : α → Bool) : (l.map f).all id = l.all f := by
  rw [List.all_map]
  rfl
theorem any_mapG {α : Type} (l : List α) (f : α → Bool) : (l.map f).any id = l.any f := by
  rw [List.any_map]
  rfl
theorem sx_is_ascending (S : Sto) (ds : List D) (Q : Sto → D → Prop) (h : p_is_ascending S ds Q) : Sx S (startD N_is_ascending.length ds) (t_is_ascending K) { nx := fun S' _ => Q S' .non, rt := Q } := by
  obtain ⟨t, l, rfl, ht, hq⟩ := h
  unfold t_is_ascending
  walk_at "akgo"
  refine ev_lcA (own_name (by decide)) (S = ·) (fun c => D.str (tx [c])) t (fun c => .int (Txt.find (tx l) (tx [c]))) (by omega) (evI_str ?_) ?_ ?_
  · walk_at "akgo"
    exact ⟨rfl, fun _ _ => trivial, rfl⟩
  · rintro c _ _ rfl
    refine gd_name ?_
    refine ev_bm ?_
    walk_at "akgo"
    refine ⟨rfl, ?_⟩
    walk_at "akgo"
    exact rm_find ⟨rfl, rfl⟩
  · rintro _ rfl
    walk_at "akgo"
    refine ev_andV ?_
    walk_at "akgo"
    refine ev_lcA (own_name (by decide)) (S = ·) D.int (t.map fun c => Txt.find (tx l) (tx [c])) (fun i => .bl (decide (0 ≤ i))) (by rw [List.length_map]; omega) (evI_list ?_) ?_ ?_
    · walk_at "akgo"
      refine ⟨_, .o, ?_, fun _ _ => .o, rfl⟩
      rw [List.map_map]
      rfl
    · rintro c _ _ rfl
      refine gd_name ?_
      walk_at "akgo"
      exact ⟨rfl, rfl⟩
    · rintro _ rfl
      walk_at "akgo"
      refine rc_all (bs := (t.map fun c => Txt.find (tx l) (tx [c])).map fun i => decide (0 ≤ i)) (.inl ?_) ?_
      · simp only [List.map_map]
        rfl
      · rw [all_map]
        refine ⟨_, rfl, fun hc => ?_, fun hc => ?_⟩
        · walk_at "akgo"
          refine ev_lcA (own_tup (own_cons (by decide) (own_cons (by decide) own_nil))) (S = ·) (fun p : Int × Int => .tup [.int p.1, .int p.2]) ((t.map fun c => Txt.find (tx l) (tx [c])).zip ((t.map fun c => Txt.find (tx l) (tx [c])).drop 1)) (fun p => .bl (decide (p.1 < p.2))) ?_ (evI_zip ?_) ?_ ?_
          · rw [List.length_zip, List.length_map]
            omega
          · walk_at "akgo"
            refine ev_sl ?_
            walk_at "akgo"
            refine evO_some ?_
            walk_at "akgo"
            refine evO_none ?_
            refine sl_L .o ?_
            walk_at "akgo"
            refine ⟨_, _, _, _, rfl, .o, .o, ?_, fun _ _ => ⟨.o, .o⟩, rfl⟩
            have e : (t.map fun c => D.int (Txt.find (tx l) (tx [c]))) = (t.map fun c => Txt.find (tx l) (tx [c])).map D.int := by
              rw [List.map_map]
              rfl
            show zipD _ (cutD _ (some ((1 : Nat) : Int)) none) = _
            rw [cutD_drop, e, ← List.map_drop, zipD_map]
          · rintro p _ _ rfl
            walk_at "akgo"
            exact ⟨rfl, rfl⟩
          · rintro _ rfl
            walk_at "akgo"
            refine rc_all (bs := (((t.map fun c => Txt.find (tx l) (tx [c])).zip ((t.map fun c => Txt.find (tx l) (tx [c])).drop 1)).map fun p => decide (p.1 < p.2))) (.inl ?_) ?_
            · rw [List.map_map]
              rfl
            · rw [all_mapG]
              unfold isAsc at hq
              rw [hc, Bool.true_and] at hq
              exact hq
        · unfold isAsc at hq
          rw [hc, Bool.false_and] at hq
          exact hq
/-! ### tables -/
theorem asc_msg : ∀ v < 5, ∀ m < 16, 1 ≤ m → m < 2 ^ v → isAsc (vl m) (abc6.take v) = true := by decide +kernel
theorem vl_len : ∀ m < 16, (vl m).length ≤ 4 := by decide +kernel
theorem vl_ne : ∀ m < 16, 1 ≤ m → vt m ≠ tx [] := by decide +kernel
theorem asc_node : ∀ n < 7, ∀ i < n, isAsc [65 + i] (ABC6.take n) = true := by decide +kernel
theorem mem_ABC : ∀ n < 7, ∀ i < n, 65 + i ∈ ABC6.take n := by decide +kernel
theorem idx_ABC : ∀ i < 6, Txt.index0 (tx ABC6) (up i) = some i := by decide +kernel
theorem pow_16 {v m : Nat} (hv : v ≤ 4) (h : m < 2 ^ v) : m < 16 := Nat.lt_of_lt_of_le h (Nat.pow_le_pow_right (by decide) hv)
/-! ### is_message, is_link -/
def p_is_message : Phi := fun S ds P => ∃ v m : Nat, ds = [.int v, msgD m] ∧ v ≤ 4 ∧ 1 ≤ m ∧ m < 2 ^ v ∧ P S (.bl true)
theorem sx_is_message (S : Sto) (ds : List D) (Q : Sto → D → Prop) (h : p_is_message S ds Q) : Sx S (startD N_is_message.length ds) (t_is_message K p_is_ascending) { nx := fun S' _ => Q S' .non, rt := Q } := by
  obtain ⟨v, m, rfl, hv, h1, h2, hq⟩ := h
  have hm := pow_16 hv h2
  unfold t_is_message msgD
  rw [s_abc, s_nil]
  walk_at "akgo"
  refine ev_andT ?_
  walk_at "akgo"
  refine ⟨bl_nt (vl_ne m hm h1), ?_⟩
  walk_at "akgo"
  refine ev_sl ?_
  walk_at "akgo"
  refine evO_none (evO_some ?_)
  walk_at "akgo"
  refine sl_S (tx_small (by simp)) ?_
  rw [cut_take]
  walk_at "akgo"
  refine ⟨_, _, rfl, Nat.le_trans (vl_len m hm) (by decide), ?_⟩
  rw [asc_msg v (by omega) m hm h1 h2]
  exact hq
def p_is_link : Phi := fun S ds P => ∃ n a b : Nat, ds = [.int n, lkD (a, b)] ∧ n ≤ 5 ∧ a < n ∧ b < n ∧ a ≠ b ∧ P S (.bl true)
theorem sx_is_link (S : Sto) (ds : List D) (Q : Sto → D → Prop) (h : p_is_link S ds Q) : Sx S (startD N_is_link.length ds) (t_is_link K) { nx := fun S' _ => Q S' .non, rt := Q } := by
  obtain ⟨n, a, b, rfl, hn, ha, hb, hab, hq⟩ := h
  unfold t_is_link lkD
  rw [s_ABC]
  walk_at "akgo"
  refine ev_sl ?_
  walk_at "akgo"
  refine evO_none (evO_some ?_)
  walk_at "akgo"
  refine sl_S (tx_small (by simp)) ?_
  rw [cut_take]
  walk_at "akgo"
  refine ev_andT ?_
  walk_at "akgo"
  refine rc_lenS (tx_small (by simp)) ?_
  walk_at "akgo"
  refine ⟨rfl, ?_⟩
  refine ev_andT ?_
  walk_at "akgo"
  refine rd_ixS (c := 65 + a) (tx_small (by simp)) rfl ?_
  walk_at "akgo"
  refine ⟨bl_t (mem_ABC n (by omega) a ha), ?_⟩
  refine ev_andT ?_
  walk_at "akgo"
  refine rd_ixS (c := 65 + b) (tx_small (by simp)) rfl ?_
  walk_at "akgo"
  refine ⟨bl_t (mem_ABC n (by omega) b hb), ?_⟩
  walk_at "akgo"
  refine rd_ixS (c := 65 + a) (tx_small (by simp)) rfl ?_
  walk_at "akgo"
  refine rd_ixS (c := 65 + b) (tx_small (by simp)) rfl ?_
  walk_at "akgo"
  have e : ¬ (tx [65 + a] = tx [65 + b]) := fun z => hab (by simpa using z)
  rw [bl_nt e]
  exact hq
/-! ### the checks -/
theorem evI_seqB {S : Sto} {ρ : Env} {te : TE} {b : Bool} {P : Sto → DIt → Prop} (h : Ev S ρ te fun S1 x => ∃ l, x = seqD b l ∧ P S1 ⟨l, fun _ => True⟩) : EvI S ρ (iSeq K te) P := by
  cases b with
  | false => exact evI_seqT (evI_tup h)
  | true =>
    refine evI_seqL fun F G H σ w s R k => ?_
    refine evI_list (P := fun S1 T => ∃ l, T.items = l ∧ (∀ S', T.need S') ∧ P S1 ⟨l, fun _ => True⟩) (ev_mono h fun S1 x ⟨l, e, p⟩ => ⟨l, ?_, l, rfl, fun S' => ?_, p⟩) F G H σ w s R fun J T S' G' H' e w' ir ⟨l, el, hn, p⟩ => k J ⟨l, fun _ => True⟩ S' G' H' e w' (fun S2 F2 G2 H2 e2 w2 _ => ?_) p
    · rw [e]
      exact .o
    · rw [e]
      exact .o
    · subst el
      exact ir S2 F2 G2 H2 e2 w2 (hn S2)
theorem evI_enumB {S : Sto} {ρ : Env} {te : TE} {b : Bool} {P : Sto → DIt → Prop} (h : Ev S ρ te fun S1 x => ∃ l, x = seqD b l ∧ P S1 ⟨enumD l, fun _ => True⟩) : EvI S ρ (iEnumS K (tCons te tNil)) P := by
  cases b with
  | false => exact evI_enumST (evI_enumT (evA_cons (ev_mono h fun S1 x ⟨l, e, p⟩ => evA_nil ⟨l, by rw [e]; rfl, p⟩)))
  | true =>
    refine evI_enumSL fun F G H σ w s R k => ?_
    refine evI_enum (P := fun S1 T => ∃ l, T.items = enumD l ∧ (∀ S', T.need S') ∧ P S1 ⟨enumD l, fun _ => True⟩) (evA_cons (ev_mono h fun S1 x ⟨l, e, p⟩ => evA_nil ⟨x, l, rfl, ?_, l, rfl, fun S' => ?_, p⟩)) F G H σ w s R fun J T S' G' H' e w' ir ⟨l, el, hn, p⟩ => k J ⟨enumD l, fun _ => True⟩ S' G' H' e w' (fun S2 F2 G2 H2 e2 w2 _ => ?_) p
    · rw [e]
      exact .o
    · rw [e]
      exact .o
    · have z := ir S2 F2 G2 H2 e2 w2 (hn S2)
      rw [el] at z
      exact z
def nodesA (N : Net) (b : Bool) : D := .lst (N.nodes.map fun ms => seqD b (ms.map msgD))
theorem zipIdx_mem {α : Type} {l : List α} {i : Nat} {p : α × Nat} (h : l.zipIdx[i]? = some p) : p.1 ∈ l ∧ l[i]? = some p.1 ∧ p.2 = i := by
  rw [List.getElem?_zipIdx] at h
  cases e : l[i]? with
  | none =>
    rw [e] at h
    cases h
  | some a =>
    rw [e] at h
    cases h
    exact ⟨List.mem_of_getElem? e, rfl, by simp⟩
def p_check_nodes : Phi := fun S ds P => ∃ (N : Net) (b : Bool), ds = [.int N.v, nodesA N b] ∧ N.Ok ∧ P S .non
theorem sx_check_nodes (S : Sto) (ds : List D) (Q : Sto → D → Prop) (h : p_check_nodes S ds Q) : Sx S (startD N_check_nodes.length ds) (t_check_nodes K p_is_message) { nx := fun S' _ => Q S' .non, rt := Q } := by
  obtain ⟨N, b, rfl, ok, hq⟩ := h
  unfold t_check_nodes nodesA
  rw [s_ABC]
  walk_at "akgo"
  refine q_no ?_
  walk_at "akgo"
  refine ev_chainT ?_
  walk_at "akgo"
  have hl := ok.n5
  have hl1 := ok.n1
  refine ⟨bl_t (by rw [List.length_map]; omega), ?_⟩
  walk_at "akgo"
  refine rc_lenS (tx_small (by simp)) ?_
  walk_at "akgo"
  refine ⟨by rw [decide_eq_true (by rw [List.length_map, tx_len]; show (N.nodes.length : Int) ≤ 6; omega)]; rfl, ?_⟩
  refine q_forM (fun p : List Nat × Nat => D.tup [intD p.2, seqD b (p.1.map msgD)]) N.nodes.zipIdx (fun _ S' ρ' => S = S' ∧ ∃ x y z, ρ' = [some (.int N.v), some (nodesA N b), x, y, z]) (evI_enum ?_) ?_ ?_
  · walk_at "akgo"
    exact ⟨_, _, rfl, .o, enumD_map _ _, fun _ _ _ _ _ => .o, rfl, none, none, none, rfl⟩
  · rintro i p S' ρ' hp ⟨rfl, x, y, z, rfl⟩
    obtain ⟨hp1, hp2, hp3⟩ := zipIdx_mem hp
    walk_at "akgo"
    refine q_no ?_
    walk_at "akgo"
    refine rc_len (seq_len b _) ?_
    walk_at "akgo"
    have h4 := ok.ms4 _ hp1
    refine ⟨decide_eq_false (by rw [List.length_map]; omega), ?_⟩
    refine q_no ?_
    walk_at "akgo"
    refine ev_lcA (own_name (by decide)) (S = ·) msgD p.1 (fun _ => .bl true) (by omega) (evI_seqB (b := b) ?_) ?_ ?_
    · walk_at "akgo"
      exact ⟨rfl, fun _ _ => trivial, rfl⟩
    · rintro m hm _ rfl
      obtain ⟨m1, m2⟩ := ok.msv _ hp1 m hm
      walk_at "akgo"
      exact ⟨_, _, rfl, ok.v4, m1, m2, rfl, rfl⟩
    · rintro _ rfl
      walk_at "akgo"
      refine rc_all (bs := p.1.map fun _ => true) (.inl (by simp only [List.map_map]; rfl)) ?_
      walk_at "akgo"
      refine ⟨?_, rfl, _, _, _, rfl⟩
      rw [all_mapG]
      simp
  · rintro S' ρ' ⟨rfl, _⟩
    exact hq
def p_check_links : Phi := fun S ds P => ∃ (N : Net) (b : Bool), ds = [.int N.nodes.length, seqD b (N.links.map lkD)] ∧ N.Ok ∧ P S .non
theorem sx_check_links (S : Sto) (ds : List D) (Q : Sto → D → Prop) (h : p_check_links S ds Q) : Sx S (startD N_check_links.length ds) (t_check_links K p_is_link) { nx := fun S' _ => Q S' .non, rt := Q } := by
  obtain ⟨N, b, rfl, ok, hq⟩ := h
  unfold t_check_links
  walk_at "akgo"
  refine q_no ?_
  walk_at "akgo"
  refine rc_len (seq_len b _) ?_
  walk_at "akgo"
  have hl := ok.l16
  refine ⟨decide_eq_false (by rw [List.length_map]; omega), ?_⟩
  refine q_forM (fun p : (Nat × Nat) × Nat => D.tup [intD p.2, lkD p.1]) N.links.zipIdx (fun _ S' ρ' => S = S' ∧ ∃ x y, ρ' = [some (.int N.nodes.length), some (seqD b (N.links.map lkD)), x, y]) (evI_enumB (b := b) ?_) ?_ ?_
  · walk_at "akgo"
    exact ⟨enumD_map _ _, fun _ _ _ _ _ => trivial, rfl, none, none, rfl⟩
  · rintro i p S' ρ' hp ⟨rfl, x, y, rfl⟩
    obtain ⟨hp1, hp2, hp3⟩ := zipIdx_mem hp
    obtain ⟨l1, l2, l3⟩ := ok.lks _ hp1
    walk_at "akgo"
    refine q_no ?_
    walk_at "akgo"
    refine ⟨_, _, _, rfl, ok.n5, l1, l2, l3, ?_⟩
    walk_at "akgo"
    exact ⟨rfl, rfl, _, _, rfl⟩
  · rintro S' ρ' ⟨rfl, _⟩
    exact hq
/-! ### Network -/
theorem putN_len {f : Str} {y : D} : ∀ {ns : List Str} {l : List D}, (putN f y ns l).1.length ≤ ns.length + 1
  | [], _ => Nat.le_refl 1
  | _ :: _, [] => by
    show 1 ≤ _
    omega
  | n :: ns, x :: l => by
    have ih := @putN_len f y ns l
    unfold putN
    split
    · exact Nat.le_succ _
    · exact Nat.succ_le_succ ih
theorem putN_lt1 {f : Str} {y : D} {ns : List Str} {l : List D} (h : ns.length ≤ 900) : (putN f y ns l).1.length < 1000 := Nat.lt_of_le_of_lt putN_len (by omega)
theorem putN_le {f : Str} {y : D} {ns : List Str} {l : List D} {k : Nat} (h : ns.length ≤ k) : (putN f y ns l).1.length ≤ k + 1 := Nat.le_trans putN_len (by omega)
def p_Network_init (K : PySem.W.Frag) : Phi := fun S ds P => ∃ (p : Addr) (N : Net) (b c : Bool), ds = [.ref p, .int N.v, nodesA N b, seqD c (N.links.map lkD)] ∧ S p = some (.ins (He.ga K "Network") [] []) ∧ N.Ok ∧ P (S.put p (.ins (He.ga K "Network") NF (netV N))) .non
theorem sx_Network_init (T : Top K mg) (S : Sto) (ds : List D) (Q : Sto → D → Prop) (h : p_Network_init K S ds Q) : Sx S (startD N_Network_init.length ds) (t_Network_init K p_check_nodes p_check_links) { nx := fun S' _ => Q S' .non, rt := Q } := by
  obtain ⟨p, N, b, c, rfl, hp, ok, hq⟩ := h
  unfold t_Network_init
  rw [s_abc]
  walk_at "akgo"
  refine q_no ?_
  walk_at "akgo"
  refine ev_chainT ?_
  walk_at "akgo"
  refine ⟨bl_t (by omega), ?_⟩
  walk_at "akgo"
  refine rc_lenS (tx_small (by simp)) ?_
  walk_at "akgo"
  have h4 := ok.v4
  refine ⟨by rw [decide_eq_true (by rw [tx_len]; show (N.v : Int) ≤ 6; omega)]; rfl, ?_⟩
  walk_at "akgo"
  refine ⟨_, _, rfl, ok, ?_⟩
  walk_at "akgo"
  unfold nodesA
  walk_at "akgo"
  refine ⟨N, _, by rw [List.length_map], ok, ?_⟩
  walk_at "akgo"
  refine q_fld ?_
  walk_at "akgo"
  refine ⟨_, _, _, _, rfl, hp, T.c_Network, T.na_Network_variables, by decide, ?_⟩
  walk_at "akgo"
  refine q_fld ?_
  walk_at "akgo"
  refine ev_lcA (own_name (by decide)) (fun S' => S.put p (.ins (He.ga K "Network") ["variables"] [.int N.v]) = S') (fun ms : List Nat => seqD b (ms.map msgD)) N.nodes (fun ms => .tup (ms.map msgD)) (by have := ok.n5; omega) (evI_list ?_) ?_ ?_
  · walk_at "akgo"
    exact ⟨_, .o, rfl, fun _ _ => .o, rfl⟩
  · rintro ms hms _ rfl
    walk_at "akgo"
    exact rc_tuple (seq_sv b _) ⟨rfl, rfl⟩
  · rintro _ rfl
    walk_at "akgo"
    refine rc_tuple (.inl .o) ?_
    walk_at "akgo"
    refine ⟨_, _, _, _, rfl, put_same, T.c_Network, T.na_Network_nodes, (by simp), ?_⟩
    refine q_fld ?_
    walk_at "akgo"
    refine rc_tuple (seq_sv c _) ?_
    walk_at "akgo"
    refine ⟨_, _, _, _, rfl, put_same, T.c_Network, T.na_Network_links, putN_lt1 (by simp), ?_⟩
    rw [put_put, put_put]
    exact hq
end AK
set_option Elab.async false
set_option linter.all false
set_option maxRecDepth 100000
set_option maxHeartbeats 4000000
namespace AK
local macro_rules | `(tactic| walk_at "akgo") => `(tactic| (repeat (first | with_reducible refine q_seq ?_ | with_reducible refine q_asg ?_ | with_reducible refine q_drop ?_ | with_reducible refine q_ret ?_ | with_reducible refine q_next ?_ | with_reducible refine q_break ?_ | with_reducible refine ev_int ?_ | with_reducible refine ev_str ?_ | with_reducible refine ev_bl ?_ | with_reducible refine ev_non ?_ | with_reducible refine ev_ty ?_ | with_reducible refine ev_cls ?_ | with_reducible refine ev_op ?_ | with_reducible refine ev_un ?_ | with_reducible refine ev_cb ?_ | with_reducible refine evA_cons ?_ | with_reducible refine evA_nil ?_ | with_reducible refine rd_int ?_ | with_reducible refine rd_cmp ?_ | with_reducible refine r1_neg ?_ | with_reducible refine rd_eqI ?_ | with_reducible refine rd_neI ?_ | with_reducible refine rd_eqS ?_ | with_reducible refine rd_neS ?_ | with_reducible refine rd_neB ?_ | with_reducible refine rd_isN ?_ | with_reducible refine rd_notN ?_ | with_reducible refine rd_notB ?_ | with_reducible refine rd_inS ?_ | with_reducible refine rd_ninS ?_ | with_reducible refine evT_test ?_ | with_reducible refine evT_B ?_ | with_reducible refine evT_not ?_ | with_reducible refine evT_yes ?_ | with_reducible refine ev_notV ?_ | with_reducible refine rc_int ?_ | with_reducible refine rc_min2 ?_ | with_reducible refine rc_max2 ?_ | with_reducible refine rc_lenT ?_ | with_reducible refine q_asgG ?_ | with_reducible refine gds_nil ?_ | with_reducible refine gds_name ?_ | with_reducible refine ev_call ?_ | with_reducible refine gd_name ?_ | with_reducible refine ev_tup ?_ | with_reducible refine ev_var (by with_unfolding_all rfl) ?_ | with_reducible refine ⟨_, rfl, ?_⟩ | with_reducible refine gd_tup rfl ?_ | with_reducible refine rc_lenL LV.o ?_)))
open PySem PySem.Spec PyProof.Rows L2
variable {P : Program} {w : World} {K : PySem.W.Frag} {mg : Str → Option Value} {base : Heap}
theorem flat_rep {α : Type} (n : Nat) (x : α) : (List.replicate n [x]).flatten = List.replicate n x := by
  induction n with
  | zero => rfl
  | succ n ih => rw [List.replicate_succ, List.flatten_cons, ih, List.replicate_succ]; rfl
/-- a network without messages and links -/
def Net.bare (N : Net) : Net := ⟨N.v, List.replicate N.nodes.length [], []⟩
theorem Net.Ok.bare {N : Net} (ok : N.Ok) : N.bare.Ok := by
  have h1 := ok.n1
  have h5 := ok.n5
  have e : N.bare.nodes.length = N.nodes.length := by simp [Net.bare]
  refine ⟨ok.v4, by omega, by omega, fun ms h => ?_, fun ms h m hm => ?_, by simp [Net.bare], fun l h => by simp [Net.bare] at h⟩
  · have z := List.eq_of_mem_replicate h
    subst z
    simp
  · have z := List.eq_of_mem_replicate h
    subst z
    simp at hm
theorem bare_nodes (N : Net) : nodesA N.bare false = .lst (List.replicate N.nodes.length (.tup [])) := by
  unfold nodesA Net.bare
  rw [List.map_replicate]
  rfl
def p_Network_made (K : PySem.W.Frag) : Phi := fun S ds P => ∃ N : Net, ds = [.ref (He.ga K "Network"), .int N.v, nodesD N, linksD N] ∧ N.Ok ∧ P S (netD K N)
theorem sx_Network_made (T : Top K mg) (S : Sto) (ds : List D) (Q : Sto → D → Prop) (h : p_Network_made K S ds Q) : Sx S (startD N_Network_made.length ds) (t_Network_made K (p_Network_init K)) { nx := fun S' _ => Q S' .non, rt := Q } := by
  obtain ⟨N, rfl, ok, hq⟩ := h
  have h5 := ok.n5
  unfold t_Network_made
  walk_at "akgo"
  refine ev_makeL rfl (ev_make ?_)
  walk_at "akgo"
  refine ev_lst ?_
  walk_at "akgo"
  refine ⟨by simp, ?_⟩
  walk_at "akgo"
  refine ⟨by simp, ?_⟩
  unfold nodesD
  walk_at "akgo"
  rw [List.length_map]
  refine rd_rep .o (by omega) (by omega) ?_ ?_
  · rw [Int.toNat_natCast]
    simp
    omega
  rw [Int.toNat_natCast, flat_rep]
  walk_at "akgo"
  refine ⟨by simp, ?_⟩
  walk_at "akgo"
  intro a ha
  refine ⟨a, N.bare, false, false, ?_, put_same, ok.bare, rfl, ?_⟩
  · rw [bare_nodes]
    rfl
  rw [put_put]
  walk_at "akgo"
  refine q_fld ?_
  walk_at "akgo"
  refine ev_lcA (own_name (by decide)) (fun S' => S.put a (.ins (He.ga K "Network") NF (netV N.bare)) = S') (fun ms : List Nat => D.tup (ms.map msgD)) N.nodes (fun ms => .tup (ms.map msgD)) (by omega) (evI_tup ?_) ?_ ?_
  · walk_at "akgo"
    exact ⟨rfl, fun _ _ => trivial, rfl⟩
  · rintro ms hms _ rfl
    walk_at "akgo"
    exact rc_tuple (.inr rfl) ⟨rfl, rfl⟩
  · rintro _ rfl
    walk_at "akgo"
    refine rc_tuple (.inl .o) ?_
    walk_at "akgo"
    refine ⟨_, _, _, _, rfl, put_same, T.c_Network, T.na_Network_nodes, (by decide), ?_⟩
    walk_at "akgo"
    refine q_fld ?_
    unfold linksD
    walk_at "akgo"
    refine rc_tuple (.inr rfl) ?_
    walk_at "akgo"
    refine ⟨_, _, _, _, rfl, put_same, T.c_Network, T.na_Network_links, putN_lt1 (by decide), ?_⟩
    rw [put_put, put_put]
    refine q_ret (ev_frzO ?_)
    walk_at "akgo"
    refine ⟨_, _, _, _, rfl, put_same, ?_⟩
    rw [del_put ha]
    exact hq
theorem net_nodes {N : Net} : look "nodes" NF (netV N) = some (nodesD N) := by with_unfolding_all rfl
def p_Network_node_letters (K : PySem.W.Frag) : Phi := fun S ds P => ∃ N : Net, ds = [netD K N] ∧ P S (.str (tx (ABC6.take N.nodes.length)))
theorem sx_Network_node_letters (T : Top K mg) (S : Sto) (ds : List D) (Q : Sto → D → Prop) (h : p_Network_node_letters K S ds Q) : Sx S (startD N_Network_node_letters.length ds) (t_Network_node_letters K) { nx := fun S' _ => Q S' .non, rt := Q } := by
  obtain ⟨N, rfl, hq⟩ := h
  unfold t_Network_node_letters
  rw [s_ABC]
  walk_at "akgo"
  refine ev_sl ?_
  walk_at "akgo"
  refine evO_none (evO_some ?_)
  walk_at "akgo"
  (refine ev_fld ?_; walk_at "akgo"; refine ⟨_, _, _, _, OV.o, T.c_Network, T.na_Network_nodes, (by with_unfolding_all rfl), ?_⟩)
  unfold nodesD
  walk_at "akgo"
  refine sl_S (tx_small (by simp)) ?_
  rw [cut_take, List.length_map]
  exact hq
theorem ov_net {S : Sto} {N : Net} : OV S (netD K N) (He.ga K "Network") NF (netV N) := .o
def p_node_number (K : PySem.W.Frag) : Phi := fun S ds P => ∃ (N : Net) (i : Nat), ds = [netD K N, .str (up i)] ∧ N.Ok ∧ i < N.nodes.length ∧ P S (.int i)
theorem sx_node_number (T : Top K mg) (S : Sto) (ds : List D) (Q : Sto → D → Prop) (h : p_node_number K S ds Q) : Sx S (startD N_node_number.length ds) (t_node_number K (p_Network_node_letters K)) { nx := fun S' _ => Q S' .non, rt := Q } := by
  obtain ⟨N, i, rfl, ok, hi, hq⟩ := h
  have h5 := ok.n5
  unfold t_node_number
  rw [s_ABC]
  walk_at "akgo"
  refine q_no ?_
  refine evT_orF ?_
  walk_at "akgo"
  refine rc_lenS (tx_small (by simp)) ?_
  walk_at "akgo"
  refine ⟨by rw [tx_len]; rfl, ?_⟩
  walk_at "akgo"
  refine ev_meth ?_
  walk_at "akgo"
  refine ⟨⟨_, _, ov_net, by decide +kernel⟩, ?_⟩
  walk_at "akgo"
  refine ⟨N, rfl, ?_⟩
  walk_at "akgo"
  refine ⟨by rw [decide_eq_true (mem_ABC _ (by omega) i hi)]; rfl, ?_⟩
  walk_at "akgo"
  refine ev_bm ?_
  walk_at "akgo"
  refine ⟨rfl, ?_⟩
  walk_at "akgo"
  exact rm_indexS (idx_ABC i (by omega)) hq
theorem up_ne (i : Nat) : ¬ up i = tx [] := fun z => by simp at z
def p_set_mask (K : PySem.W.Frag) : Phi := fun S ds P => ∃ (N : Net) (i : Nat), ds = [netD K N, .str (up i)] ∧ N.Ok ∧ i < N.nodes.length ∧ P S (.int ((2 ^ i : Nat) : Int))
theorem sx_set_mask (T : Top K mg) (S : Sto) (ds : List D) (Q : Sto → D → Prop) (h : p_set_mask K S ds Q) : Sx S (startD N_set_mask.length ds) (t_set_mask K (p_Network_node_letters K) p_is_ascending) { nx := fun S' _ => Q S' .non, rt := Q } := by
  obtain ⟨N, i, rfl, ok, hi, hq⟩ := h
  have h5 := ok.n5
  unfold t_set_mask
  rw [s_ABC, s_nil]
  walk_at "akgo"
  refine q_no ?_
  refine evT_orF ?_
  walk_at "akgo"
  refine ⟨decide_eq_false (up_ne i), ?_⟩
  walk_at "akgo"
  refine ev_meth ?_
  walk_at "akgo"
  refine ⟨⟨_, _, ov_net, by decide +kernel⟩, ?_⟩
  walk_at "akgo"
  refine ⟨N, rfl, ?_⟩
  walk_at "akgo"
  refine ⟨_, _, rfl, by simp, ?_⟩
  walk_at "akgo"
  refine ⟨by rw [asc_node _ (by omega) i hi]; rfl, ?_⟩
  walk_at "akgo"
  refine ev_lcA (own_name (by decide)) (S = ·) (fun c => D.str (tx [c])) [65 + i] (fun c => .int ((2 ^ i : Nat) : Int)) (by simp) (evI_str ?_) ?_ ?_
  · walk_at "akgo"
    exact ⟨rfl, fun _ _ => trivial, rfl⟩
  · rintro c hc _ rfl
    have e : c = 65 + i := by simpa using hc
    subst e
    walk_at "akgo"
    refine ev_bm ?_
    walk_at "akgo"
    refine ⟨rfl, ?_⟩
    walk_at "akgo"
    refine rm_indexS (idx_ABC i (by omega)) ?_
    refine rd_intC ⟨by omega, by omega, by decide⟩ ⟨rfl, ?_⟩
    simp
  · rintro _ rfl
    walk_at "akgo"
    refine rc_sum (ns := [((2 ^ i : Nat) : Int)]) (.inl rfl) ?_
    simpa using hq
def p_check_link (K : PySem.W.Frag) : Phi := fun S ds P => ∃ (N : Net) (i : Nat), ds = [netD K N, .int i] ∧ i < N.links.length ∧ P S .non
theorem sx_check_link (T : Top K mg) (S : Sto) (ds : List D) (Q : Sto → D → Prop) (h : p_check_link K S ds Q) : Sx S (startD N_check_link.length ds) (t_check_link K) { nx := fun S' _ => Q S' .non, rt := Q } := by
  obtain ⟨N, i, rfl, hi, hq⟩ := h
  unfold t_check_link
  refine q_no ?_
  walk_at "akgo"
  refine ev_chainT ?_
  walk_at "akgo"
  refine ⟨bl_t (by omega), ?_⟩
  walk_at "akgo"
  (refine ev_fld ?_; walk_at "akgo"; refine ⟨_, _, _, _, OV.o, T.c_Network, T.na_Network_links, (by with_unfolding_all rfl), ?_⟩)
  unfold linksD
  walk_at "akgo"
  exact ⟨by rw [decide_eq_true (by rw [List.length_map]; omega)]; rfl, hq⟩
def trD (t : Nat × Nat × Nat) : D := .tup [.int t.1, .str (up t.2.1), .int t.2.2]
def p_check_transmission (K : PySem.W.Frag) : Phi := fun S ds P => ∃ (N : Net) (t : Nat × Nat × Nat), ds = [netD K N, trD t] ∧ N.Ok ∧ t.1 < N.links.length ∧ (∃ ms, N.nodes[t.2.1]? = some ms ∧ t.2.2 < ms.length) ∧ P S .non
theorem sx_check_transmission (T : Top K mg) (S : Sto) (ds : List D) (Q : Sto → D → Prop) (h : p_check_transmission K S ds Q) : Sx S (startD N_check_transmission.length ds) (t_check_transmission K (p_check_link K) (p_node_number K)) { nx := fun S' _ => Q S' .non, rt := Q } := by
  obtain ⟨N, t, rfl, ok, h1, ⟨ms, h2, h3⟩, hq⟩ := h
  unfold t_check_transmission trD
  walk_at "akgo"
  refine ⟨N, t.1, rfl, h1, ?_⟩
  walk_at "akgo"
  (refine ev_fld ?_; walk_at "akgo"; refine ⟨_, _, _, _, OV.o, T.c_Network, T.na_Network_nodes, (by with_unfolding_all rfl), ?_⟩)
  walk_at "akgo"
  refine ⟨N, t.2.1, rfl, ok, (List.getElem?_eq_some_iff.mp h2).1, ?_⟩
  unfold nodesD
  refine rd_ixT (atI_natD (d := .tup (ms.map msgD)) (by rw [List.getElem?_map, h2]; rfl)) ?_
  walk_at "akgo"
  refine q_no ?_
  walk_at "akgo"
  refine ev_chainT ?_
  walk_at "akgo"
  refine ⟨bl_t (by omega), ?_⟩
  walk_at "akgo"
  exact ⟨by rw [decide_eq_true (by rw [List.length_map]; omega)]; rfl, hq⟩
end AK
set_option Elab.async false
set_option linter.all false
set_option maxRecDepth 100000
set_option maxHeartbeats 4000000
namespace AK
local macro_rules | `(tactic| walk_at "akgo") => `(tactic| (repeat (first | with_reducible refine q_seq ?_ | with_reducible refine q_asg ?_ | with_reducible refine q_drop ?_ | with_reducible refine q_ret ?_ | with_reducible refine q_next ?_ | with_reducible refine q_break ?_ | with_reducible refine ev_int ?_ | with_reducible refine ev_str ?_ | with_reducible refine ev_bl ?_ | with_reducible refine ev_non ?_ | with_reducible refine ev_ty ?_ | with_reducible refine ev_cls ?_ | with_reducible refine ev_op ?_ | with_reducible refine ev_un ?_ | with_reducible refine ev_cb ?_ | with_reducible refine evA_cons ?_ | with_reducible refine evA_nil ?_ | with_reducible refine rd_int ?_ | with_reducible refine rd_cmp ?_ | with_reducible refine r1_neg ?_ | with_reducible refine rd_eqI ?_ | with_reducible refine rd_neI ?_ | with_reducible refine rd_eqS ?_ | with_reducible refine rd_neS ?_ | with_reducible refine rd_neB ?_ | with_reducible refine rd_isN ?_ | with_reducible refine rd_notN ?_ | with_reducible refine rd_notB ?_ | with_reducible refine rd_inS ?_ | with_reducible refine rd_ninS ?_ | with_reducible refine evT_test ?_ | with_reducible refine evT_B ?_ | with_reducible refine evT_not ?_ | with_reducible refine evT_yes ?_ | with_reducible refine ev_notV ?_ | with_reducible refine rc_int ?_ | with_reducible refine rc_min2 ?_ | with_reducible refine rc_max2 ?_ | with_reducible refine rc_lenT ?_ | with_reducible refine q_asgG ?_ | with_reducible refine gds_nil ?_ | with_reducible refine gds_name ?_ | with_reducible refine ev_call ?_ | with_reducible refine gd_name ?_ | with_reducible refine ev_tup ?_ | with_reducible refine ev_var (by with_unfolding_all rfl) ?_ | with_reducible refine ⟨_, rfl, ?_⟩ | with_reducible refine gd_tup rfl ?_ | with_reducible refine rc_lenL LV.o ?_)))
open PySem PySem.Spec PyProof.Rows L2
variable {P : Program} {w : World} {K : PySem.W.Frag} {mg : Str → Option Value} {base : Heap}
/-! ### mask_of -/
def vx (m : Nat) : List Nat := (List.range 6).filter m.testBit
theorem vl_vx (m : Nat) : vl m = (vx m).map (97 + ·) := rfl
theorem vx_sum : ∀ m < 16, ((vx m).map (2 ^ ·)).sum = m := by decide +kernel
theorem vx_lt (m : Nat) : ∀ i ∈ vx m, i < 6 := fun i h => List.mem_range.mp (List.mem_filter.mp h).1
theorem vx_sorted (m : Nat) : (vx m).Pairwise (· < ·) := List.Pairwise.filter _ List.pairwise_lt_range
theorem find_low : ∀ i < 6, Txt.find (Str.ofString "abcdefgh") (tx [97 + i]) = (i : Int) := by decide +kernel
theorem take_sum {l : List Nat} {i : Nat} {a : Nat} (h : l[i]? = some a) : ((l.take (i + 1)).map (2 ^ ·)).sum = ((l.take i).map (2 ^ ·)).sum + 2 ^ a := by
  have e : l.take (i + 1) = l.take i ++ [a] := by
    rw [List.take_add_one, h]
    rfl
  rw [e, List.map_append, List.sum_append]
  simp
theorem drop_at {α : Type} {l : List α} {i : Nat} {a : α} (h : l[i]? = some a) : l.drop i = a :: l.drop (i + 1) := by
  obtain ⟨hi, e⟩ := List.getElem?_eq_some_iff.mp h
  rw [← e]
  exact List.drop_eq_getElem_cons hi
def p_mask_of : Phi := fun S ds P => ∃ m : Nat, ds = [.str (vt m)] ∧ m < 16 ∧ P S (.int m)
theorem sx_mask_of (S : Sto) (ds : List D) (Q : Sto → D → Prop) (h : p_mask_of S ds Q) : Sx S (startD N_mask_of.length ds) (t_mask_of K) { nx := fun S' _ => Q S' .non, rt := Q } := by
  obtain ⟨m, rfl, hm, hq⟩ := h
  unfold t_mask_of
  walk_at "akgo"
  refine q_forM (fun i : Nat => D.str (tx [97 + i])) (vx m) (fun k S' ρ' => S = S' ∧ ∃ (l : Int) (x y : Option D), ρ' = [some (.str (vt m)), some (.int ((((vx m).take k).map (2 ^ ·)).sum : Nat)), some (.int l), x, y] ∧ ∀ a ∈ (vx m).drop k, l < (a : Int)) (evI_str ?_) ?_ ?_
  · walk_at "akgo"
    refine ⟨?_, fun _ _ _ _ _ => trivial, rfl, -1, none, none, rfl, fun a _ => by omega⟩
    show signsD (tx ((vx m).map (97 + ·))) = _
    rw [signs_tx, List.map_map]
    rfl
  · rintro k a S' ρ' ha ⟨rfl, l, x, y, rfl, hl⟩
    have ha6 := vx_lt m a (List.mem_of_getElem? ha)
    have hd := drop_at ha
    walk_at "akgo"
    refine ev_bm ?_
    walk_at "akgo"
    refine ⟨rfl, ?_⟩
    walk_at "akgo"
    refine rm_find ?_
    rw [find_low a ha6]
    walk_at "akgo"
    refine q_no ?_
    walk_at "akgo"
    have h1 : l < (a : Int) := hl a (by rw [hd]; exact List.mem_cons_self)
    refine ⟨decide_eq_false (by omega), ?_⟩
    walk_at "akgo"
    refine q_aug rfl ?_
    walk_at "akgo"
    refine rd_intC ⟨by omega, by omega, by decide⟩ ?_
    walk_at "akgo"
    have e : (((((vx m).take k).map (2 ^ ·)).sum : Nat) : Int) + 1 * 2 ^ ((a : Int)).toNat = ((((vx m).take (k + 1)).map (2 ^ ·)).sum : Nat) := by
      rw [take_sum ha, Int.toNat_natCast, Int.natCast_add, Int.one_mul, Int.natCast_pow]
      rfl
    refine ⟨rfl, (a : Int), some (.str (tx [97 + a])), some (.int a), by rw [← e]; rfl, fun b hb => ?_⟩
    have z := (vx_sorted m).drop (i := k)
    rw [hd] at z
    have z2 := (List.pairwise_cons.mp z).1 b hb
    omega
  · rintro S' ρ' ⟨rfl, l, x, y, rfl, _⟩
    walk_at "akgo"
    rw [List.take_length, vx_sum m hm]
    exact hq
/-! ### Span -/
def CSp (K : PySem.W.Frag) : Addr := He.ga K "Span"
def RN : List Str := ["rows"]
def spD (K : PySem.W.Frag) (rows : List Nat) : D := .ob (He.ga K "Span") RN [.lst (rows.map intD)]
def RowsOf (K : PySem.W.Frag) (S : Sto) (x : D) (rows : List Nat) : Prop := ∃ d, OV S x (He.ga K "Span") RN [d] ∧ LV S d (rows.map intD)
theorem RowsOf.o {S : Sto} {rows : List Nat} : RowsOf K S (spD K rows) rows := ⟨_, .o, .o⟩
theorem OV.le {S S' : Sto} {x : D} {C : Addr} {ns : List Str} {l : List D} (e : SLe S S') (h : OV S x C ns l) : OV S' x C ns l := by
  rcases h with h | ⟨a, h1, h2⟩
  · exact .inl h
  · exact .inr ⟨a, h1, e _ _ h2⟩
theorem LV.le {S S' : Sto} {x : D} {l : List D} (e : SLe S S') (h : LV S x l) : LV S' x l := by
  rcases h with h | ⟨a, h1, h2⟩
  · exact .inl h
  · exact .inr ⟨a, h1, e _ _ h2⟩
theorem RowsOf.le {S S' : Sto} {x : D} {rows : List Nat} (e : SLe S S') (h : RowsOf K S x rows) : RowsOf K S' x rows := let ⟨d, h1, h2⟩ := h; ⟨d, h1.le e, h2.le e⟩
def left (rows : List Nat) (m : Nat) : Nat := rows.foldl (fun m r => min m (m ^^^ r)) m
def insD (x : Nat) : List Nat → List Nat
  | [] => [x]
  | y :: l => if y ≤ x then x :: y :: l else y :: insD x l
def addR (rows : List Nat) (m : Nat) : List Nat := if left rows m = 0 then rows else insD (left rows m) rows
def SpanAt (K : PySem.W.Frag) (S0 : Sto) (p : Addr) (rows : List Nat) (S : Sto) : Prop := ∃ r, r ≠ p ∧ S0 r = none ∧ S0 p = none ∧ S = (S0.put r (.lst (rows.map intD))).put p (.ins (He.ga K "Span") RN [.ref r])
theorem SpanAt.le {S0 S : Sto} {p : Addr} {rows : List Nat} (h : SpanAt K S0 p rows S) : SLe S0 S := by
  obtain ⟨r, h1, h2, h3, rfl⟩ := h
  exact (SLe.put h2).trans (SLe.put (by rw [put_ne (Ne.symm h1)]; exact h3))
theorem SpanAt.rows {S0 S : Sto} {p : Addr} {rows : List Nat} (h : SpanAt K S0 p rows S) : RowsOf K S (.ref p) rows := by
  obtain ⟨r, h1, h2, h3, rfl⟩ := h
  exact ⟨_, .h put_same, .h (by rw [put_ne h1]; exact put_same)⟩
theorem insD_perm (x : Nat) : ∀ l : List Nat, (insD x l).Perm (x :: l)
  | [] => .refl _
  | y :: l => by
    unfold insD
    split
    · exact .refl _
    · exact ((insD_perm x l).cons y).trans (.swap ..)
theorem insD_sorted (x : Nat) : ∀ l : List Nat, l.Pairwise (· ≥ ·) → (insD x l).Pairwise (· ≥ ·)
  | [], _ => by simp [insD]
  | y :: l, h => by
    unfold insD
    obtain ⟨h1, h2⟩ := List.pairwise_cons.mp h
    split
    · rename_i hy
      refine List.pairwise_cons.mpr ⟨fun z hz => ?_, h⟩
      rcases List.mem_cons.mp hz with e | e
      · subst e
        exact hy
      · exact Nat.le_trans (h1 z e) hy
    · rename_i hy
      refine List.pairwise_cons.mpr ⟨fun z hz => ?_, insD_sorted x l h2⟩
      rcases List.mem_cons.mp ((insD_perm x l).mem_iff.mp hz) with e | e
      · subst e
        omega
      · exact h1 z e
theorem sorted_unique {ns ms : List Int} (p : ns.Perm ms) (h1 : ns.Pairwise (· ≥ ·)) (h2 : ms.Pairwise (· ≥ ·)) : ns = ms :=
  List.Perm.eq_of_pairwise (le := (· ≥ ·)) (fun a b _ _ h1 h2 => by omega) h1 h2 p
theorem int_pw {l : List Nat} (h : l.Pairwise (· ≥ ·)) : (l.map fun n : Nat => (n : Int)).Pairwise (· ≥ ·) := by
  rw [List.pairwise_map]
  exact h.imp fun h => by omega
theorem addR_sorted {rows : List Nat} (m : Nat) (h : rows.Pairwise (· ≥ ·)) : (addR rows m).Pairwise (· ≥ ·) := by
  unfold addR
  split
  · exact h
  · exact insD_sorted _ _ h
theorem addR_len (rows : List Nat) (m : Nat) : (addR rows m).length ≤ rows.length + 1 := by
  unfold addR
  split
  · omega
  · rw [(insD_perm _ _).length_eq]
    exact Nat.le_refl _
theorem intD_map (l : List Nat) : l.map intD = (l.map fun n : Nat => (n : Int)).map D.int := by
  rw [List.map_map]
  rfl
def p_Span_rank (K : PySem.W.Frag) : Phi := fun S ds P => ∃ x rows, ds = [x] ∧ RowsOf K S x rows ∧ P S (.int rows.length)
theorem sx_Span_rank (T : Top K mg) (S : Sto) (ds : List D) (Q : Sto → D → Prop) (h : p_Span_rank K S ds Q) : Sx S (startD N_Span_rank.length ds) (t_Span_rank K) { nx := fun S' _ => Q S' .non, rt := Q } := by
  obtain ⟨x, rows, rfl, ⟨d, h1, h2⟩, hq⟩ := h
  unfold t_Span_rank
  walk_at "akgo"
  refine ev_fld ?_
  walk_at "akgo"
  refine ⟨_, _, _, d, h1, T.c_Span, T.na_Span_rows, (by with_unfolding_all rfl), ?_⟩
  walk_at "akgo"
  refine rc_lenL h2 ?_
  rw [List.length_map]
  exact hq
def p_Span_left (K : PySem.W.Frag) : Phi := fun S ds P => ∃ x rows, ∃ m : Nat, ds = [x, .int m] ∧ RowsOf K S x rows ∧ P S (.int (left rows m))
theorem sx_Span_left (T : Top K mg) (S : Sto) (ds : List D) (Q : Sto → D → Prop) (h : p_Span_left K S ds Q) : Sx S (startD N_Span_left.length ds) (t_Span_left K) { nx := fun S' _ => Q S' .non, rt := Q } := by
  obtain ⟨x, rows, m, rfl, ⟨d, h1, h2⟩, hq⟩ := h
  unfold t_Span_left
  walk_at "akgo"
  refine q_forM intD rows (fun k S' ρ' => S = S' ∧ ∃ y, ρ' = [some x, some (.int (left (rows.take k) m)), y]) (evI_list ?_) ?_ ?_
  · refine ev_fld ?_
    walk_at "akgo"
    refine ⟨_, _, _, d, h1, T.c_Span, T.na_Span_rows, (by with_unfolding_all rfl), ?_⟩
    exact ⟨_, h2, rfl, fun _ S' _ _ h => h.1 ▸ h2, rfl, none, rfl⟩
  · rintro k a S' ρ' ha ⟨rfl, y, rfl⟩
    unfold intD
    walk_at "akgo"
    refine ⟨rfl, some (intD a), ?_⟩
    have e : rows.take (k + 1) = rows.take k ++ [a] := by
      rw [List.take_add_one, ha]
      rfl
    rw [e]
    unfold left
    rw [List.foldl_append, Bits.bitXor_pp (by omega) (by omega), Int.toNat_natCast, Int.toNat_natCast]
    simp only [List.foldl_cons, List.foldl_nil]
    rw [show (if (((List.foldl (fun m r => min m (m ^^^ r)) m (List.take k rows) ^^^ a : Nat) : Int) < ((List.foldl (fun m r => min m (m ^^^ r)) m (List.take k rows) : Nat) : Int)) then ((List.foldl (fun m r => min m (m ^^^ r)) m (List.take k rows) ^^^ a : Nat) : Int) else ((List.foldl (fun m r => min m (m ^^^ r)) m (List.take k rows) : Nat) : Int)) = ((min (List.foldl (fun m r => min m (m ^^^ r)) m (List.take k rows)) (List.foldl (fun m r => min m (m ^^^ r)) m (List.take k rows) ^^^ a) : Nat) : Int) by split <;> omega]
    rfl
  · rintro S' ρ' ⟨rfl, y, rfl⟩
    walk_at "akgo"
    rw [List.take_length]
    exact hq
theorem meth_ok {x : Str} {ns : List Str} (h : ns.all (fun n => !decide (x = n)) = true) : x ∉ ns := fun hm => by
  have z := List.all_eq_true.mp h x hm
  simp at z
def p_Span_has (K : PySem.W.Frag) : Phi := fun S ds P => ∃ x rows, ∃ m : Nat, ds = [x, .int m] ∧ RowsOf K S x rows ∧ P S (.bl (decide (left rows m = 0)))
theorem sx_Span_has (T : Top K mg) (S : Sto) (ds : List D) (Q : Sto → D → Prop) (h : p_Span_has K S ds Q) : Sx S (startD N_Span_has.length ds) (t_Span_has K (p_Span_left K)) { nx := fun S' _ => Q S' .non, rt := Q } := by
  obtain ⟨x, rows, m, rfl, ⟨d, h1, h2⟩, hq⟩ := h
  unfold t_Span_has
  walk_at "akgo"
  refine ev_meth ?_
  walk_at "akgo"
  refine ⟨⟨_, _, h1, by decide +kernel⟩, ?_⟩
  walk_at "akgo"
  refine ⟨x, rows, m, rfl, ⟨d, h1, h2⟩, ?_⟩
  walk_at "akgo"
  have e : decide ((left rows m : Int) = 0) = decide (left rows m = 0) := decide_eq_decide.mpr (by omega)
  rw [e]
  exact hq
theorem sto_ext {S S' : Sto} (h : ∀ a, S a = S' a) : S = S' := funext h
def p_Span_add (K : PySem.W.Frag) : Phi := fun S ds P => ∃ (S0 : Sto) (p : Addr) (rows : List Nat) (m : Nat), ds = [.ref p, .int m] ∧ SpanAt K S0 p rows S ∧ rows.Pairwise (· ≥ ·) ∧ rows.length ≤ 1000 ∧ ∀ S' b, SpanAt K S0 p (addR rows m) S' → P S' (.bl b)
theorem sx_Span_add (T : Top K mg) (S : Sto) (ds : List D) (Q : Sto → D → Prop) (h : p_Span_add K S ds Q) : Sx S (startD N_Span_add.length ds) (t_Span_add K (p_Span_left K)) { nx := fun S' _ => Q S' .non, rt := Q } := by
  obtain ⟨S0, p, rows, m, rfl, hS, hs, hl, hq⟩ := h
  have hrows := hS.rows
  have hS2 := hS
  obtain ⟨r, h1, h2, h3, rfl⟩ := hS
  unfold t_Span_add
  walk_at "akgo"
  refine ev_meth ?_
  walk_at "akgo"
  refine ⟨⟨_, _, .h put_same, by decide +kernel⟩, ?_⟩
  walk_at "akgo"
  refine ⟨_, rows, m, rfl, hrows, ?_⟩
  walk_at "akgo"
  refine q_if ?_
  walk_at "akgo"
  refine ⟨fun hc => ?_, fun hc => ?_⟩
  · have hc' := of_decide_eq_true hc
    walk_at "akgo"
    refine hq _ _ ?_
    have e : addR rows m = rows := by
      unfold addR
      rw [if_pos (by omega)]
    rw [e]
    exact hS2
  · have hc' := of_decide_eq_false hc
    have e : addR rows m = insD (left rows m) rows := by
      unfold addR
      rw [if_neg (by omega)]
    walk_at "akgo"
    refine ev_bm ?_
    (refine ev_fld ?_; walk_at "akgo"; refine ⟨_, _, _, _, OV.h put_same, T.c_Span, T.na_Span_rows, (by with_unfolding_all rfl), ?_⟩)
    refine ⟨⟨rfl, _, by rw [put_ne h1]; exact put_same⟩, ?_⟩
    walk_at "akgo"
    refine rm_append (l := rows.map intD) (by rw [put_ne h1]; exact put_same) (by rw [List.length_map]; omega) ?_
    walk_at "akgo"
    refine q_fld ?_
    refine evA_kw ?_
    walk_at "akgo"
    (refine ev_fld ?_; walk_at "akgo"; refine ⟨_, _, _, _, OV.h (by rw [put_ne (Ne.symm h1)]; exact put_same), T.c_Span, T.na_Span_rows, (by with_unfolding_all rfl), ?_⟩)
    walk_at "akgo"
    refine kw_sortedRevH (ns := (rows ++ [left rows m]).map fun n : Nat => (n : Int)) (.h ?_) fun ns' pm so q hqn => ?_
    · rw [put_same]
      simp only [List.map_append, List.map_map, List.map_cons, List.map_nil]
      rfl
    have en : ns' = (insD (left rows m) rows).map fun n : Nat => (n : Int) := by
      refine sorted_unique (pm.trans ((List.Perm.trans ?_ (insD_perm _ _).symm).map _)) so (int_pw (insD_sorted _ _ hs))
      exact (List.perm_append_comm (l₁ := rows) (l₂ := [left rows m]))
    subst en
    have qr : q ≠ r := fun z => by rw [z, put_same] at hqn; cases hqn
    rw [put_ne qr] at hqn
    have qp : q ≠ p := fun z => by rw [z, put_same] at hqn; cases hqn
    rw [put_ne qp, put_ne qr] at hqn
    walk_at "akgo"
    refine ⟨p, _, _, _, rfl, by rw [put_ne (Ne.symm qp), put_ne (Ne.symm h1)]; exact put_same, T.c_Span, T.na_Span_rows, by decide, ?_⟩
    refine q_lessS (S' := (S0.put q (.lst ((insD (left rows m) rows).map intD))).put p (.ins (He.ga K "Span") RN [.ref q])) ?_ ?_
    · intro b c hb
      by_cases b1 : b = p
      · subst b1
        rw [put_same] at hb ⊢
        exact hb
      · rw [put_ne b1] at hb ⊢
        by_cases b2 : b = q
        · subst b2
          rw [put_same] at hb ⊢
          rw [← hb, intD_map]
        · rw [put_ne b2] at hb ⊢
          have b3 : b ≠ r := fun z => by rw [z, h2] at hb; cases hb
          rw [put_ne b3, put_ne b1, put_ne b3]
          exact hb
    · walk_at "akgo"
      refine hq _ _ ?_
      rw [e]
      exact ⟨q, qp, hqn, h3, rfl⟩
theorem Top.noMasks (T : Top K mg) (H : Hp) : SqT K H (AK.spanD K) [] := by
  have h := T.e
  unfold exA at h
  simp only [Bool.and_eq_true] at h
  have z := h.2.2.2.2
  split at z
  · rename_i c dd its n s heq
    rw [Bool.and_eq_true, decide_eq_true_eq] at z
    refine .inr ⟨_, _, _, heq, by rw [z.1], rfl, ?_, ?_⟩
    · have z2 : its.size = 0 := by simpa using z.2
      rw [z2]
      exact Nat.zero_le _
    · have z2 : its = #[] := by simpa using z.2
      rw [z2]
      exact .nil
  · cases z
def p_Span_init (K : PySem.W.Frag) : Phi := fun S ds P => ∃ (S0 : Sto) (p : Addr), ds = [.ref p, .ref (AK.spanD K)] ∧ S0 p = none ∧ S = S0.put p (.ins (He.ga K "Span") [] []) ∧ ∀ S', SpanAt K S0 p [] S' → P S' .non
theorem sx_Span_init (T : Top K mg) (S : Sto) (ds : List D) (Q : Sto → D → Prop) (h : p_Span_init K S ds Q) : Sx S (startD N_Span_init.length ds) (t_Span_init K (p_Span_add K)) { nx := fun S' _ => Q S' .non, rt := Q } := by
  obtain ⟨S0, p, rfl, hp, rfl, hq⟩ := h
  unfold t_Span_init
  walk_at "akgo"
  refine q_fld ?_
  refine ev_lstH ?_
  walk_at "akgo"
  refine ⟨by simp, fun r hr => ?_⟩
  have rp : r ≠ p := fun z => by rw [z, put_same] at hr; cases hr
  rw [put_ne rp] at hr
  walk_at "akgo"
  refine ⟨p, _, _, _, rfl, by rw [put_ne (Ne.symm rp)]; exact put_same, T.c_Span, T.na_Span_rows, by decide, ?_⟩
  refine q_forM intD [] (fun _ S' _ => ((S0.put p (.ins (He.ga K "Span") [] [])).put r (.lst [])).put p (.ins (He.ga K "Span") RN [.ref r]) = S') (evI_none T.noMasks ?_) ?_ ?_
  · walk_at "akgo"
    exact ⟨rfl, rfl, fun _ _ _ _ _ => trivial, rfl⟩
  · intro i a S' ρ' hi
    cases hi
  · rintro S' ρ' rfl
    refine hq _ ⟨r, rp, hr, hp, ?_⟩
    rw [put_comm (Ne.symm rp), put_put]
    rfl
def p_Span_copied (K : PySem.W.Frag) : Phi := fun S ds P => ∃ x rows, ds = [x] ∧ RowsOf K S x rows ∧ ∀ p S', SpanAt K S p rows S' → P S' (.ref p)
theorem sx_Span_copied (T : Top K mg) (S : Sto) (ds : List D) (Q : Sto → D → Prop) (h : p_Span_copied K S ds Q) : Sx S (startD N_Span_copied.length ds) (t_Span_copied K (p_Span_init K)) { nx := fun S' _ => Q S' .non, rt := Q } := by
  obtain ⟨x, rows, rfl, hR, hq⟩ := h
  unfold t_Span_copied
  walk_at "akgo"
  refine ev_makeD ?_
  walk_at "akgo"
  intro p hp
  refine ⟨S, p, rfl, hp, rfl, fun S1 hS => ⟨rfl, ?_⟩⟩
  have hle := hS.le
  obtain ⟨r, h1, h2, h3, rfl⟩ := hS
  obtain ⟨d, hd1, hd2⟩ := hR.le hle
  walk_at "akgo"
  refine q_fld ?_
  walk_at "akgo"
  refine ev_fld ?_
  walk_at "akgo"
  refine ⟨_, _, _, d, hd1, T.c_Span, T.na_Span_rows, (by with_unfolding_all rfl), ?_⟩
  walk_at "akgo"
  refine rc_listH (.inl hd2) fun q hqn => ?_
  have qp : q ≠ p := fun z => by rw [z, put_same] at hqn; cases hqn
  rw [put_ne qp] at hqn
  have qr : q ≠ r := fun z => by rw [z, put_same] at hqn; cases hqn
  rw [put_ne qr] at hqn
  walk_at "akgo"
  refine ⟨p, _, _, _, rfl, by rw [put_ne (Ne.symm qp)]; exact put_same, T.c_Span, T.na_Span_rows, by decide, ?_⟩
  refine q_lessS (S' := (S.put q (.lst (rows.map intD))).put p (.ins (He.ga K "Span") RN [.ref q])) ?_ ?_
  · intro b c hb
    by_cases b1 : b = p
    · subst b1
      rw [put_same] at hb ⊢
      exact hb
    · rw [put_ne b1] at hb ⊢
      by_cases b2 : b = q
      · subst b2
        rw [put_same] at hb ⊢
        exact hb
      · rw [put_ne b2] at hb ⊢
        have b3 : b ≠ r := fun z => by rw [z, h2] at hb; cases hb
        rw [put_ne b1, put_ne b3]
        exact hb
  · walk_at "akgo"
    exact hq _ _ ⟨q, qp, hqn, hp, rfl⟩
end AK
set_option Elab.async false
set_option linter.all false
set_option maxRecDepth 100000
set_option maxHeartbeats 4000000
namespace AK
local macro_rules | `(tactic| walk_at "akgo") => `(tactic| (repeat (first | with_reducible refine q_seq ?_ | with_reducible refine q_asg ?_ | with_reducible refine q_drop ?_ | with_reducible refine q_ret ?_ | with_reducible refine q_next ?_ | with_reducible refine q_break ?_ | with_reducible refine ev_int ?_ | with_reducible refine ev_str ?_ | with_reducible refine ev_bl ?_ | with_reducible refine ev_non ?_ | with_reducible refine ev_ty ?_ | with_reducible refine ev_cls ?_ | with_reducible refine ev_op ?_ | with_reducible refine ev_un ?_ | with_reducible refine ev_cb ?_ | with_reducible refine evA_cons ?_ | with_reducible refine evA_nil ?_ | with_reducible refine rd_int ?_ | with_reducible refine rd_cmp ?_ | with_reducible refine r1_neg ?_ | with_reducible refine rd_eqI ?_ | with_reducible refine rd_neI ?_ | with_reducible refine rd_eqS ?_ | with_reducible refine rd_neS ?_ | with_reducible refine rd_neB ?_ | with_reducible refine rd_isN ?_ | with_reducible refine rd_notN ?_ | with_reducible refine rd_notB ?_ | with_reducible refine rd_inS ?_ | with_reducible refine rd_ninS ?_ | with_reducible refine evT_test ?_ | with_reducible refine evT_B ?_ | with_reducible refine evT_not ?_ | with_reducible refine evT_yes ?_ | with_reducible refine ev_notV ?_ | with_reducible refine rc_int ?_ | with_reducible refine rc_min2 ?_ | with_reducible refine rc_max2 ?_ | with_reducible refine rc_lenT ?_ | with_reducible refine q_asgG ?_ | with_reducible refine gds_nil ?_ | with_reducible refine gds_name ?_ | with_reducible refine ev_call ?_ | with_reducible refine gd_name ?_ | with_reducible refine ev_tup ?_ | with_reducible refine ev_var (by with_unfolding_all rfl) ?_ | with_reducible refine ⟨_, rfl, ?_⟩ | with_reducible refine gd_tup rfl ?_ | with_reducible refine rc_lenL LV.o ?_)))
open PySem PySem.Spec PyProof.Rows L2
variable {P : Program} {w : World} {K : PySem.W.Frag} {mg : Str → Option Value} {base : Heap}
/-! ### a state -/
structure St where
  net : Net
  had : List (List (Nat × Nat))
  unused : List Nat
def prD (q : Nat × Nat) : D := pairD (up q.1, (q.2 : Nat))
def rowD (r : List (Nat × Nat)) : D := .lst (r.map prD)
def hadD (h : List (List (Nat × Nat))) : D := .lst (h.map rowD)
def endD (l : Nat × Nat) : D := .tup [intD l.1, intD l.2]
def endsD (N : Net) : D := .lst (N.links.map endD)
def unD (u : List Nat) : D := .lst (u.map intD)
def SF : List Str := ["network", "links", "had", "unused", "_spans", "_tight"]
def Net.Has (N : Net) (q : Nat × Nat) : Prop := ∃ ms, N.nodes[q.1]? = some ms ∧ q.2 < ms.length
structure St.Ok (st : St) : Prop where
  net : st.net.Ok
  hl : st.had.length = st.net.nodes.length
  hq : ∀ row ∈ st.had, ∀ q ∈ row, st.net.Has q
  hr : ∀ row ∈ st.had, row.length + st.unused.length ≤ 40
  ul : ∀ l ∈ st.unused, l < st.net.links.length
def Net.msg (N : Net) (q : Nat × Nat) : Nat := ((N.nodes[q.1]?.getD [])[q.2]?).getD 0
def St.ms (st : St) (i : Nat) : List Nat := (st.had[i]?.getD []).map st.net.msg
def St.n (st : St) : Nat := st.had.length
def rowsOf (f : Nat → List Nat) (X : Nat) : List Nat := (List.range 5).foldl (fun acc i => if X.testBit i then (f i).foldl addR acc else acc) []
def St.rows (st : St) (X : Nat) : List Nat := rowsOf st.ms X
theorem St.Ok.n1 {st : St} (h : st.Ok) : 1 ≤ st.n := by
  have := h.net.n1
  have := h.hl
  unfold St.n
  omega
theorem St.Ok.n5 {st : St} (h : st.Ok) : st.n ≤ 5 := by
  have := h.net.n5
  have := h.hl
  unfold St.n
  omega
theorem foldl_addR_sorted : ∀ (l rows : List Nat), rows.Pairwise (· ≥ ·) → (l.foldl addR rows).Pairwise (· ≥ ·)
  | [], _, h => h
  | m :: l, rows, h => foldl_addR_sorted l _ (addR_sorted m h)
theorem foldl_addR_len : ∀ (l rows : List Nat), (l.foldl addR rows).length ≤ rows.length + l.length
  | [], _ => Nat.le_refl _
  | m :: l, rows => by
    have a := foldl_addR_len l (addR rows m)
    have b := addR_len rows m
    simp only [List.foldl_cons, List.length_cons]
    omega
theorem rowsOf_sorted (f : Nat → List Nat) (X : Nat) : (rowsOf f X).Pairwise (· ≥ ·) := by
  unfold rowsOf
  have all : ∀ (l : List Nat) (acc : List Nat), acc.Pairwise (· ≥ ·) → (l.foldl (fun acc i => if X.testBit i then (f i).foldl addR acc else acc) acc).Pairwise (· ≥ ·) := by
    intro l
    induction l with
    | nil => exact fun _ h => h
    | cons i l ih =>
      intro acc h
      refine ih _ ?_
      simp only []
      split
      · exact foldl_addR_sorted _ _ h
      · exact h
  exact all _ _ List.Pairwise.nil
theorem rowsOf_len (f : Nat → List Nat) (X : Nat) (h : ∀ i, (f i).length ≤ 40) : (rowsOf f X).length ≤ 200 := by
  unfold rowsOf
  have all : ∀ (l : List Nat) (acc : List Nat), (l.foldl (fun acc i => if X.testBit i then (f i).foldl addR acc else acc) acc).length ≤ acc.length + 40 * l.length := by
    intro l
    induction l with
    | nil => exact fun acc => Nat.le_refl _
    | cons i l ih =>
      intro acc
      refine Nat.le_trans (ih _) ?_
      have z : (if X.testBit i then (f i).foldl addR acc else acc).length ≤ acc.length + 40 := by
        split
        · have := foldl_addR_len (f i) acc
          have := h i
          omega
        · omega
      simp only [List.length_cons]
      omega
  simpa using all (List.range 5) []
theorem rowsOf_top (f : Nat → List Nat) : ∀ X, 1 ≤ X → X < 32 → rowsOf f X = (f X.log2).foldl addR (rowsOf f (X - 2 ^ X.log2))
  | 0, h, _ => absurd h (by decide)
  | 1, _, _ => rfl | 2, _, _ => rfl | 3, _, _ => rfl | 4, _, _ => rfl | 5, _, _ => rfl | 6, _, _ => rfl | 7, _, _ => rfl | 8, _, _ => rfl
  | 9, _, _ => rfl | 10, _, _ => rfl | 11, _, _ => rfl | 12, _, _ => rfl | 13, _, _ => rfl | 14, _, _ => rfl | 15, _, _ => rfl | 16, _, _ => rfl
  | 17, _, _ => rfl | 18, _, _ => rfl | 19, _, _ => rfl | 20, _, _ => rfl | 21, _, _ => rfl | 22, _, _ => rfl | 23, _, _ => rfl | 24, _, _ => rfl
  | 25, _, _ => rfl | 26, _, _ => rfl | 27, _, _ => rfl | 28, _, _ => rfl | 29, _, _ => rfl | 30, _, _ => rfl | 31, _, _ => rfl
  | n + 32, _, h => absurd h (by omega)
theorem St.Ok.ms_len {st : St} (h : st.Ok) (i : Nat) : (st.ms i).length ≤ 40 := by
  unfold St.ms
  rw [List.length_map]
  cases e : st.had[i]? with
  | none => exact Nat.zero_le _
  | some row =>
    have := h.hr row (List.mem_of_getElem? e)
    show row.length ≤ 40
    omega
/-! ### as it stands in the store -/
def stL (K : PySem.W.Frag) (st : St) (m t : D) : List D := [netD K st.net, endsD st.net, hadD st.had, unD st.unused, m, t]
def StF (K : PySem.W.Frag) (S : Sto) (x : D) (st : St) : Prop := ∃ m t, OV S x (He.ga K "State") SF (stL K st m t)
theorem StF.le {S S' : Sto} {x : D} {st : St} (e : SLe S S') (h : StF K S x st) : StF K S' x st := let ⟨m, t, h⟩ := h; ⟨m, t, h.le e⟩
def memoD (K : PySem.W.Frag) (st : St) (k : Nat) : List D := (List.range k).map fun X => spD K (st.rows X)
/-- the sets, as the state counts them -/
def intsD (l : List Nat) : D := .lst (l.map intD)
def inX (X : Nat) (l : Nat × Nat) : Bool := X.testBit l.2 && !X.testBit l.1
def Net.link (N : Net) (l : Nat) : Nat × Nat := (N.links[l]?).getD (0, 0)
def St.ent (st : St) (X : Nat) : List Nat := st.unused.filter fun l => inX X (st.net.link l)
def St.rk (st : St) (X : Nat) : Nat := (st.rows X).length
def St.dem (st : St) (X : Nat) : Int := (st.rk (2 ^ st.n - 1) : Int) - st.rk X
def St.slack (st : St) (X : Nat) : Int := ((st.ent X).length : Int) - st.dem X
def nextLo (one : List Nat) : Nat := match one.getLast? with
  | some a => a + 1
  | none => 0
def ext1 (n : Nat) (one : List Nat) : List (List Nat) := (List.range (n - nextLo one)).map fun i => one ++ [nextLo one + i]
def grow (n : Nat) : Nat → List (List Nat)
  | 0 => [[]]
  | k + 1 => ((grow n k).filter fun one => decide (one.length = k)).foldl (fun f one => f ++ ext1 n one) (grow n k)
def setsL (n : Nat) : List Nat := ((grow n n).filter fun one => !one.isEmpty).map fun one => (one.map (2 ^ ·)).sum
def St.defL (st : St) : List Nat := (setsL st.n).filter fun X => decide (st.slack X < 0)
def St.tightL (st : St) : List Nat := (setsL st.n).filter fun X => decide (st.slack X = 0)
def StK (K : PySem.W.Frag) (S0 : Sto) (p : Addr) (st : St) (k : Nat) (S : Sto) : Prop := ∃ m t, m ≠ p ∧ S0 m = none ∧ S0 p = none ∧ (t = .non ∨ t = intsD st.tightL) ∧ S = (S0.put m (.lst (memoD K st k))).put p (.ins (He.ga K "State") SF (stL K st (.ref m) t))
def StAt (K : PySem.W.Frag) (S0 : Sto) (p : Addr) (st : St) (S : Sto) : Prop := ∃ k, (1 ≤ k ∧ k ≤ 32) ∧ StK K S0 p st k S
theorem StK.le {S0 S : Sto} {p : Addr} {st : St} {k : Nat} (h : StK K S0 p st k S) : SLe S0 S := by
  obtain ⟨m, t, h1, h2, h3, h4, rfl⟩ := h
  exact (SLe.put h2).trans (SLe.put (by rw [put_ne (Ne.symm h1)]; exact h3))
theorem StAt.le {S0 S : Sto} {p : Addr} {st : St} (h : StAt K S0 p st S) : SLe S0 S := let ⟨_, _, h⟩ := h; h.le
theorem StK.f {S0 S : Sto} {p : Addr} {st : St} {k : Nat} (h : StK K S0 p st k S) : StF K S (.ref p) st := by
  obtain ⟨m, t, h1, h2, h3, h4, rfl⟩ := h
  exact ⟨_, _, .h put_same⟩
theorem StAt.f {S0 S : Sto} {p : Addr} {st : St} (h : StAt K S0 p st S) : StF K S (.ref p) st := let ⟨_, _, h⟩ := h; h.f
theorem le_none {S0 S : Sto} {a : Addr} (e : SLe S0 S) (h : S a = none) : S0 a = none := by
  cases z : S0 a with
  | none => rfl
  | some c =>
    rw [e a c z] at h
    cases h
/-- another store below -/
theorem StAt.rebase {S0 S1 S : Sto} {p : Addr} {st : St} (e : SLe S1 S0) (h : StAt K S0 p st S) : ∃ S', SLe S' S ∧ StAt K S1 p st S' := by
  obtain ⟨k, hk, m, t, h1, h2, h3, h4, rfl⟩ := h
  exact ⟨_, (e.put2).put2, k, hk, m, t, h1, le_none e h2, le_none e h3, h4, rfl⟩
/-- a thing below is written, or new -/
theorem StAt.put {S0 S : Sto} {p a : Addr} {c : Cell} {st : St} (h : StAt K S0 p st S) (ha : S0 a ≠ none ∨ S a = none) : StAt K (S0.put a c) p st (S.put a c) := by
  obtain ⟨k, hk, m, t, h1, h2, h3, h4, rfl⟩ := h
  have am : a ≠ m ∧ a ≠ p := by
    rcases ha with ha | ha
    · exact ⟨fun z => ha (z ▸ h2), fun z => ha (z ▸ h3)⟩
    · refine ⟨fun z => ?_, fun z => ?_⟩
      · rw [z, put_ne h1, put_same] at ha
        cases ha
      · rw [z, put_same] at ha
        cases ha
  refine ⟨k, hk, m, t, h1, by rw [put_ne (Ne.symm am.1)]; exact h2, by rw [put_ne (Ne.symm am.2)]; exact h3, h4, ?_⟩
  rw [put_comm (Ne.symm am.2), put_comm (Ne.symm am.1)]
/-! ### message, messages -/
theorem up_find : ∀ i < 6, Txt.index0 (tx ABC6) (up i) = some i := idx_ABC
def p_State_message (K : PySem.W.Frag) : Phi := fun S ds P => ∃ x st q, ds = [x, .str (up q.1), .int (q.2 : Nat)] ∧ StF K S x st ∧ st.net.Ok ∧ st.net.Has q ∧ P S (.int (st.net.msg q))
theorem sx_State_message (T : Top K mg) (S : Sto) (ds : List D) (Q : Sto → D → Prop) (h : p_State_message K S ds Q) : Sx S (startD N_State_message.length ds) (t_State_message K p_mask_of) { nx := fun S' _ => Q S' .non, rt := Q } := by
  obtain ⟨x, st, q, rfl, ⟨m, t, hx⟩, ok, ⟨ms, h1, h2⟩, hq⟩ := h
  have h5 := ok.n5
  have hi : q.1 < 5 := by
    have := (List.getElem?_eq_some_iff.mp h1).1
    omega
  unfold t_State_message
  rw [s_ABC]
  walk_at "akgo"
  refine ev_fld ?_
  refine ev_fld ?_
  walk_at "akgo"
  refine ⟨_, _, _, _, hx, T.c_State, T.na_State_network, (by with_unfolding_all rfl), ?_⟩
  refine ⟨_, _, _, _, .o, T.c_Network, T.na_Network_nodes, (by with_unfolding_all rfl), ?_⟩
  refine ev_bm ?_
  walk_at "akgo"
  refine ⟨rfl, ?_⟩
  walk_at "akgo"
  refine rm_indexS (idx_ABC _ (by omega)) ?_
  unfold nodesD
  refine rd_ixT (atI_natD (d := .tup (ms.map msgD)) (by rw [List.getElem?_map, h1]; rfl)) ?_
  walk_at "akgo"
  obtain ⟨a, ha⟩ : ∃ a, ms[q.2]? = some a := ⟨ms[q.2], List.getElem?_eq_getElem h2⟩
  refine rd_ixT (atI_natD (d := msgD a) (by rw [List.getElem?_map, ha]; rfl)) ?_
  walk_at "akgo"
  have hm := ok.msv ms (List.mem_of_getElem? h1) a (List.mem_of_getElem? ha)
  refine ⟨a, rfl, pow_16 ok.v4 hm.2, ?_⟩
  have e : st.net.msg q = a := by
    unfold Net.msg
    rw [h1]
    show (ms[q.2]?).getD 0 = a
    rw [ha]
    rfl
  rw [e] at hq
  exact hq
def p_State_messages (K : PySem.W.Frag) : Phi := fun S ds P => ∃ x st, ∃ i : Nat, ds = [x, .int i] ∧ StF K S x st ∧ st.Ok ∧ i < st.n ∧ P S (intsD (st.ms i))
theorem sx_State_messages (T : Top K mg) (S : Sto) (ds : List D) (Q : Sto → D → Prop) (h : p_State_messages K S ds Q) : Sx S (startD N_State_messages.length ds) (t_State_messages K (p_State_message K)) { nx := fun S' _ => Q S' .non, rt := Q } := by
  obtain ⟨x, st, i, rfl, hf, ok, hi, hq⟩ := h
  have hf2 := hf
  obtain ⟨m, t, hx⟩ := hf
  obtain ⟨row, hrow⟩ : ∃ row, st.had[i]? = some row := ⟨st.had[i], List.getElem?_eq_getElem hi⟩
  have hmem := List.mem_of_getElem? hrow
  have h40 := ok.hr row hmem
  unfold t_State_messages
  walk_at "akgo"
  refine ev_lcA (own_tup (own_cons (by decide) (own_cons (by decide) own_nil))) (S = ·) prD row (fun q => intD (st.net.msg q)) (by omega) (evI_list ?_) ?_ ?_
  · walk_at "akgo"
    refine ev_fld ?_
    walk_at "akgo"
    refine ⟨_, _, _, _, hx, T.c_State, T.na_State_had, (by with_unfolding_all rfl), ?_⟩
    walk_at "akgo"
    refine rd_ixL .o (atI_natD (d := rowD row) (by rw [List.getElem?_map, hrow]; rfl)) ?_
    exact ⟨_, .o, rfl, fun _ _ => .o, rfl⟩
  · rintro q hqm _ rfl
    unfold prD pairD
    walk_at "akgo"
    refine ev_meth ?_
    walk_at "akgo"
    refine ⟨⟨_, _, hx, by decide +kernel⟩, ?_⟩
    walk_at "akgo"
    exact ⟨x, st, q, rfl, hf2, ok.net, ok.hq row hmem q hqm, rfl, rfl⟩
  · rintro _ rfl
    have e : intsD (st.ms i) = .lst (row.map fun q => intD (st.net.msg q)) := by
      unfold intsD St.ms
      rw [hrow, List.map_map]
      rfl
    rw [e] at hq
    exact hq
end AK
set_option Elab.async false
set_option linter.all false
set_option maxRecDepth 100000
set_option maxHeartbeats 4000000
namespace AK
local macro_rules | `(tactic| walk_at "akgo") => `(tactic| (repeat (first | with_reducible refine q_seq ?_ | with_reducible refine q_asg ?_ | with_reducible refine q_drop ?_ | with_reducible refine q_ret ?_ | with_reducible refine q_next ?_ | with_reducible refine q_break ?_ | with_reducible refine ev_int ?_ | with_reducible refine ev_str ?_ | with_reducible refine ev_bl ?_ | with_reducible refine ev_non ?_ | with_reducible refine ev_ty ?_ | with_reducible refine ev_cls ?_ | with_reducible refine ev_op ?_ | with_reducible refine ev_un ?_ | with_reducible refine ev_cb ?_ | with_reducible refine evA_cons ?_ | with_reducible refine evA_nil ?_ | with_reducible refine rd_int ?_ | with_reducible refine rd_cmp ?_ | with_reducible refine r1_neg ?_ | with_reducible refine rd_eqI ?_ | with_reducible refine rd_neI ?_ | with_reducible refine rd_eqS ?_ | with_reducible refine rd_neS ?_ | with_reducible refine rd_neB ?_ | with_reducible refine rd_isN ?_ | with_reducible refine rd_notN ?_ | with_reducible refine rd_notB ?_ | with_reducible refine rd_inS ?_ | with_reducible refine rd_ninS ?_ | with_reducible refine evT_test ?_ | with_reducible refine evT_B ?_ | with_reducible refine evT_not ?_ | with_reducible refine evT_yes ?_ | with_reducible refine ev_notV ?_ | with_reducible refine rc_int ?_ | with_reducible refine rc_min2 ?_ | with_reducible refine rc_max2 ?_ | with_reducible refine rc_lenT ?_ | with_reducible refine q_asgG ?_ | with_reducible refine gds_nil ?_ | with_reducible refine gds_name ?_ | with_reducible refine ev_call ?_ | with_reducible refine gd_name ?_ | with_reducible refine ev_tup ?_ | with_reducible refine ev_var (by with_unfolding_all rfl) ?_ | with_reducible refine ⟨_, rfl, ?_⟩ | with_reducible refine gd_tup rfl ?_ | with_reducible refine rc_lenL LV.o ?_)))
open PySem PySem.Spec PyProof.Rows L2
variable {P : Program} {w : World} {K : PySem.W.Frag} {mg : Str → Option Value} {base : Heap}
/-! ### sets -/
def tupD (one : List Nat) : D := .tup (one.map intD)
theorem grow_tab : ∀ n < 6, ∀ k < 6, (grow n k).length ≤ 64 ∧ ∀ one ∈ grow n k, one.length ≤ 5 ∧ ∀ a ∈ one, a < 6 := by decide +kernel
theorem ext1_len (n : Nat) (one : List Nat) : (ext1 n one).length ≤ n := by
  unfold ext1
  rw [List.length_map, List.length_range]
  omega
theorem fold_len (n : Nat) : ∀ (rows f : List (List Nat)), (rows.foldl (fun f one => f ++ ext1 n one) f).length ≤ f.length + n * rows.length
  | [], f => by simp
  | one :: rows, f => by
    have a := fold_len n rows (f ++ ext1 n one)
    have b := ext1_len n one
    simp only [List.foldl_cons, List.length_cons]
    rw [List.length_append] at a
    rw [Nat.mul_succ]
    omega
theorem atI_last {α : Type} {l : List α} {a : α} (h : l.getLast? = some a) : L2.atI l (-1) = some a := by
  have hne : l ≠ [] := fun e => by rw [e] at h; cases h
  have hl : 1 ≤ l.length := Nat.one_le_iff_ne_zero.mpr fun z => hne (List.length_eq_zero_iff.mp z)
  unfold L2.atI
  have e : ixN l.length (-1) = some (l.length - 1) := by
    unfold ixN
    first | (simp; omega) | (rw [if_neg (by omega)]; simp; omega)
  rw [e]
  rw [List.getLast?_eq_getElem?] at h
  exact h
theorem take_succ_at {α : Type} {l : List α} {i : Nat} {a : α} (h : l[i]? = some a) : l.take (i + 1) = l.take i ++ [a] := by
  rw [List.take_add_one, h]
  rfl
def p_State_sets (K : PySem.W.Frag) : Phi := fun S ds P => ∃ x st, ds = [x] ∧ StF K S x st ∧ st.Ok ∧ P S (intsD (setsL st.n))
theorem sx_State_sets (T : Top K mg) (S : Sto) (ds : List D) (Q : Sto → D → Prop) (h : p_State_sets K S ds Q) : Sx S (startD N_State_sets.length ds) (t_State_sets K) { nx := fun S' _ => Q S' .non, rt := Q } := by
  obtain ⟨x, st, rfl, hf, ok, hq⟩ := h
  have hn5 := ok.n5
  have hn5' : st.had.length ≤ 5 := hn5
  unfold t_State_sets
  walk_at "akgo"
  refine ev_lstH ?_
  walk_at "akgo"
  refine ⟨by simp, ?_⟩
  walk_at "akgo"
  refine ⟨by simp, fun a ha => ?_⟩
  have hle : ∀ l, SLe S (S.put a (.lst l)) := fun l => SLe.put ha
  walk_at "akgo"
  refine q_forM intD (List.range st.n) (fun k S' ρ' => S' = S.put a (.lst ((grow st.n k).map tupD)) ∧ ∃ y z u v, ρ' = [some x, some (.ref a), y, z, u, v]) (evI_rng1 ?_) ?_ ?_
  · walk_at "akgo"
    obtain ⟨m, t, hx⟩ := hf.le (hle [.tup []])
    refine ev_fld ?_
    walk_at "akgo"
    refine ⟨_, _, _, _, hx, T.c_State, T.na_State_had, (by with_unfolding_all rfl), ?_⟩
    unfold hadD
    walk_at "akgo"
    rw [List.length_map]
    exact ⟨by omega, by omega, rangeD_nat _, fun _ _ _ _ _ => trivial, rfl, none, none, none, none, rfl⟩
  · rintro k a' S' ρ' hk ⟨rfl, y, z, u, v, rfl⟩
    have hkn : k < st.n := by
      have := (List.getElem?_eq_some_iff.mp hk).1
      simpa using this
    have ek : a' = k := by
      rw [List.getElem?_range hkn] at hk
      exact (Option.some.inj hk).symm
    subst ek
    obtain ⟨g1, g2⟩ := grow_tab st.n (by omega) a' (by omega)
    unfold intD
    walk_at "akgo"
    refine ev_lcM (own_name (by decide)) (S.put a (.lst ((grow st.n a').map tupD)) = ·) tupD (grow st.n a') (fun one => decide (one.length = a')) tupD (by omega) (evI_list ?_) ?_ ?_
    · walk_at "akgo"
      exact ⟨_, .h put_same, rfl, fun S' e => e ▸ .h put_same, rfl⟩
    · rintro one hone _ rfl
      walk_at "akgo"
      refine rc_lenT ?_
      walk_at "akgo"
      refine ⟨?_, fun hc => ?_, fun hc => rfl⟩
      · rw [List.length_map]
        exact decide_eq_decide.mpr (by omega)
      · walk_at "akgo"
        exact ⟨rfl, rfl⟩
    · rintro _ rfl
      refine q_forM tupD ((grow st.n a').filter fun one => decide (one.length = a')) (fun j S'' ρ'' => S'' = S.put a (.lst (((((grow st.n a').filter fun one => decide (one.length = a')).take j).foldl (fun f one => f ++ ext1 st.n one) (grow st.n a')).map tupD)) ∧ ∃ z v, ρ'' = [some x, some (.ref a), some (intD a'), z, some (.lst (((grow st.n a').filter fun one => decide (one.length = a')).map tupD)), v]) (evI_list ?_) ?_ ?_
      · walk_at "akgo"
        exact ⟨_, .o, rfl, fun _ _ _ _ _ => .o, rfl, z, v, rfl⟩
      · rintro j one S'' ρ'' hj ⟨rfl, z, v, rfl⟩
        have hone := (List.mem_filter.mp (List.mem_of_getElem? hj)).1
        obtain ⟨o1, o2⟩ := g2 one hone
        have hjl : j < ((grow st.n a').filter fun one => decide (one.length = a')).length := (List.getElem?_eq_some_iff.mp hj).1
        have hfl : ((grow st.n a').filter fun one => decide (one.length = a')).length ≤ 64 := Nat.le_trans (List.length_filter_le ..) g1
        have hfo := fold_len st.n (((grow st.n a').filter fun one => decide (one.length = a')).take j) (grow st.n a')
        have hfo2 : st.n * (((grow st.n a').filter fun one => decide (one.length = a')).take j).length ≤ 5 * 64 := Nat.mul_le_mul hn5 (by rw [List.length_take]; omega)
        walk_at "akgo"
        refine ev_bm ?_
        walk_at "akgo"
        refine ⟨⟨rfl, _, put_same⟩, ?_⟩
        walk_at "akgo"
        refine ev_lcA (own_name (by decide)) (S.put a (.lst (((((grow st.n a').filter fun one => decide (one.length = a')).take j).foldl (fun f one => f ++ ext1 st.n one) (grow st.n a')).map tupD)) = ·) (fun i => intD (nextLo one + i)) (List.range (st.n - nextLo one)) (fun i => tupD (one ++ [nextLo one + i])) (by rw [List.length_range]; omega) (evI_rng2 ?_) ?_ ?_
        · walk_at "akgo"
          obtain ⟨m, t, hx⟩ := hf.le (hle (((((grow st.n a').filter fun one => decide (one.length = a')).take j).foldl (fun f one => f ++ ext1 st.n one) (grow st.n a')).map tupD))
          have fin : Ev (S.put a (.lst (((((grow st.n a').filter fun one => decide (one.length = a')).take j).foldl (fun f one => f ++ ext1 st.n one) (grow st.n a')).map tupD))) [some x, some (.ref a), some (intD a'), some (tupD one), some (.lst (((grow st.n a').filter fun one => decide (one.length = a')).map tupD)), v] (tFld K (tVar 0) (Str.ofString "had")) fun S2 y => S2 = S.put a (.lst (((((grow st.n a').filter fun one => decide (one.length = a')).take j).foldl (fun f one => f ++ ext1 st.n one) (grow st.n a')).map tupD)) ∧ y = hadD st.had := by
            refine ev_fld ?_
            walk_at "akgo"
            exact ⟨_, _, _, _, hx, T.c_State, T.na_State_had, (by with_unfolding_all rfl), rfl, rfl⟩
          have rest : ∀ lo : Int, lo = ((nextLo one : Nat) : Int) → EvA (S.put a (.lst (((((grow st.n a').filter fun one => decide (one.length = a')).take j).foldl (fun f one => f ++ ext1 st.n one) (grow st.n a')).map tupD))) [some x, some (.ref a), some (intD a'), some (tupD one), some (.lst (((grow st.n a').filter fun one => decide (one.length = a')).map tupD)), v] (tCons (tCB (rLenD K) (tCons (tFld K (tVar 0) (Str.ofString "had")) tNil)) tNil) fun S2 xs => ∃ m n, D.int lo :: xs = [D.int m, D.int n] ∧ (-2 ^ 62 ≤ m ∧ m < 2 ^ 62 ∧ -2 ^ 62 ≤ n ∧ n < 2 ^ 62) ∧ rangeD m n = List.map (fun i => intD (nextLo one + i)) (List.range (st.n - nextLo one)) ∧ (∀ (S' : Sto), S.put a (.lst (((((grow st.n a').filter fun one => decide (one.length = a')).take j).foldl (fun f one => f ++ ext1 st.n one) (grow st.n a')).map tupD)) = S' → True) ∧ S.put a (.lst (((((grow st.n a').filter fun one => decide (one.length = a')).take j).foldl (fun f one => f ++ ext1 st.n one) (grow st.n a')).map tupD)) = S2 := by
            rintro lo rfl
            walk_at "akgo"
            refine ev_mono fin ?_
            rintro S2 y ⟨rfl, rfl⟩
            unfold hadD
            walk_at "akgo"
            rw [List.length_map]
            have hlo : nextLo one ≤ 6 := by
              unfold nextLo
              split
              · rename_i b hb
                have := o2 b (List.mem_of_getLast? hb)
                omega
              · omega
            exact ⟨_, _, rfl, ⟨by omega, by omega, by omega, by omega⟩, rangeD_nat2 _ _, fun _ _ => trivial, rfl⟩
          refine ev_if (evT_truth ?_)
          unfold tupD
          walk_at "akgo"
          refine ⟨_, .inr (.inl ⟨_, rfl, rfl⟩), fun hc => ?_, fun hc => ?_⟩
          · cases hl : one.getLast? with
            | none =>
              rw [List.getLast?_eq_none_iff] at hl
              subst hl
              cases hc
            | some b =>
              walk_at "akgo"
              refine rd_ixT (d := intD b) (atI_last (by rw [List.getLast?_map, hl]; rfl)) ?_
              refine ev_int (rd_int (rest _ ?_))
              unfold nextLo
              rw [hl]
              exact (Int.natCast_add b 1).symm
          · cases one with
            | nil =>
              exact ev_int (rest _ rfl)
            | cons b l => cases hc
        · rintro i hi _ rfl
          unfold intD
          walk_at "akgo"
          refine ⟨by simp, ?_⟩
          unfold tupD
          refine rd_catT (by simp; omega) ⟨rfl, ?_⟩
          rw [List.map_append]
          rfl
        · rintro _ rfl
          walk_at "akgo"
          refine rm_extend put_same .o ?_ ?_
          · rw [List.length_map, List.length_map, List.length_range]
            omega
          · rw [put_put]
            refine ⟨?_, some (tupD one), v, rfl⟩
            rw [take_succ_at hj, List.foldl_append, List.foldl_cons, List.foldl_nil, List.map_append]
            have e : (ext1 st.n one).map tupD = (List.range (st.n - nextLo one)).map fun i => tupD (one ++ [nextLo one + i]) := by
              unfold ext1
              rw [List.map_map]
              rfl
            rw [e]
      · rintro S'' ρ'' ⟨rfl, z, v, rfl⟩
        rw [List.take_length]
        exact ⟨rfl, _, _, _, _, rfl⟩
  · rintro S' ρ' ⟨rfl, y, z, u, v, rfl⟩
    rw [List.length_range]
    obtain ⟨g1, g2⟩ := grow_tab st.n (by omega) st.n (by omega)
    refine q_ret (ev_less ?_)
    refine ev_lcM (own_name (by decide)) (S.put a (.lst ((grow st.n st.n).map tupD)) = ·) tupD (grow st.n st.n) (fun one => !one.isEmpty) (fun one => intD ((one.map (2 ^ ·)).sum)) (by omega) (evI_list ?_) ?_ ?_
    · walk_at "akgo"
      exact ⟨_, .h put_same, rfl, fun S' e => e ▸ .h put_same, rfl⟩
    · rintro one hone _ rfl
      obtain ⟨o1, o2⟩ := g2 one hone
      unfold tupD
      walk_at "akgo"
      refine evT_truth ?_
      walk_at "akgo"
      refine ⟨_, .inr (.inl ⟨_, rfl, rfl⟩), by simp, fun hc => ?_, fun hc => rfl⟩
      walk_at "akgo"
      refine ev_lcA (own_name (by decide)) (S.put a (.lst ((grow st.n st.n).map tupD)) = ·) intD one (fun i => intD (2 ^ i)) (by omega) (evI_tup ?_) ?_ ?_
      · walk_at "akgo"
        exact ⟨rfl, fun _ _ => trivial, rfl⟩
      · rintro i hi _ rfl
        unfold intD
        walk_at "akgo"
        refine rd_intC ⟨by omega, by have := o2 i hi; omega, by decide⟩ ⟨rfl, ?_⟩
        rw [Int.toNat_natCast, Int.one_mul, Int.natCast_pow]
        rfl
      · rintro _ rfl
        walk_at "akgo"
        refine rc_sum (ns := (one.map (2 ^ ·)).map fun n : Nat => (n : Int)) (.inl (by simp only [List.map_map]; rfl)) ⟨rfl, ?_⟩
        unfold intD
        congr 1
        have all : ∀ l : List Nat, (l.map fun n : Nat => (n : Int)).sum = ((l.sum : Nat) : Int) := by
          intro l
          induction l with
          | nil => rfl
          | cons a l ih => rw [List.map_cons, List.sum_cons, List.sum_cons, ih, Int.natCast_add]
        exact all _
    · rintro _ rfl
      refine ⟨S, hle _, ?_⟩
      have e : intsD (setsL st.n) = .lst (((grow st.n st.n).filter fun one => !one.isEmpty).map fun one => intD ((one.map (2 ^ ·)).sum)) := by
        unfold intsD setsL
        rw [List.map_map]
        rfl
      rw [e] at hq
      exact hq
end AK
set_option Elab.async false
set_option linter.all false
set_option maxRecDepth 100000
set_option maxHeartbeats 4000000
namespace AK
local macro_rules | `(tactic| walk_at "akgo") => `(tactic| (repeat (first | with_reducible refine q_seq ?_ | with_reducible refine q_asg ?_ | with_reducible refine q_drop ?_ | with_reducible refine q_ret ?_ | with_reducible refine q_next ?_ | with_reducible refine q_break ?_ | with_reducible refine ev_int ?_ | with_reducible refine ev_str ?_ | with_reducible refine ev_bl ?_ | with_reducible refine ev_non ?_ | with_reducible refine ev_ty ?_ | with_reducible refine ev_cls ?_ | with_reducible refine ev_op ?_ | with_reducible refine ev_un ?_ | with_reducible refine ev_cb ?_ | with_reducible refine evA_cons ?_ | with_reducible refine evA_nil ?_ | with_reducible refine rd_int ?_ | with_reducible refine rd_cmp ?_ | with_reducible refine r1_neg ?_ | with_reducible refine rd_eqI ?_ | with_reducible refine rd_neI ?_ | with_reducible refine rd_eqS ?_ | with_reducible refine rd_neS ?_ | with_reducible refine rd_neB ?_ | with_reducible refine rd_isN ?_ | with_reducible refine rd_notN ?_ | with_reducible refine rd_notB ?_ | with_reducible refine rd_inS ?_ | with_reducible refine rd_ninS ?_ | with_reducible refine evT_test ?_ | with_reducible refine evT_B ?_ | with_reducible refine evT_not ?_ | with_reducible refine evT_yes ?_ | with_reducible refine ev_notV ?_ | with_reducible refine rc_int ?_ | with_reducible refine rc_min2 ?_ | with_reducible refine rc_max2 ?_ | with_reducible refine rc_lenT ?_ | with_reducible refine q_asgG ?_ | with_reducible refine gds_nil ?_ | with_reducible refine gds_name ?_ | with_reducible refine ev_call ?_ | with_reducible refine gd_name ?_ | with_reducible refine ev_tup ?_ | with_reducible refine ev_var (by with_unfolding_all rfl) ?_ | with_reducible refine ⟨_, rfl, ?_⟩ | with_reducible refine gd_tup rfl ?_ | with_reducible refine rc_lenL LV.o ?_)))
open PySem PySem.Spec PyProof.Rows L2
variable {P : Program} {w : World} {K : PySem.W.Frag} {mg : Str → Option Value} {base : Heap}
theorem bits_tab : ∀ m < 32, 1 ≤ m → Builtin.Int.intBits ((m : Nat) : Int) = Nat.log2 m + 1 := by decide +kernel
def stM (K : PySem.W.Frag) (S0 : Sto) (p : Addr) (st : St) (m : Addr) (t : D) (k : Nat) : Sto := (S0.put m (.lst (memoD K st k))).put p (.ins (He.ga K "State") SF (stL K st (.ref m) t))
theorem memo_succ (st : St) (k : Nat) : memoD K st (k + 1) = memoD K st k ++ [spD K (st.rows k)] := by
  unfold memoD
  rw [List.range_succ, List.map_append]
  rfl
theorem memo_at {st : St} {k X : Nat} (h : X < k) : (memoD K st k)[X]? = some (spD K (st.rows X)) := by
  unfold memoD
  rw [List.getElem?_map, List.getElem?_range h]
  rfl
def p_State_span (K : PySem.W.Frag) : Phi := fun S ds P => ∃ S0 p st, ∃ X : Nat, ds = [.ref p, .int X] ∧ StAt K S0 p st S ∧ st.Ok ∧ X < 2 ^ st.n ∧ ∀ S', StAt K S0 p st S' → P S' (spD K (st.rows X))
theorem sx_State_span (T : Top K mg) (S : Sto) (ds : List D) (Q : Sto → D → Prop) (h : p_State_span K S ds Q) : Sx S (startD N_State_span.length ds) (t_State_span K (p_Span_copied K) (p_State_messages K) (p_Span_add K)) { nx := fun S' _ => Q S' .non, rt := Q } := by
  obtain ⟨S0, p, st, X, rfl, ⟨k, hk, m, t, hmp, hm, hp, ht, rfl⟩, ok, hX, hq⟩ := h
  have hn5 := ok.n5
  have hX32 : X < 32 := Nat.lt_of_lt_of_le hX (Nat.le_trans (Nat.pow_le_pow_right (by decide) hn5) (by decide))
  have em : ∀ k, stM K S0 p st m t k m = some (.lst (memoD K st k)) := fun k => by
    unfold stM
    rw [put_ne hmp]
    exact put_same
  have ep : ∀ k, stM K S0 p st m t k p = some (.ins (He.ga K "State") SF (stL K st (.ref m) t)) := fun k => put_same
  have eF : ∀ k, StF K (stM K S0 p st m t k) (.ref p) st := fun k => ⟨_, _, .h (ep k)⟩
  have eK : ∀ k, 1 ≤ k ∧ k ≤ 32 → StAt K S0 p st (stM K S0 p st m t k) := fun k hk => ⟨k, hk, m, t, hmp, hm, hp, ht, rfl⟩
  have eA : ∀ k, (stM K S0 p st m t k).put m (.lst (memoD K st k ++ [spD K (st.rows k)])) = stM K S0 p st m t (k + 1) := fun k => by
    unfold stM
    rw [put_comm (Ne.symm hmp), put_put, memo_succ]
  show Sx (stM K S0 p st m t k) _ _ _
  unfold t_State_span
  walk_at "akgo"
  refine q_forM (fun i => intD (k + i)) (List.range (X + 1 - k)) (fun j S' ρ' => S' = stM K S0 p st m t (k + j) ∧ ∃ y z u v, ρ' = [some (.ref p), some (.int X), y, z, u, v]) (evI_rng2 ?_) ?_ ?_
  · walk_at "akgo"
    (refine ev_fld ?_; walk_at "akgo"; refine ⟨_, _, _, _, OV.h (ep k), T.c_State, T.na_State_spans, (by with_unfolding_all rfl), ?_⟩)
    walk_at "akgo"
    refine rc_lenL (.h (em k)) ?_
    unfold memoD
    walk_at "akgo"
    rw [List.length_map, List.length_range]
    refine ⟨_, _, rfl, ⟨by omega, by omega, by omega, by omega⟩, ?_, fun _ _ _ _ _ => trivial, rfl, none, none, none, none, rfl⟩
    exact rangeD_nat2 k (X + 1)
  · rintro j a S' ρ' hj ⟨rfl, y, z, u, v, rfl⟩
    have hjn : j < X + 1 - k := by
      have := (List.getElem?_eq_some_iff.mp hj).1
      simpa using this
    have ea : a = j := by
      rw [List.getElem?_range hjn] at hj
      exact (Option.some.inj hj).symm
    subst ea
    have h1 : 1 ≤ k + a := by omega
    have hmX : k + a ≤ X := by omega
    have hl1 : 2 ^ (k + a).log2 ≤ k + a := Nat.log2_self_le (by omega)
    have hln : (k + a).log2 < st.n := (Nat.log2_lt (by omega)).mpr (by omega)
    unfold intD
    walk_at "akgo"
    refine ev_bits ?_
    walk_at "akgo"
    have e1 : ((Builtin.Int.intBits ((k + a : Nat) : Int) : Nat) : Int) - 1 = (((k + a).log2 : Nat) : Int) := by
      rw [bits_tab _ (by omega) h1]
      omega
    rw [e1]
    refine ev_meth ?_
    walk_at "akgo"
    (refine ev_fld ?_; walk_at "akgo"; refine ⟨_, _, _, _, OV.h (ep (k + a)), T.c_State, T.na_State_spans, (by with_unfolding_all rfl), ?_⟩)
    walk_at "akgo"
    refine rd_intC ⟨by omega, by omega, by decide⟩ ?_
    walk_at "akgo"
    have e2 : ((k + a : Nat) : Int) - 1 * 2 ^ (((k + a).log2 : Nat) : Int).toNat = ((k + a - 2 ^ (k + a).log2 : Nat) : Int) := by
      rw [Int.toNat_natCast, Int.natCast_sub hl1, Int.one_mul, Int.natCast_pow]
      rfl
    rw [e2]
    refine rd_ixL (.h (em _)) (atI_natD (memo_at (by have := Nat.two_pow_pos (k + a).log2; omega))) ?_
    refine ⟨⟨_, _, .o, by decide +kernel⟩, ?_⟩
    walk_at "akgo"
    refine ⟨_, _, rfl, RowsOf.o, fun q S2 hS2 => ?_⟩
    walk_at "akgo"
    refine q_forM intD (st.ms (k + a).log2) (fun i S3 ρ3 => SpanAt K (stM K S0 p st m t (k + a)) q (((st.ms (k + a).log2).take i).foldl addR (st.rows (k + a - 2 ^ (k + a).log2))) S3 ∧ ∃ v, ρ3 = [some (.ref p), some (.int X), some (.int ((k + a : Nat) : Int)), some (.int (((k + a).log2 : Nat) : Int)), some (.ref q), v]) (evI_list ?_) ?_ ?_
    · refine ev_meth ?_
      walk_at "akgo"
      have hf2 := (eF (k + a)).le hS2.le
      have hf3 := hf2
      obtain ⟨m', t', hx⟩ := hf2
      refine ⟨⟨_, _, hx, by decide +kernel⟩, ?_⟩
      walk_at "akgo"
      refine ⟨_, st, _, rfl, hf3, ok, hln, ?_⟩
      exact ⟨_, .o, rfl, fun _ _ _ _ _ => .o, hS2, v, rfl⟩
    · rintro i b S3 ρ3 hb ⟨hS3, v, rfl⟩
      obtain ⟨d, hd1, hd2⟩ := hS3.rows
      walk_at "akgo"
      refine ev_meth ?_
      walk_at "akgo"
      refine ⟨⟨_, _, hd1, by decide +kernel⟩, ?_⟩
      unfold intD
      walk_at "akgo"
      refine ⟨_, q, _, b, rfl, hS3, foldl_addR_sorted _ _ (rowsOf_sorted _ _), ?_, fun S' b' hS' => ?_⟩
      · have z1 := foldl_addR_len ((st.ms (k + a).log2).take i) (st.rows (k + a - 2 ^ (k + a).log2))
        have z2 : (st.rows (k + a - 2 ^ (k + a).log2)).length ≤ 200 := rowsOf_len _ _ ok.ms_len
        have z3 := ok.ms_len (k + a).log2
        rw [List.length_take] at z1
        omega
      · refine ⟨?_, _, rfl⟩
        rw [take_succ_at hb, List.foldl_append]
        exact hS'
    · rintro S3 ρ3 ⟨⟨r, hr1, hr2, hr3, rfl⟩, v, rfl⟩
      rw [List.take_length]
      have et : (st.ms (k + a).log2).foldl addR (st.rows (k + a - 2 ^ (k + a).log2)) = st.rows (k + a) := (rowsOf_top st.ms (k + a) h1 (by omega)).symm
      rw [et]
      refine q_frzC (a := r) (p := q) (l := (st.rows (k + a)).map intD) (fs' := [.lst ((st.rows (k + a)).map intD)]) (by rw [put_ne hr1]; exact put_same) put_same (Ne.symm hr1) rfl (fun i d hi => ?_) ?_
      · cases i with
        | zero =>
          cases hi
          exact .inr ⟨rfl, rfl⟩
        | succ i => cases hi
      refine q_frzO (i := 4) put_same rfl ?_
      have e : ((((((stM K S0 p st m t (k + a)).put r (.lst ((st.rows (k + a)).map intD))).put q (.ins (He.ga K "Span") RN [.ref r])).del r).put q (Cell.withE (.ins (He.ga K "Span") RN [.ref r]) [.lst ((st.rows (k + a)).map intD)])).del q) = stM K S0 p st m t (k + a) := by
        funext b
        by_cases b1 : b = q
        · rw [b1, del_same, hr3]
        · rw [del_ne b1, put_ne b1]
          by_cases b2 : b = r
          · rw [b2, del_same, hr2]
          · rw [del_ne b2, put_ne b1, put_ne b2]
      rw [e]
      walk_at "akgo"
      refine ev_bm ?_
      (refine ev_fld ?_; walk_at "akgo"; refine ⟨_, _, _, _, OV.h (ep (k + a)), T.c_State, T.na_State_spans, (by with_unfolding_all rfl), ?_⟩)
      refine ⟨⟨rfl, _, em _⟩, ?_⟩
      walk_at "akgo"
      refine rm_append (em _) ?_ ?_
      · unfold memoD
        rw [List.length_map, List.length_range]
        omega
      · show (stM K S0 p st m t (k + a)).put m (.lst (memoD K st (k + a) ++ [spD K (st.rows (k + a))])) = _ ∧ _
        exact ⟨eA _, _, _, _, _, rfl⟩
  · rintro S' ρ' ⟨rfl, y, z, u, v, rfl⟩
    rw [List.length_range]
    walk_at "akgo"
    (refine ev_fld ?_; walk_at "akgo"; refine ⟨_, _, _, _, OV.h (ep _), T.c_State, T.na_State_spans, (by with_unfolding_all rfl), ?_⟩)
    walk_at "akgo"
    exact rd_ixL (.h (em _)) (atI_natD (memo_at (by omega))) (hq _ (eK _ (by omega)))
end AK
set_option Elab.async false
set_option linter.all false
set_option maxRecDepth 100000
set_option maxHeartbeats 4000000
namespace AK
local macro_rules | `(tactic| walk_at "akgo") => `(tactic| (repeat (first | with_reducible refine q_seq ?_ | with_reducible refine q_asg ?_ | with_reducible refine q_drop ?_ | with_reducible refine q_ret ?_ | with_reducible refine q_next ?_ | with_reducible refine q_break ?_ | with_reducible refine ev_int ?_ | with_reducible refine ev_str ?_ | with_reducible refine ev_bl ?_ | with_reducible refine ev_non ?_ | with_reducible refine ev_ty ?_ | with_reducible refine ev_cls ?_ | with_reducible refine ev_op ?_ | with_reducible refine ev_un ?_ | with_reducible refine ev_cb ?_ | with_reducible refine evA_cons ?_ | with_reducible refine evA_nil ?_ | with_reducible refine rd_int ?_ | with_reducible refine rd_cmp ?_ | with_reducible refine r1_neg ?_ | with_reducible refine rd_eqI ?_ | with_reducible refine rd_neI ?_ | with_reducible refine rd_eqS ?_ | with_reducible refine rd_neS ?_ | with_reducible refine rd_neB ?_ | with_reducible refine rd_isN ?_ | with_reducible refine rd_notN ?_ | with_reducible refine rd_notB ?_ | with_reducible refine rd_inS ?_ | with_reducible refine rd_ninS ?_ | with_reducible refine evT_test ?_ | with_reducible refine evT_B ?_ | with_reducible refine evT_not ?_ | with_reducible refine evT_yes ?_ | with_reducible refine ev_notV ?_ | with_reducible refine rc_int ?_ | with_reducible refine rc_min2 ?_ | with_reducible refine rc_max2 ?_ | with_reducible refine rc_lenT ?_ | with_reducible refine q_asgG ?_ | with_reducible refine gds_nil ?_ | with_reducible refine gds_name ?_ | with_reducible refine ev_call ?_ | with_reducible refine gd_name ?_ | with_reducible refine ev_tup ?_ | with_reducible refine ev_var (by with_unfolding_all rfl) ?_ | with_reducible refine ⟨_, rfl, ?_⟩ | with_reducible refine gd_tup rfl ?_ | with_reducible refine rc_lenL LV.o ?_)))
open PySem PySem.Spec PyProof.Rows L2
variable {P : Program} {w : World} {K : PySem.W.Frag} {mg : Str → Option Value} {base : Heap}
theorem ev_stM {S : Sto} {ρ : Env} {ta : TE} {t : TA} {φ : Phi} {E : XK} {m : Str} {P : Sto → D → Prop} (hm : m ∉ SF) (h : Ev S ρ ta fun S1 x => (∃ st, StF K S1 x st) ∧ EvA S1 ρ t fun S2 xs => φ S2 (x :: xs) P) : Ev S ρ (tMeth (He.ga K "State") m (toSp φ) [] E ta t) P :=
  ev_meth (ev_mono h fun S' d ⟨⟨st, mm, tt, hx⟩, q⟩ => ⟨⟨_, _, hx, hm⟩, q⟩)
/-- a list in a cell, that the cell at p names, stands for good -/
theorem ev_frzC {S : Sto} {ρ : Env} {te : TE} {P : Sto → D → Prop} (h : Ev S ρ te fun S' d => ∃ (a p : Addr) (l : List D) (c : Cell) (fs' : List D), S' a = some (.lst l) ∧ S' p = some c ∧ p ≠ a ∧ fs'.length = c.ents.length ∧ (∀ (i : Nat) (d : D), fs'[i]? = some d → c.ents[i]? = some d ∨ (c.ents[i]? = some (.ref a) ∧ d = .lst l)) ∧ P ((S'.del a).put p (c.withE fs')) d) : Ev S ρ te P := fun F G H σ w s Q q => h F G H σ w s Q fun v d S' G' H' e w' ⟨a, p, l, c, fs', h0, hp, hap, hl, hf, hP⟩ r => by
  obtain ⟨o, ho, cr, g0, w2⟩ := w'.frz h0
  cases cr with
  | @lst _ xs rs =>
    have e2 := same_new (o := HO.lst xs) g0
    have hp2 : (S'.del a) p = some c := by
      rw [del_ne hap]
      exact hp
    obtain ⟨gp0, o20, ho20, cr20⟩ := w'.hid p c hp
    obtain ⟨gp, o2, ho2, cr2⟩ := w2.hid p _ hp2
    rw [ho20] at ho2
    cases ho2
    refine q _ _ _ _ _ (e.trans e2) ⟨w2.ext, fun b c' hb => ?_, fun b u hb => ?_⟩ hP (r.mono e2)
    · by_cases hbp : b = p
      · subst hbp
        rw [put_same] at hb
        cases hb
        refine ⟨gp, _, ho20, ?_⟩
        cases cr20 with
        | lst r => exact .lst (reps_frz g0 rs r hl hf)
        | ins en r => exact .ins en (reps_frz g0 rs r hl hf)
        | dk en r => exact .dk en (reps_frz g0 rs r hl hf)
      · rw [put_ne hbp] at hb
        exact w2.hid b c' hb
    · obtain ⟨q1, q2, q3⟩ := w2.frm b u hb
      have nb : b ≠ p := fun z => by
        rw [z, hp2] at q3
        cases q3
      exact ⟨q1, q2, by rw [put_ne nb]; exact q3⟩
theorem ev_frzSpan {S : Sto} {ρ : Env} {te : TE} {P : Sto → D → Prop} (h : Ev S ρ te fun S' d => ∃ q S0 rows, d = .ref q ∧ SpanAt K S0 q rows S' ∧ P S0 (spD K rows)) : Ev S ρ te P := by
  refine ev_frzO (ev_frzC (ev_mono h ?_))
  rintro S' d ⟨q, S0, rows, rfl, ⟨r, hr1, hr2, hr3, rfl⟩, hP⟩
  refine ⟨r, q, rows.map intD, _, [.lst (rows.map intD)], by rw [put_ne hr1]; exact put_same, put_same, Ne.symm hr1, rfl, fun i d hi => ?_, q, _, _, _, rfl, put_same, ?_⟩
  · cases i with
    | zero =>
      cases hi
      exact .inr ⟨rfl, rfl⟩
    | succ i => cases hi
  · have e : ((((((S0.put r (.lst (rows.map intD))).put q (.ins (He.ga K "Span") RN [.ref r])).del r).put q (Cell.withE (.ins (He.ga K "Span") RN [.ref r]) [.lst (rows.map intD)])).del q)) = S0 := by
      funext b
      by_cases b1 : b = q
      · rw [b1, del_same, hr3]
      · rw [del_ne b1, put_ne b1]
        by_cases b2 : b = r
        · rw [b2, del_same, hr2]
        · rw [del_ne b2, put_ne b1, put_ne b2]
    show P ((((((S0.put r (.lst (rows.map intD))).put q (.ins (He.ga K "Span") RN [.ref r])).del r).put q (Cell.withE (.ins (He.ga K "Span") RN [.ref r]) [.lst (rows.map intD)])).del q)) _
    rw [e]
    exact hP
/-! ### State(network) -/
def row0 (p : List Nat × Nat) : List (Nat × Nat) := (List.range p.1.length).map fun k => (p.2, k)
def st0 (N : Net) : St := ⟨N, N.nodes.zipIdx.map row0, List.range N.links.length⟩
theorem ABC_at : ∀ i < 6, L2.atI ABC6 ((i : Nat) : Int) = some (65 + i) := by decide +kernel
/-- a new state: nothing is counted yet -/
def StN (K : PySem.W.Frag) (S0 : Sto) (p : Addr) (st : St) (S : Sto) : Prop := ∃ m, m ≠ p ∧ S0 m = none ∧ S0 p = none ∧ S = (S0.put m (.lst [spD K []])).put p (.ins (He.ga K "State") SF (stL K st (.ref m) .non))
theorem StN.at_ {S0 S : Sto} {p : Addr} {st : St} (h : StN K S0 p st S) : StAt K S0 p st S := by
  obtain ⟨m, h1, h2, h3, rfl⟩ := h
  exact ⟨1, ⟨by omega, by omega⟩, m, .non, h1, h2, h3, .inl rfl, rfl⟩
def p_State_init (K : PySem.W.Frag) : Phi := fun S ds P => ∃ S0 p N, ds = [.ref p, netD K N] ∧ N.Ok ∧ S0 p = none ∧ S = S0.put p (.ins (He.ga K "State") [] []) ∧ ∀ S', StN K S0 p (st0 N) S' → P S' .non
theorem sx_State_init (T : Top K mg) (S : Sto) (ds : List D) (Q : Sto → D → Prop) (h : p_State_init K S ds Q) : Sx S (startD N_State_init.length ds) (t_State_init K (p_Span_init K)) { nx := fun S' _ => Q S' .non, rt := Q } := by
  obtain ⟨S0, p, N, rfl, ok, hp, rfl, hq⟩ := h
  have hn5 := ok.n5
  have hl16 := ok.l16
  unfold t_State_init
  rw [s_ABC]
  walk_at "akgo"
  refine q_fld ?_
  walk_at "akgo"
  refine ⟨_, _, _, _, rfl, put_same, T.c_State, T.na_State_network, by decide, ?_⟩
  rw [put_put]
  walk_at "akgo"
  refine q_fld ?_
  refine ev_lcA (own_name (by decide)) ((S0.put p (.ins (He.ga K "State") ["network"] [netD K N])) = ·) lkD N.links endD (by omega) (evI_tup ?_) ?_ ?_
  · (refine ev_fld ?_; walk_at "akgo"; refine ⟨_, _, _, _, OV.o, T.c_Network, T.na_Network_links, (by with_unfolding_all rfl), ?_⟩)
    unfold linksD
    walk_at "akgo"
    exact ⟨rfl, fun _ _ => trivial, rfl⟩
  · rintro l hl _ rfl
    obtain ⟨l1, l2, l3⟩ := ok.lks l hl
    unfold lkD
    walk_at "akgo"
    refine ev_bm ?_
    walk_at "akgo"
    refine ⟨rfl, ?_⟩
    walk_at "akgo"
    refine rd_ixS (c := 65 + l.1) (tx_small (by simp)) rfl ?_
    walk_at "akgo"
    refine rm_indexS (idx_ABC l.1 (by omega)) ?_
    walk_at "akgo"
    refine ev_bm ?_
    walk_at "akgo"
    refine ⟨rfl, ?_⟩
    walk_at "akgo"
    refine rd_ixS (c := 65 + l.2) (tx_small (by simp)) rfl ?_
    walk_at "akgo"
    refine rm_indexS (idx_ABC l.2 (by omega)) ?_
    walk_at "akgo"
    exact ⟨by simp, rfl, rfl⟩
  rintro _ rfl
  walk_at "akgo"
  refine ⟨_, _, _, _, rfl, put_same, T.c_State, T.na_State_links, by decide, ?_⟩
  rw [put_put]
  walk_at "akgo"
  refine q_fld ?_
  refine ev_lstH ?_
  walk_at "akgo"
  refine ⟨by simp, fun h hh => ?_⟩
  have hhp : h ≠ p := fun z => by rw [z, put_same] at hh; cases hh
  rw [put_ne hhp] at hh
  walk_at "akgo"
  refine ⟨p, _, _, _, rfl, by rw [put_ne (Ne.symm hhp)]; exact put_same, T.c_State, T.na_State_had, putN_lt1 (by simp), ?_⟩
  rw [put_comm (Ne.symm hhp), put_put]
  show Sx ((S0.put h (.lst [])).put p (.ins (He.ga K "State") ["network", "links", "had"] [netD K N, endsD N, .ref h])) _ _ _
  refine q_seq ?_
  refine q_forM (fun q : List Nat × Nat => D.tup [intD q.2, .tup (q.1.map msgD)]) N.nodes.zipIdx (fun k S' ρ' => S' = ((S0.put h (.lst (((N.nodes.zipIdx.take k).map row0).map rowD))).put p (.ins (He.ga K "State") ["network", "links", "had"] [netD K N, endsD N, .ref h])) ∧ ∃ a b c d, ρ' = [some (.ref p), some (netD K N), a, b, c, d]) (evI_enumT ?_) ?_ ?_
  · walk_at "akgo"
    (refine ev_fld ?_; walk_at "akgo"; refine ⟨_, _, _, _, OV.o, T.c_Network, T.na_Network_nodes, (by with_unfolding_all rfl), ?_⟩)
    unfold nodesD
    walk_at "akgo"
    exact ⟨enumD_map _ _, fun _ _ _ _ _ => trivial, rfl, none, none, none, none, rfl⟩
  · rintro k q S' ρ' hk ⟨rfl, a, b, c, d, rfl⟩
    obtain ⟨hq1, hq2, hq3⟩ := zipIdx_mem hk
    have h4 := ok.ms4 _ hq1
    have hk5 : q.2 < 5 := by
      have := (List.getElem?_eq_some_iff.mp hq2).1
      omega
    unfold intD
    walk_at "akgo"
    refine ev_bm ?_
    (refine ev_fld ?_; walk_at "akgo"; refine ⟨_, _, _, _, OV.h put_same, T.c_State, T.na_State_had, (by with_unfolding_all rfl), ?_⟩)
    refine ⟨⟨rfl, _, by rw [put_ne hhp]; exact put_same⟩, ?_⟩
    walk_at "akgo"
    refine ev_lcA (own_name (by decide)) (((S0.put h (.lst (((N.nodes.zipIdx.take k).map row0).map rowD))).put p (.ins (He.ga K "State") ["network", "links", "had"] [netD K N, endsD N, .ref h])) = ·) intD (List.range q.1.length) (fun i => prD (q.2, i)) (by rw [List.length_range]; omega) (evI_rng1 ?_) ?_ ?_
    · walk_at "akgo"
      rw [List.length_map]
      exact ⟨by omega, by omega, rangeD_nat _, fun _ _ => trivial, rfl⟩
    · rintro i hi _ rfl
      unfold intD
      walk_at "akgo"
      refine rd_ixS (c := 65 + q.2) (tx_small (by simp)) (ABC_at _ (by omega)) ?_
      walk_at "akgo"
      exact ⟨by simp, rfl, rfl⟩
    · rintro _ rfl
      walk_at "akgo"
      refine rm_append (by rw [put_ne hhp]; exact put_same) ?_ ?_
      · rw [List.length_map, List.length_map, List.length_take, List.length_zipIdx]
        omega
      · rw [put_comm (Ne.symm hhp), put_put]
        refine ⟨?_, _, _, _, _, rfl⟩
        rw [take_succ_at hk, List.map_append, List.map_append]
        have e : (List.map rowD (List.map row0 [q])) = [.lst ((List.range q.1.length).map fun i => prD (q.2, i))] := by
          show [rowD (row0 q)] = _
          unfold rowD row0
          rw [List.map_map]
          rfl
        rw [e]
  · rintro S' ρ' ⟨rfl, a, b, c, d, rfl⟩
    have e0 : N.nodes.zipIdx.take N.nodes.zipIdx.length = N.nodes.zipIdx := List.take_length
    rw [e0]
    refine q_frzC (a := h) (p := p) (l := ((N.nodes.zipIdx.map row0).map rowD)) (fs' := [netD K N, endsD N, hadD (st0 N).had]) (by rw [put_ne hhp]; exact put_same) put_same (Ne.symm hhp) rfl (fun i d hi => ?_) ?_
    · match i, hi with
      | 0, hi => exact .inl hi
      | 1, hi => exact .inl hi
      | 2, hi =>
        cases hi
        exact .inr ⟨rfl, rfl⟩
      | i + 3, hi => cases hi
    have e : ((((S0.put h (.lst ((N.nodes.zipIdx.map row0).map rowD))).put p (.ins (He.ga K "State") ["network", "links", "had"] [netD K N, endsD N, .ref h])).del h).put p (Cell.withE (.ins (He.ga K "State") ["network", "links", "had"] [netD K N, endsD N, .ref h]) [netD K N, endsD N, hadD (st0 N).had])) = S0.put p (.ins (He.ga K "State") ["network", "links", "had"] [netD K N, endsD N, hadD (st0 N).had]) := by
      funext b
      by_cases b1 : b = p
      · rw [b1, put_same, put_same]
        rfl
      · rw [put_ne b1, put_ne b1]
        by_cases b2 : b = h
        · rw [b2, del_same, hh]
        · rw [del_ne b2, put_ne b1, put_ne b2]
    rw [e]
    walk_at "akgo"
    refine q_fld ?_
    refine ev_listRg ?_
    walk_at "akgo"
    (refine ev_fld ?_; walk_at "akgo"; refine ⟨_, _, _, _, OV.o, T.c_Network, T.na_Network_links, (by with_unfolding_all rfl), ?_⟩)
    unfold linksD
    walk_at "akgo"
    rw [List.length_map]
    refine ⟨by omega, ?_⟩
    walk_at "akgo"
    refine ⟨_, _, _, _, rfl, put_same, T.c_State, T.na_State_unused, by decide, ?_⟩
    rw [put_put]
    show Sx (S0.put p (.ins (He.ga K "State") ["network", "links", "had", "unused"] [netD K N, endsD N, hadD (st0 N).had, unD (st0 N).unused])) _ _ _
    walk_at "akgo"
    refine q_fld ?_
    refine ev_lstH ?_
    refine evA_cons (ev_frzSpan (K := K) (ev_makeD ?_))
    walk_at "akgo"
    intro q hqn
    refine ⟨_, q, rfl, hqn, rfl, fun S1 hS => ⟨rfl, q, _, [], rfl, hS, ?_⟩⟩
    walk_at "akgo"
    refine ⟨by simp, fun m hm => ?_⟩
    have hmp : m ≠ p := fun z => by rw [z, put_same] at hm; cases hm
    rw [put_ne hmp] at hm
    walk_at "akgo"
    refine ⟨p, _, _, _, rfl, by rw [put_ne (Ne.symm hmp)]; exact put_same, T.c_State, T.na_State_spans, by decide, ?_⟩
    rw [put_comm (Ne.symm hmp), put_put]
    refine q_fld ?_
    walk_at "akgo"
    refine ⟨p, _, _, _, rfl, put_same, T.c_State, T.na_State_tight, putN_lt1 (by simp), ?_⟩
    rw [put_put]
    exact hq _ ⟨m, hmp, hm, hp, rfl⟩
end AK
set_option Elab.async false
set_option linter.all false
set_option maxRecDepth 100000
set_option maxHeartbeats 4000000
namespace AK
local macro_rules | `(tactic| walk_at "akgo") => `(tactic| (repeat (first | with_reducible refine q_seq ?_ | with_reducible refine q_asg ?_ | with_reducible refine q_drop ?_ | with_reducible refine q_ret ?_ | with_reducible refine q_next ?_ | with_reducible refine q_break ?_ | with_reducible refine ev_int ?_ | with_reducible refine ev_str ?_ | with_reducible refine ev_bl ?_ | with_reducible refine ev_non ?_ | with_reducible refine ev_ty ?_ | with_reducible refine ev_cls ?_ | with_reducible refine ev_op ?_ | with_reducible refine ev_un ?_ | with_reducible refine ev_cb ?_ | with_reducible refine evA_cons ?_ | with_reducible refine evA_nil ?_ | with_reducible refine rd_int ?_ | with_reducible refine rd_cmp ?_ | with_reducible refine r1_neg ?_ | with_reducible refine rd_eqI ?_ | with_reducible refine rd_neI ?_ | with_reducible refine rd_eqS ?_ | with_reducible refine rd_neS ?_ | with_reducible refine rd_neB ?_ | with_reducible refine rd_isN ?_ | with_reducible refine rd_notN ?_ | with_reducible refine rd_notB ?_ | with_reducible refine rd_inS ?_ | with_reducible refine rd_ninS ?_ | with_reducible refine evT_test ?_ | with_reducible refine evT_B ?_ | with_reducible refine evT_not ?_ | with_reducible refine evT_yes ?_ | with_reducible refine ev_notV ?_ | with_reducible refine rc_int ?_ | with_reducible refine rc_min2 ?_ | with_reducible refine rc_max2 ?_ | with_reducible refine rc_lenT ?_ | with_reducible refine q_asgG ?_ | with_reducible refine gds_nil ?_ | with_reducible refine gds_name ?_ | with_reducible refine ev_call ?_ | with_reducible refine gd_name ?_ | with_reducible refine ev_tup ?_ | with_reducible refine ev_var (by with_unfolding_all rfl) ?_ | with_reducible refine ⟨_, rfl, ?_⟩ | with_reducible refine gd_tup rfl ?_ | with_reducible refine rc_lenL LV.o ?_)))
open PySem PySem.Spec PyProof.Rows L2
variable {P : Program} {w : World} {K : PySem.W.Frag} {mg : Str → Option Value} {base : Heap}
theorem setsL_lt : ∀ n < 6, ∀ X ∈ setsL n, 1 ≤ X ∧ X < 2 ^ n := by decide +kernel
theorem setsL_len : ∀ n < 6, (setsL n).length ≤ 31 := by decide +kernel
theorem setsL_mem : ∀ n < 6, ∀ X < 2 ^ n, 1 ≤ X → X ∈ setsL n := by decide +kernel
theorem bit_and1 (X j : Nat) : (Builtin.bitAnd ((X : Int) / 2 ^ ((j : Nat) : Int).toNat) 1 != 0) = X.testBit j := by
  have e : ((X : Int) / 2 ^ ((j : Nat) : Int).toNat) = ((X / 2 ^ j : Nat) : Int) := by
    rw [Int.toNat_natCast, Int.natCast_ediv, Int.natCast_pow]
    rfl
  rw [e]
  have e2 : Builtin.bitAnd ((X / 2 ^ j : Nat) : Int) 1 = ((X / 2 ^ j : Nat) : Int) % 2 ^ 1 := Bits.bitAnd_mask (x := ((X / 2 ^ j : Nat) : Int)) 1 (Int.natCast_nonneg _)
  rw [e2, Nat.testBit_eq_decide_div_mod_eq]
  have e3 : ((X / 2 ^ j : Nat) : Int) % 2 ^ 1 = ((X / 2 ^ j % 2 : Nat) : Int) := by
    rw [Int.natCast_emod]
    rfl
  rw [e3]
  have h2 : X / 2 ^ j % 2 < 2 := Nat.mod_lt _ (by decide)
  match h : X / 2 ^ j % 2, h2 with
  | 0, _ => rfl
  | 1, _ => rfl
theorem tru_int {S : Sto} {i : Int} : TruD S (.int i) (i != 0) := .inr (.inr (.inl ⟨i, rfl, rfl⟩))
def p_State_rank (K : PySem.W.Frag) : Phi := fun S ds P => ∃ S0 p st, ∃ X : Nat, ds = [.ref p, .int X] ∧ StAt K S0 p st S ∧ st.Ok ∧ X < 2 ^ st.n ∧ ∀ S', StAt K S0 p st S' → P S' (intD (st.rk X))
theorem sx_State_rank (T : Top K mg) (S : Sto) (ds : List D) (Q : Sto → D → Prop) (h : p_State_rank K S ds Q) : Sx S (startD N_State_rank.length ds) (t_State_rank K (p_State_span K) (p_Span_rank K)) { nx := fun S' _ => Q S' .non, rt := Q } := by
  obtain ⟨S0, p, st, X, rfl, hS, ok, hX, hq⟩ := h
  unfold t_State_rank
  walk_at "akgo"
  refine ev_meth ?_
  (refine ev_stM (by decide +kernel) ?_; walk_at "akgo"; refine ⟨⟨_, hS.f⟩, ?_⟩; walk_at "akgo")
  refine ⟨S0, p, st, X, rfl, hS, ok, hX, fun S' hS' => ?_⟩
  refine ⟨⟨_, _, .o, by decide +kernel⟩, ?_⟩
  walk_at "akgo"
  exact ⟨_, _, rfl, RowsOf.o, hq _ hS'⟩
def p_State_demand (K : PySem.W.Frag) : Phi := fun S ds P => ∃ S0 p st, ∃ X : Nat, ds = [.ref p, .int X] ∧ StAt K S0 p st S ∧ st.Ok ∧ X < 2 ^ st.n ∧ ∀ S', StAt K S0 p st S' → P S' (.int (st.dem X))
theorem sx_State_demand (T : Top K mg) (S : Sto) (ds : List D) (Q : Sto → D → Prop) (h : p_State_demand K S ds Q) : Sx S (startD N_State_demand.length ds) (t_State_demand K (p_State_rank K)) { nx := fun S' _ => Q S' .non, rt := Q } := by
  obtain ⟨S0, p, st, X, rfl, hS, ok, hX, hq⟩ := h
  have hn5 : st.had.length ≤ 5 := ok.n5
  unfold t_State_demand
  walk_at "akgo"
  refine ev_stM (by decide +kernel) ?_
  walk_at "akgo"
  refine ⟨⟨_, hS.f⟩, ?_⟩
  obtain ⟨m, t, hx⟩ := hS.f
  walk_at "akgo"
  refine ev_fld ?_
  walk_at "akgo"
  refine ⟨_, _, _, _, hx, T.c_State, T.na_State_had, (by with_unfolding_all rfl), ?_⟩
  unfold hadD
  walk_at "akgo"
  rw [List.length_map]
  refine rd_intC ⟨by omega, by omega, by decide⟩ ?_
  walk_at "akgo"
  have e : (1 : Int) * 2 ^ ((st.had.length : Nat) : Int).toNat - 1 = ((2 ^ st.n - 1 : Nat) : Int) := by
    rw [Int.toNat_natCast, Int.one_mul, Int.natCast_sub (Nat.two_pow_pos _), Int.natCast_pow]
    rfl
  rw [e]
  refine ⟨S0, p, st, _, rfl, hS, ok, by have := Nat.two_pow_pos st.n; omega, fun S1 hS1 => ?_⟩
  (refine ev_stM (by decide +kernel) ?_; walk_at "akgo"; refine ⟨⟨_, hS1.f⟩, ?_⟩; walk_at "akgo")
  refine ⟨S0, p, st, X, rfl, hS1, ok, hX, fun S2 hS2 => ?_⟩
  exact rd_int (hq _ hS2)
def p_State_entering (K : PySem.W.Frag) : Phi := fun S ds P => ∃ x st, ∃ X : Nat, ds = [x, .int X] ∧ StF K S x st ∧ st.Ok ∧ P S (intsD (st.ent X))
theorem link_at {N : Net} {l : Nat} (h : l < N.links.length) : N.links[l]? = some (N.link l) := by
  unfold Net.link
  rw [List.getElem?_eq_getElem h]
  rfl
theorem St.Ok.un40 {st : St} (h : st.Ok) : st.unused.length ≤ 40 := by
  have h1 := h.n1
  unfold St.n at h1
  have := h.hr st.had[0] (List.getElem_mem (by omega))
  omega
theorem sx_State_entering (T : Top K mg) (S : Sto) (ds : List D) (Q : Sto → D → Prop) (h : p_State_entering K S ds Q) : Sx S (startD N_State_entering.length ds) (t_State_entering K) { nx := fun S' _ => Q S' .non, rt := Q } := by
  obtain ⟨x, st, X, rfl, ⟨m, t, hx⟩, ok, hq⟩ := h
  have h40 := ok.un40
  unfold t_State_entering
  walk_at "akgo"
  refine ev_lcM (own_name (by decide)) (S = ·) intD st.unused (fun l => inX X (st.net.link l)) intD (by omega) (evI_list ?_) ?_ ?_
  · refine ev_fld ?_
    walk_at "akgo"
    refine ⟨_, _, _, _, hx, T.c_State, T.na_State_unused, (by with_unfolding_all rfl), ?_⟩
    exact ⟨_, .o, rfl, fun _ _ => .o, rfl⟩
  · rintro l hl _ rfl
    have hll := link_at (ok.ul l hl)
    unfold intD
    walk_at "akgo"
    refine evT_and ?_
    refine evT_truth ?_
    walk_at "akgo"
    refine ev_fld ?_
    walk_at "akgo"
    refine ⟨_, _, _, _, hx, T.c_State, T.na_State_links, (by with_unfolding_all rfl), ?_⟩
    walk_at "akgo"
    refine rd_ixL .o (atI_natD (d := endD (st.net.link l)) (by rw [List.getElem?_map, hll]; rfl)) ?_
    walk_at "akgo"
    refine rd_ixT (d := intD (st.net.link l).2) rfl ?_
    unfold intD
    refine rd_intC (by omega) ?_
    walk_at "akgo"
    refine ⟨_, tru_int, ?_⟩
    rw [bit_and1]
    refine ⟨fun hc => ?_, fun hc => ?_⟩
    · walk_at "akgo"
      refine evT_truth ?_
      walk_at "akgo"
      refine ev_fld ?_
      walk_at "akgo"
      refine ⟨_, _, _, _, hx, T.c_State, T.na_State_links, (by with_unfolding_all rfl), ?_⟩
      walk_at "akgo"
      refine rd_ixL .o (atI_natD (d := endD (st.net.link l)) (by rw [List.getElem?_map, hll]; rfl)) ?_
      walk_at "akgo"
      refine rd_ixT (d := intD (st.net.link l).1) rfl ?_
      unfold intD
      refine rd_intC (by omega) ?_
      walk_at "akgo"
      refine ⟨_, tru_int, ?_⟩
      rw [bit_and1]
      refine ⟨?_, fun h => ?_, fun h => rfl⟩
      · unfold inX
        rw [hc, Bool.true_and]
      · walk_at "akgo"
        exact ⟨rfl, rfl⟩
    · refine ⟨?_, fun h => ?_, fun h => rfl⟩
      · unfold inX
        rw [hc, Bool.false_and]
      · unfold inX at h
        rw [hc, Bool.false_and] at h
        cases h
  · rintro _ rfl
    exact hq
def p_State_slack (K : PySem.W.Frag) : Phi := fun S ds P => ∃ S0 p st, ∃ X : Nat, ds = [.ref p, .int X] ∧ StAt K S0 p st S ∧ st.Ok ∧ X < 2 ^ st.n ∧ ∀ S', StAt K S0 p st S' → P S' (.int (st.slack X))
theorem sx_State_slack (T : Top K mg) (S : Sto) (ds : List D) (Q : Sto → D → Prop) (h : p_State_slack K S ds Q) : Sx S (startD N_State_slack.length ds) (t_State_slack K (p_State_entering K) (p_State_demand K)) { nx := fun S' _ => Q S' .non, rt := Q } := by
  obtain ⟨S0, p, st, X, rfl, hS, ok, hX, hq⟩ := h
  unfold t_State_slack
  walk_at "akgo"
  (refine ev_stM (by decide +kernel) ?_; walk_at "akgo"; refine ⟨⟨_, hS.f⟩, ?_⟩; walk_at "akgo")
  refine ⟨_, st, X, rfl, hS.f, ok, ?_⟩
  walk_at "akgo"
  (refine ev_stM (by decide +kernel) ?_; walk_at "akgo"; refine ⟨⟨_, hS.f⟩, ?_⟩; walk_at "akgo")
  refine ⟨S0, p, st, X, rfl, hS, ok, hX, fun S2 hS2 => ?_⟩
  rw [List.length_map]
  exact rd_int (hq _ hS2)
theorem St.Ok.lt {st : St} (ok : st.Ok) {X : Nat} (h : X ∈ setsL st.n) : 1 ≤ X ∧ X < 2 ^ st.n := setsL_lt st.n (by have := ok.n5; omega) X h
theorem St.Ok.sl {st : St} (ok : st.Ok) : (setsL st.n).length ≤ 31 := setsL_len st.n (by have := ok.n5; omega)
def p_State_deficient (K : PySem.W.Frag) : Phi := fun S ds P => ∃ S0 p st, ds = [.ref p] ∧ StAt K S0 p st S ∧ st.Ok ∧ ∀ S', StAt K S0 p st S' → P S' (intsD st.defL)
theorem sx_State_deficient (T : Top K mg) (S : Sto) (ds : List D) (Q : Sto → D → Prop) (h : p_State_deficient K S ds Q) : Sx S (startD N_State_deficient.length ds) (t_State_deficient K (p_State_sets K) (p_State_slack K)) { nx := fun S' _ => Q S' .non, rt := Q } := by
  obtain ⟨S0, p, st, rfl, hS, ok, hq⟩ := h
  have hsl := ok.sl
  unfold t_State_deficient
  walk_at "akgo"
  refine ev_lcM (own_name (by decide)) (StAt K S0 p st) intD (setsL st.n) (fun X => decide (st.slack X < 0)) intD (by omega) (evI_list ?_) ?_ ?_
  · (refine ev_stM (by decide +kernel) ?_; walk_at "akgo"; refine ⟨⟨_, hS.f⟩, ?_⟩; walk_at "akgo")
    exact ⟨_, st, rfl, hS.f, ok, _, .o, rfl, fun _ _ => .o, hS⟩
  · intro X hXm S1 hS1
    obtain ⟨hX1, hX2⟩ := ok.lt hXm
    unfold intD
    walk_at "akgo"
    (refine ev_stM (by decide +kernel) ?_; walk_at "akgo"; refine ⟨⟨_, hS1.f⟩, ?_⟩; walk_at "akgo")
    refine ⟨S0, p, st, X, rfl, hS1, ok, hX2, fun S2 hS2 => ?_⟩
    walk_at "akgo"
    refine ⟨rfl, fun hc => ?_, fun _ => hS2⟩
    walk_at "akgo"
    exact ⟨hS2, rfl⟩
  · intro S1 hS1
    exact hq _ hS1
def p_State_tight (K : PySem.W.Frag) : Phi := fun S ds P => ∃ S0 p st, ds = [.ref p] ∧ StAt K S0 p st S ∧ st.Ok ∧ ∀ S', StAt K S0 p st S' → P S' (intsD st.tightL)
theorem sx_State_tight (T : Top K mg) (S : Sto) (ds : List D) (Q : Sto → D → Prop) (h : p_State_tight K S ds Q) : Sx S (startD N_State_tight.length ds) (t_State_tight K (p_State_sets K) (p_State_slack K)) { nx := fun S' _ => Q S' .non, rt := Q } := by
  obtain ⟨S0, p, st, rfl, hS, ok, hq⟩ := h
  have hsl := ok.sl
  have hS0 := hS
  obtain ⟨k, hk, m, t, hmp, hm, hp, ht, rfl⟩ := hS
  unfold t_State_tight
  walk_at "akgo"
  rcases ht with rfl | rfl
  · refine q_ifT ?_
    walk_at "akgo"
    (refine ev_fld ?_; walk_at "akgo"; refine ⟨_, _, _, _, OV.h put_same, T.c_State, T.na_State_tight, (by with_unfolding_all rfl), ?_⟩)
    walk_at "akgo"
    refine ⟨rfl, ?_⟩
    refine q_fld ?_
    refine ev_lcM (own_name (by decide)) (StAt K S0 p st) intD (setsL st.n) (fun X => decide (st.slack X = 0)) intD (by omega) (evI_list ?_) ?_ ?_
    · (refine ev_stM (by decide +kernel) ?_; walk_at "akgo"; refine ⟨⟨_, hS0.f⟩, ?_⟩; walk_at "akgo")
      exact ⟨_, st, rfl, hS0.f, ok, _, .o, rfl, fun _ _ => .o, hS0⟩
    · intro X hXm S1 hS1
      obtain ⟨hX1, hX2⟩ := ok.lt hXm
      unfold intD
      walk_at "akgo"
      (refine ev_stM (by decide +kernel) ?_; walk_at "akgo"; refine ⟨⟨_, hS1.f⟩, ?_⟩; walk_at "akgo")
      refine ⟨S0, p, st, X, rfl, hS1, ok, hX2, fun S2 hS2 => ?_⟩
      walk_at "akgo"
      refine ⟨rfl, fun hc => ?_, fun _ => hS2⟩
      walk_at "akgo"
      exact ⟨hS2, rfl⟩
    · rintro S1 ⟨k1, hk1, m1, t1, hmp1, hm1, hp1, ht1, rfl⟩
      walk_at "akgo"
      refine ⟨_, _, _, _, rfl, put_same, T.c_State, T.na_State_tight, by decide, ?_⟩
      rw [put_put]
      walk_at "akgo"
      (refine ev_fld ?_; walk_at "akgo"; refine ⟨_, _, _, _, OV.h put_same, T.c_State, T.na_State_tight, (by with_unfolding_all rfl), ?_⟩)
      exact hq _ ⟨k1, hk1, m1, intsD st.tightL, hmp1, hm1, hp1, .inr rfl, rfl⟩
  · refine q_ifF ?_
    walk_at "akgo"
    (refine ev_fld ?_; walk_at "akgo"; refine ⟨_, _, _, _, OV.h put_same, T.c_State, T.na_State_tight, (by with_unfolding_all rfl), ?_⟩)
    walk_at "akgo"
    refine ⟨rfl, ?_⟩
    walk_at "akgo"
    (refine ev_fld ?_; walk_at "akgo"; refine ⟨_, _, _, _, OV.h put_same, T.c_State, T.na_State_tight, (by with_unfolding_all rfl), ?_⟩)
    exact hq _ hS0
def St.doneB (st : St) : Bool := (List.range st.n).all fun v => decide (st.dem (2 ^ v) = 0)
def p_State_is_done (K : PySem.W.Frag) : Phi := fun S ds P => ∃ S0 p st, ds = [.ref p] ∧ StAt K S0 p st S ∧ st.Ok ∧ ∀ S', StAt K S0 p st S' → P S' (.bl st.doneB)
theorem sx_State_is_done (T : Top K mg) (S : Sto) (ds : List D) (Q : Sto → D → Prop) (h : p_State_is_done K S ds Q) : Sx S (startD N_State_is_done.length ds) (t_State_is_done K (p_State_demand K)) { nx := fun S' _ => Q S' .non, rt := Q } := by
  obtain ⟨S0, p, st, rfl, hS, ok, hq⟩ := h
  have hn5 : st.had.length ≤ 5 := ok.n5
  unfold t_State_is_done
  walk_at "akgo"
  refine ev_lcA (own_name (by decide)) (StAt K S0 p st) intD (List.range st.n) (fun v => .bl (decide (st.dem (2 ^ v) = 0))) (by rw [List.length_range]; unfold St.n; omega) (evI_rng1 ?_) ?_ ?_
  · obtain ⟨m, t, hx⟩ := hS.f
    walk_at "akgo"
    refine ev_fld ?_
    walk_at "akgo"
    refine ⟨_, _, _, _, hx, T.c_State, T.na_State_had, (by with_unfolding_all rfl), ?_⟩
    unfold hadD
    walk_at "akgo"
    rw [List.length_map]
    exact ⟨by omega, by omega, rangeD_nat _, fun _ _ => trivial, hS⟩
  · intro v hv S1 hS1
    have hvn : v < st.n := List.mem_range.mp hv
    unfold intD
    walk_at "akgo"
    (refine ev_stM (by decide +kernel) ?_; walk_at "akgo"; refine ⟨⟨_, hS1.f⟩, ?_⟩; walk_at "akgo")
    refine rd_intC ⟨by omega, by unfold St.n at hvn; omega, by decide⟩ ?_
    walk_at "akgo"
    have e : (1 : Int) * 2 ^ ((v : Nat) : Int).toNat = ((2 ^ v : Nat) : Int) := by
      rw [Int.toNat_natCast, Int.one_mul, Int.natCast_pow]
      rfl
    rw [e]
    refine ⟨S0, p, st, _, rfl, hS1, ok, Nat.pow_lt_pow_right (by decide) hvn, fun S2 hS2 => ?_⟩
    walk_at "akgo"
    exact ⟨hS2, rfl⟩
  · intro S1 hS1
    walk_at "akgo"
    refine rc_all (bs := (List.range st.n).map fun v => decide (st.dem (2 ^ v) = 0)) (.inl (by simp only [List.map_map]; rfl)) ?_
    rw [all_mapG]
    exact hq _ hS1
end AK
set_option Elab.async false
set_option linter.all false
set_option maxRecDepth 100000
set_option maxHeartbeats 4000000
namespace AK
local macro_rules | `(tactic| walk_at "akgo") => `(tactic| (repeat (first | with_reducible refine q_seq ?_ | with_reducible refine q_asg ?_ | with_reducible refine q_drop ?_ | with_reducible refine q_ret ?_ | with_reducible refine q_next ?_ | with_reducible refine q_break ?_ | with_reducible refine ev_int ?_ | with_reducible refine ev_str ?_ | with_reducible refine ev_bl ?_ | with_reducible refine ev_non ?_ | with_reducible refine ev_ty ?_ | with_reducible refine ev_cls ?_ | with_reducible refine ev_op ?_ | with_reducible refine ev_un ?_ | with_reducible refine ev_cb ?_ | with_reducible refine evA_cons ?_ | with_reducible refine evA_nil ?_ | with_reducible refine rd_int ?_ | with_reducible refine rd_cmp ?_ | with_reducible refine r1_neg ?_ | with_reducible refine rd_eqI ?_ | with_reducible refine rd_neI ?_ | with_reducible refine rd_eqS ?_ | with_reducible refine rd_neS ?_ | with_reducible refine rd_neB ?_ | with_reducible refine rd_isN ?_ | with_reducible refine rd_notN ?_ | with_reducible refine rd_notB ?_ | with_reducible refine rd_inS ?_ | with_reducible refine rd_ninS ?_ | with_reducible refine evT_test ?_ | with_reducible refine evT_B ?_ | with_reducible refine evT_not ?_ | with_reducible refine evT_yes ?_ | with_reducible refine ev_notV ?_ | with_reducible refine rc_int ?_ | with_reducible refine rc_min2 ?_ | with_reducible refine rc_max2 ?_ | with_reducible refine rc_lenT ?_ | with_reducible refine q_asgG ?_ | with_reducible refine gds_nil ?_ | with_reducible refine gds_name ?_ | with_reducible refine ev_call ?_ | with_reducible refine gd_name ?_ | with_reducible refine ev_tup ?_ | with_reducible refine ev_var (by with_unfolding_all rfl) ?_ | with_reducible refine ⟨_, rfl, ?_⟩ | with_reducible refine gd_tup rfl ?_ | with_reducible refine rc_lenL LV.o ?_)))
open PySem PySem.Spec PyProof.Rows L2
variable {P : Program} {w : World} {K : PySem.W.Frag} {mg : Str → Option Value} {base : Heap}
theorem lv_ints {S : Sto} (l : List Nat) : LV S (.lst (l.map intD)) ((l.map fun n : Nat => (n : Int)).map D.int) := .inl (by rw [intD_map])
theorem mem_cast {l : List Nat} {a : Nat} : ((a : Int) ∈ l.map fun n : Nat => (n : Int)) ↔ a ∈ l := by
  rw [List.mem_map]
  refine ⟨fun ⟨b, h, e⟩ => ?_, fun h => ⟨a, h, rfl⟩⟩
  have z : b = a := by omega
  exact z ▸ h
def toP (q : Nat × Nat) : Str × Int := (up q.1, (q.2 : Nat))
theorem toP_map (r : List (Nat × Nat)) : r.map prD = (r.map toP).map pairD := by
  rw [List.map_map]
  rfl
theorem up_ok : ∀ i < 6, PyData.strOk (up i) = true := by decide +kernel
theorem St.Ok.link {st : St} (ok : st.Ok) {l : Nat} (h : l ∈ st.unused) : (st.net.link l).1 < st.n ∧ (st.net.link l).2 < st.n ∧ (st.net.link l).1 ≠ (st.net.link l).2 := by
  have h1 := link_at (ok.ul l h)
  have h2 := ok.net.lks _ (List.mem_of_getElem? h1)
  have h3 := ok.hl
  unfold St.n
  rw [h3]
  exact h2
def St.row (st : St) (i : Nat) : List (Nat × Nat) := st.had[i]?.getD []
theorem row_at {st : St} {i : Nat} (h : i < st.n) : st.had[i]? = some (st.row i) := by
  unfold St.row
  rw [List.getElem?_eq_getElem h]
  rfl
theorem row_mem {st : St} {i : Nat} (h : i < st.n) : st.row i ∈ st.had := List.mem_of_getElem? (row_at h)
theorem has_lt {N : Net} (ok : N.Ok) {q : Nat × Nat} (h : N.Has q) : q.1 < 5 := by
  obtain ⟨ms, h1, _⟩ := h
  have := (List.getElem?_eq_some_iff.mp h1).1
  have := ok.n5
  omega
theorem shl_nat (v : Nat) : (1 : Int) * 2 ^ ((v : Nat) : Int).toNat = ((2 ^ v : Nat) : Int) := by
  rw [Int.toNat_natCast, Int.one_mul, Int.natCast_pow]
  rfl
def p_State_why_not (K : PySem.W.Frag) : Phi := fun S ds P => ∃ S0 p st t, ds = [.ref p, trD t] ∧ StAt K S0 p st S ∧ st.Ok ∧ t.1 ∈ st.unused ∧ t.2 ∈ st.row (st.net.link t.1).1 ∧ left (st.rows (2 ^ (st.net.link t.1).2)) (st.net.msg t.2) ≠ 0 ∧ ∀ S', StAt K S0 p st S' → P S' .non
theorem sx_State_why_not (T : Top K mg) (S : Sto) (ds : List D) (Q : Sto → D → Prop) (h : p_State_why_not K S ds Q) : Sx S (startD N_State_why_not.length ds) (t_State_why_not K (p_State_span K) (p_State_message K) (p_Span_has K)) { nx := fun S' _ => Q S' .non, rt := Q } := by
  obtain ⟨S0, p, st, t, rfl, hS, ok, h1, h2, h3, hq⟩ := h
  obtain ⟨m, tt, hx⟩ := hS.f
  obtain ⟨k1, k2, k3⟩ := ok.link h1
  have hll := link_at (ok.ul _ h1)
  have hrow := row_at k1
  have hn5 := ok.n5
  have hhas := ok.hq _ (row_mem k1)
  unfold t_State_why_not trD
  walk_at "akgo"
  refine q_ifF ?_
  walk_at "akgo"
  refine ev_fld ?_
  walk_at "akgo"
  refine ⟨_, _, _, _, hx, T.c_State, T.na_State_unused, (by with_unfolding_all rfl), ?_⟩
  refine rd_ninI (lv_ints _) ?_
  walk_at "akgo"
  refine ⟨by rw [decide_eq_true (mem_cast.mpr h1)]; rfl, ?_⟩
  walk_at "akgo"
  refine ev_fld ?_
  walk_at "akgo"
  refine ⟨_, _, _, _, hx, T.c_State, T.na_State_links, (by with_unfolding_all rfl), ?_⟩
  walk_at "akgo"
  refine rd_ixL .o (atI_natD (d := endD (st.net.link t.1)) (by rw [List.getElem?_map, hll]; rfl)) ?_
  unfold endD intD
  walk_at "akgo"
  refine q_ifF ?_
  walk_at "akgo"
  refine ⟨by simp, ?_⟩
  walk_at "akgo"
  refine ev_fld ?_
  walk_at "akgo"
  refine ⟨_, _, _, _, hx, T.c_State, T.na_State_had, (by with_unfolding_all rfl), ?_⟩
  walk_at "akgo"
  refine rd_ixL .o (atI_natD (d := rowD (st.row (st.net.link t.1).1)) (by rw [List.getElem?_map, hrow]; rfl)) ?_
  unfold rowD
  rw [toP_map]
  refine rd_ninP (p := toP t.2) (up_ok _ (by have := has_lt ok.net (hhas _ h2); omega)) (fun z hz => ?_) ?_
  · obtain ⟨q, hq1, rfl⟩ := List.mem_map.mp hz
    exact up_ok _ (by have := has_lt ok.net (hhas _ hq1); omega)
  walk_at "akgo"
  refine ⟨by rw [decide_eq_true (List.mem_map.mpr ⟨_, h2, rfl⟩)]; rfl, ?_⟩
  walk_at "akgo"
  refine ev_ifF ?_
  walk_at "akgo"
  refine ev_meth ?_
  (refine ev_stM (by decide +kernel) ?_; walk_at "akgo"; refine ⟨⟨_, hS.f⟩, ?_⟩; walk_at "akgo")
  refine rd_intC ⟨by omega, by omega, by decide⟩ ?_
  walk_at "akgo"
  rw [shl_nat]
  refine ⟨S0, p, st, _, rfl, hS, ok, Nat.pow_lt_pow_right (by decide) k2, fun S1 hS1 => ?_⟩
  refine ⟨⟨_, _, .o, by decide +kernel⟩, ?_⟩
  walk_at "akgo"
  (refine ev_stM (by decide +kernel) ?_; walk_at "akgo"; refine ⟨⟨_, hS1.f⟩, ?_⟩; walk_at "akgo")
  refine ⟨_, st, t.2, rfl, hS1.f, ok.net, hhas _ h2, ?_⟩
  walk_at "akgo"
  refine ⟨_, _, _, rfl, RowsOf.o, ?_⟩
  walk_at "akgo"
  refine ⟨decide_eq_false h3, ?_⟩
  walk_at "akgo"
  exact hq _ hS1
/-! ### without, after -/
structure WoAt (K : PySem.W.Frag) (S : Sto) (p m r h : Addr) (st : St) (l j : Nat) (S' : Sto) : Prop where
  mp : m ≠ p
  rp : r ≠ p
  hp : h ≠ p
  rm : r ≠ m
  hm : h ≠ m
  hr : h ≠ r
  fp : S p = none
  fm : S m = none
  fr : S r = none
  fh : S h = none
  eq : S' = (((S.put m (.lst [spD K []])).put r (.lst ((st.row j).map prD))).put h (.lst ((st.had.map rowD).set j (.ref r)))).put p (.ins (He.ga K "State") SF [netD K st.net, endsD st.net, .ref h, unD (st.unused.filter fun x => decide (x ≠ l)), .ref m, .non])
def p_State_without (K : PySem.W.Frag) : Phi := fun S ds P => ∃ x st l j, ds = [x, .lst [intD l]] ∧ StF K S x st ∧ st.Ok ∧ j < st.n ∧ ∀ p m r h S', WoAt K S p m r h st l j S' → P S' (.ref p)
theorem sx_State_without (T : Top K mg) (S : Sto) (ds : List D) (Q : Sto → D → Prop) (h : p_State_without K S ds Q) : Sx S (startD N_State_without.length ds) (t_State_without K (p_State_init K)) { nx := fun S' _ => Q S' .non, rt := Q } := by
  obtain ⟨x, st, l, j, rfl, hf, ok, hj, hq⟩ := h
  have hn5 : st.had.length ≤ 5 := ok.n5
  have h40 := ok.un40
  have hrowj := row_at hj
  have hj' : j < st.had.length := hj
  have hjl : (st.row j).length ≤ 40 := by
    have := ok.hr _ (row_mem hj)
    omega
  unfold t_State_without
  walk_at "akgo"
  refine ev_make ?_
  walk_at "akgo"
  obtain ⟨m0, t0, hx⟩ := hf
  refine ev_fld ?_
  walk_at "akgo"
  refine ⟨_, _, _, _, hx, T.c_State, T.na_State_network, (by with_unfolding_all rfl), ?_⟩
  walk_at "akgo"
  intro p hp
  refine ⟨S, p, st.net, rfl, ok.net, hp, rfl, ?_⟩
  rintro S1 ⟨m, hmp, hm, _, rfl⟩
  refine ⟨rfl, ?_⟩
  have le1 : SLe S ((S.put m (.lst [spD K []])).put p (.ins (He.ga K "State") SF (stL K (st0 st.net) (.ref m) .non))) := (SLe.put hm).trans (SLe.put (by rw [put_ne (Ne.symm hmp)]; exact hp))
  walk_at "akgo"
  refine q_fld ?_
  refine ev_lcH (own_name (by decide)) (evI_list ?_)
  refine ev_fld ?_
  walk_at "akgo"
  refine ⟨_, _, _, _, hx.le le1, T.c_State, T.na_State_had, (by with_unfolding_all rfl), ?_⟩
  refine ⟨_, .o, comp_name (by rw [List.length_map]; omega) (fun i S' acc => (i ≤ j ∧ S' = ((S.put m (.lst [spD K []])).put p (.ins (He.ga K "State") SF (stL K (st0 st.net) (.ref m) .non))) ∧ acc = (st.had.map rowD).take i) ∨ (j < i ∧ ∃ r, r ≠ p ∧ r ≠ m ∧ S r = none ∧ S' = ((S.put m (.lst [spD K []])).put p (.ins (He.ga K "State") SF (stL K (st0 st.net) (.ref m) .non))).put r (.lst ((st.row j).map prD)) ∧ acc = ((st.had.map rowD).set j (.ref r)).take i)) (.inl ⟨by omega, rfl, rfl⟩) (fun _ _ _ _ _ => .o) ?_ ?_⟩
  · intro i d S' acc hi hI _
    rw [List.getElem?_map] at hi
    cases hrow : st.had[i]? with
    | none =>
      rw [hrow] at hi
      cases hi
    | some row =>
      rw [hrow] at hi
      cases hi
      have hid : (st.had.map rowD)[i]? = some (rowD row) := by
        rw [List.getElem?_map, hrow]
        rfl
      refine evT_yes ⟨fun _ => ?_, fun h => Bool.noConfusion h⟩
      walk_at "akgo"
      rcases hI with ⟨hij, rfl, rfl⟩ | ⟨hij, r, hrp, hrm, hr, rfl, rfl⟩
      · by_cases e : i = j
        · subst e
          rw [hrowj] at hrow
          cases hrow
          refine rc_listH (l := (st.row i).map prD) (.inl .o) fun r hr => .inr ⟨by omega, r, ?_⟩
          have rp : r ≠ p := fun z => by rw [z, put_same] at hr; cases hr
          rw [put_ne rp] at hr
          have rm : r ≠ m := fun z => by rw [z, put_same] at hr; cases hr
          rw [put_ne rm] at hr
          refine ⟨rp, rm, hr, rfl, ?_⟩
          have hset : ((st.had.map rowD).set i (.ref r))[i]? = some (.ref r) := List.getElem?_set_self (by rw [List.length_map]; exact hj')
          rw [take_succ_at hset, List.take_set_of_le (Nat.le_refl _)]
        · refine rc_list (l := row.map prD) (.inl .o) (.inl ⟨by omega, rfl, ?_⟩)
          exact (take_succ_at hid).symm
      · refine rc_list (l := row.map prD) (.inl .o) (.inr ⟨by omega, r, hrp, hrm, hr, rfl, ?_⟩)
        have hset : ((st.had.map rowD).set j (.ref r))[i]? = some (rowD row) := by
          rw [List.getElem?_set_ne (by omega)]
          exact hid
        exact (take_succ_at hset).symm
  · intro S' acc _ hI h hh
    rw [List.length_map] at hI
    rcases hI with ⟨hij, _, _⟩ | ⟨_, r, hrp, hrm, hr, rfl, rfl⟩
    · omega
    have hhr : h ≠ r := fun z => by rw [z, put_same] at hh; cases hh
    rw [put_ne hhr] at hh
    have hhp : h ≠ p := fun z => by rw [z, put_same] at hh; cases hh
    rw [put_ne hhp] at hh
    have hhm : h ≠ m := fun z => by rw [z, put_same] at hh; cases hh
    rw [put_ne hhm] at hh
    walk_at "akgo"
    refine ⟨p, _, _, _, rfl, by rw [put_ne (Ne.symm hhp), put_ne (Ne.symm hrp)]; exact put_same, T.c_State, T.na_State_had, by decide, ?_⟩
    have le2 : SLe S ((((((S.put m (.lst [spD K []])).put p (.ins (He.ga K "State") SF (stL K (st0 st.net) (.ref m) .non))).put r (.lst ((st.row j).map prD))).put h (.lst (((st.had.map rowD).set j (.ref r)).take st.had.length))).put p (.ins (He.ga K "State") SF [netD K st.net, endsD st.net, .ref h, unD (st0 st.net).unused, .ref m, .non]))) := by
      intro b c hb
      have b1 : b ≠ p := fun z => by rw [z, hp] at hb; cases hb
      have b2 : b ≠ h := fun z => by rw [z, hh] at hb; cases hb
      have b3 : b ≠ r := fun z => by rw [z, hr] at hb; cases hb
      have b4 : b ≠ m := fun z => by rw [z, hm] at hb; cases hb
      rw [put_ne b1, put_ne b2, put_ne b3, put_ne b1, put_ne b4]
      exact hb
    walk_at "akgo"
    refine q_fld ?_
    refine ev_lcM (own_name (by decide)) (((((((S.put m (.lst [spD K []])).put p (.ins (He.ga K "State") SF (stL K (st0 st.net) (.ref m) .non))).put r (.lst ((st.row j).map prD))).put h (.lst (((st.had.map rowD).set j (.ref r)).take st.had.length))).put p (.ins (He.ga K "State") SF [netD K st.net, endsD st.net, .ref h, unD (st0 st.net).unused, .ref m, .non]))) = ·) intD st.unused (fun y => decide (y ≠ l)) intD (by omega) (evI_list ?_) ?_ ?_
    · refine ev_fld ?_
      walk_at "akgo"
      refine ⟨_, _, _, _, hx.le le2, T.c_State, T.na_State_unused, (by with_unfolding_all rfl), ?_⟩
      exact ⟨_, .o, rfl, fun _ _ => .o, rfl⟩
    · rintro y hy _ rfl
      unfold intD
      walk_at "akgo"
      refine rd_ninI (ns := [(l : Int)]) (.inl rfl) ?_
      walk_at "akgo"
      refine ⟨?_, fun hc => ?_, fun _ => rfl⟩
      · rw [← decide_not]
        exact decide_eq_decide.mpr (by simp; omega)
      · walk_at "akgo"
        exact ⟨rfl, rfl⟩
    · rintro _ rfl
      walk_at "akgo"
      refine ⟨p, _, _, _, rfl, put_same, T.c_State, T.na_State_unused, by decide, ?_⟩
      walk_at "akgo"
      refine hq p m r h _ ⟨hmp, hrp, hhp, hrm, hhm, hhr, hp, hm, hr, hh, ?_⟩
      have et : ((st.had.map rowD).set j (.ref r)).take st.had.length = (st.had.map rowD).set j (.ref r) := List.take_of_length_le (by rw [List.length_set, List.length_map]; exact Nat.le_refl _)
      rw [et]
      funext b
      by_cases b1 : b = p
      · rw [b1, put_same, put_same]
        rfl
      · rw [put_ne b1, put_ne b1, put_ne b1]
        by_cases b2 : b = h
        · rw [b2, put_same, put_same]
        · rw [put_ne b2, put_ne b2]
          by_cases b3 : b = r
          · rw [b3, put_same, put_same]
          · rw [put_ne b3, put_ne b3, put_ne b1]
end AK
set_option Elab.async false
set_option linter.all false
set_option maxRecDepth 100000
set_option maxHeartbeats 4000000
namespace AK
local macro_rules | `(tactic| walk_at "akgo") => `(tactic| (repeat (first | with_reducible refine q_seq ?_ | with_reducible refine q_asg ?_ | with_reducible refine q_drop ?_ | with_reducible refine q_ret ?_ | with_reducible refine q_next ?_ | with_reducible refine q_break ?_ | with_reducible refine ev_int ?_ | with_reducible refine ev_str ?_ | with_reducible refine ev_bl ?_ | with_reducible refine ev_non ?_ | with_reducible refine ev_ty ?_ | with_reducible refine ev_cls ?_ | with_reducible refine ev_op ?_ | with_reducible refine ev_un ?_ | with_reducible refine ev_cb ?_ | with_reducible refine evA_cons ?_ | with_reducible refine evA_nil ?_ | with_reducible refine rd_int ?_ | with_reducible refine rd_cmp ?_ | with_reducible refine r1_neg ?_ | with_reducible refine rd_eqI ?_ | with_reducible refine rd_neI ?_ | with_reducible refine rd_eqS ?_ | with_reducible refine rd_neS ?_ | with_reducible refine rd_neB ?_ | with_reducible refine rd_isN ?_ | with_reducible refine rd_notN ?_ | with_reducible refine rd_notB ?_ | with_reducible refine rd_inS ?_ | with_reducible refine rd_ninS ?_ | with_reducible refine evT_test ?_ | with_reducible refine evT_B ?_ | with_reducible refine evT_not ?_ | with_reducible refine evT_yes ?_ | with_reducible refine ev_notV ?_ | with_reducible refine rc_int ?_ | with_reducible refine rc_min2 ?_ | with_reducible refine rc_max2 ?_ | with_reducible refine rc_lenT ?_ | with_reducible refine q_asgG ?_ | with_reducible refine gds_nil ?_ | with_reducible refine gds_name ?_ | with_reducible refine ev_call ?_ | with_reducible refine gd_name ?_ | with_reducible refine ev_tup ?_ | with_reducible refine ev_var (by with_unfolding_all rfl) ?_ | with_reducible refine ⟨_, rfl, ?_⟩ | with_reducible refine gd_tup rfl ?_ | with_reducible refine rc_lenL LV.o ?_)))
open PySem PySem.Spec PyProof.Rows L2
variable {P : Program} {w : World} {K : PySem.W.Frag} {mg : Str → Option Value} {base : Heap}
abbrev Tr : Type := Nat × Nat × Nat
/-- the state behind a transmission -/
def St.after (st : St) (t : Tr) : St := ⟨st.net, st.had.set (st.net.link t.1).2 (st.row (st.net.link t.1).2 ++ [t.2]), st.unused.filter fun x => decide (x ≠ t.1)⟩
def p_State_after (K : PySem.W.Frag) : Phi := fun S ds P => ∃ x st, ∃ t : Tr, ds = [x, trD t] ∧ StF K S x st ∧ st.Ok ∧ t.1 ∈ st.unused ∧ ∀ p S', StN K S p (st.after t) S' → P S' (.ref p)
theorem sx_State_after (T : Top K mg) (S : Sto) (ds : List D) (Q : Sto → D → Prop) (h : p_State_after K S ds Q) : Sx S (startD N_State_after.length ds) (t_State_after K (p_State_without K)) { nx := fun S' _ => Q S' .non, rt := Q } := by
  obtain ⟨x, st, t, rfl, hf, ok, ht, hq⟩ := h
  obtain ⟨k1, k2, k3⟩ := ok.link ht
  have hll := link_at (ok.ul _ ht)
  have hrow := row_at k2
  have hrl : (st.row (st.net.link t.1).2).length ≤ 40 := by
    have := ok.hr _ (row_mem k2)
    omega
  obtain ⟨m0, t0, hx⟩ := hf
  unfold t_State_after trD
  walk_at "akgo"
  refine ev_meth ?_
  walk_at "akgo"
  refine ⟨⟨_, _, hx, by decide +kernel⟩, ?_⟩
  refine evA_cons (ev_lst ?_)
  walk_at "akgo"
  refine ⟨by simp, ?_⟩
  walk_at "akgo"
  refine ⟨x, st, t.1, (st.net.link t.1).2, rfl, ⟨_, _, hx⟩, ok, k2, fun p m r h S1 w => ?_⟩
  obtain ⟨mp, rp, hp, rm, hm, hr, fp, fm, fr, fh, rfl⟩ := w
  have leS : SLe S ((((S.put m (.lst [spD K []])).put r (.lst ((st.row (st.net.link t.1).2).map prD))).put h (.lst ((st.had.map rowD).set (st.net.link t.1).2 (.ref r)))).put p (.ins (He.ga K "State") SF [netD K st.net, endsD st.net, .ref h, unD (st.unused.filter fun x => decide (x ≠ t.1)), .ref m, .non])) := by
    intro b c hb
    have b1 : b ≠ p := fun z => by rw [z, fp] at hb; cases hb
    have b2 : b ≠ h := fun z => by rw [z, fh] at hb; cases hb
    have b3 : b ≠ r := fun z => by rw [z, fr] at hb; cases hb
    have b4 : b ≠ m := fun z => by rw [z, fm] at hb; cases hb
    rw [put_ne b1, put_ne b2, put_ne b3, put_ne b4]
    exact hb
  walk_at "akgo"
  refine ev_bm ?_
  walk_at "akgo"
  (refine ev_fld ?_; walk_at "akgo"; refine ⟨_, _, _, _, OV.h put_same, T.c_State, T.na_State_had, (by with_unfolding_all rfl), ?_⟩)
  walk_at "akgo"
  refine ev_fld ?_
  walk_at "akgo"
  refine ⟨_, _, _, _, hx.le leS, T.c_State, T.na_State_links, (by with_unfolding_all rfl), ?_⟩
  walk_at "akgo"
  refine rd_ixL .o (atI_natD (d := endD (st.net.link t.1)) (by rw [List.getElem?_map, hll]; rfl)) ?_
  walk_at "akgo"
  refine rd_ixT (d := intD (st.net.link t.1).2) rfl ?_
  refine rd_ixL (.h (by rw [put_ne hp]; exact put_same)) (atI_natD (d := .ref r) (List.getElem?_set_self (by rw [List.length_map]; exact k2))) ?_
  refine ⟨⟨rfl, _, by rw [put_ne rp, put_ne (Ne.symm hr)]; exact put_same⟩, ?_⟩
  walk_at "akgo"
  refine ⟨by simp, ?_⟩
  walk_at "akgo"
  refine rm_append (l := (st.row (st.net.link t.1).2).map prD) (by rw [put_ne rp, put_ne (Ne.symm hr)]; exact put_same) (by rw [List.length_map]; omega) ?_
  refine q_frzC (a := r) (p := h) (l := (st.row (st.net.link t.1).2 ++ [t.2]).map prD) (c := .lst ((st.had.map rowD).set (st.net.link t.1).2 (.ref r))) (fs' := (st.after t).had.map rowD) ?_ ?_ hr ?_ (fun i d hi => ?_) ?_
  · rw [put_same, List.map_append]
    rfl
  · rw [put_ne hr, put_ne hp, put_same]
  · show (List.map rowD (st.after t).had).length = ((st.had.map rowD).set (st.net.link t.1).2 (.ref r)).length
    rw [List.length_map, List.length_set, List.length_map]
    exact List.length_set
  · show ((st.had.map rowD).set (st.net.link t.1).2 (.ref r))[i]? = some d ∨ (((st.had.map rowD).set (st.net.link t.1).2 (.ref r))[i]? = some (.ref r) ∧ _)
    by_cases e : (st.net.link t.1).2 = i
    · subst e
      right
      refine ⟨List.getElem?_set_self (by rw [List.length_map]; exact k2), ?_⟩
      rw [List.getElem?_map] at hi
      have e2 : (st.after t).had[(st.net.link t.1).2]? = some (st.row (st.net.link t.1).2 ++ [t.2]) := List.getElem?_set_self k2
      rw [e2] at hi
      cases hi
      rfl
    · left
      rw [List.getElem?_set_ne e, List.getElem?_map]
      rw [List.getElem?_map] at hi
      have e2 : (st.after t).had[i]? = st.had[i]? := List.getElem?_set_ne e
      rw [e2] at hi
      exact hi
  refine q_frzC (a := h) (p := p) (l := (st.after t).had.map rowD) (c := .ins (He.ga K "State") SF [netD K st.net, endsD st.net, .ref h, unD (st.unused.filter fun x => decide (x ≠ t.1)), .ref m, .non]) (fs' := [netD K st.net, endsD st.net, hadD (st.after t).had, unD (st.unused.filter fun x => decide (x ≠ t.1)), .ref m, .non]) ?_ ?_ (Ne.symm hp) rfl (fun i d hi => ?_) ?_
  · exact put_same
  · rw [put_ne (Ne.symm hp), del_ne (Ne.symm rp), put_ne (Ne.symm rp), put_same]
  · match i, hi with
    | 0, hi => exact .inl hi
    | 1, hi => exact .inl hi
    | 2, hi =>
      cases hi
      exact .inr ⟨rfl, rfl⟩
    | 3, hi => exact .inl hi
    | 4, hi => exact .inl hi
    | 5, hi => exact .inl hi
    | i + 6, hi => cases hi
  walk_at "akgo"
  refine hq p _ ⟨m, mp, fm, fp, ?_⟩
  funext b
  by_cases b1 : b = p
  · rw [b1, put_same, put_same]
    rfl
  · rw [put_ne b1, put_ne b1]
    by_cases b2 : b = h
    · rw [b2, del_same, put_ne hm, fh]
    · rw [del_ne b2, put_ne b2]
      by_cases b3 : b = r
      · rw [b3, del_same, put_ne rm, fr]
      · rw [del_ne b3, put_ne b3, put_ne b1, put_ne b2, put_ne b3]
/-! ### largest_without, carried, following -/
def lwF (a b : Nat) (f X : Nat) : Nat := if X.testBit a && !X.testBit b then f ||| X else f
def St.lw (st : St) (a b : Nat) : Nat := st.tightL.foldl (lwF a b) 0
theorem St.Ok.tl {st : St} (ok : st.Ok) {X : Nat} (h : X ∈ st.tightL) : 1 ≤ X ∧ X < 2 ^ st.n := ok.lt (List.mem_filter.mp h).1
theorem St.Ok.tlen {st : St} (ok : st.Ok) : st.tightL.length ≤ 31 := Nat.le_trans (List.length_filter_le ..) ok.sl
theorem lw_lt {st : St} (ok : st.Ok) (a b : Nat) : st.lw a b < 2 ^ st.n := by
  unfold St.lw
  have all : ∀ (l : List Nat), (∀ X ∈ l, X < 2 ^ st.n) → ∀ f, f < 2 ^ st.n → l.foldl (lwF a b) f < 2 ^ st.n := by
    intro l
    induction l with
    | nil => exact fun _ f h => h
    | cons X l ih =>
      intro h f hf
      refine ih (fun Y hY => h Y (List.mem_cons_of_mem _ hY)) _ ?_
      unfold lwF
      split
      · exact Nat.or_lt_two_pow hf (h X List.mem_cons_self)
      · exact hf
  exact all _ (fun X hX => (ok.tl hX).2) _ (Nat.two_pow_pos _)
def p_State_largest_without (K : PySem.W.Frag) : Phi := fun S ds P => ∃ S0 p st, ∃ a b : Nat, ds = [.ref p, .int a, .int b] ∧ StAt K S0 p st S ∧ st.Ok ∧ ∀ S', StAt K S0 p st S' → P S' (intD (st.lw a b))
theorem sx_State_largest_without (T : Top K mg) (S : Sto) (ds : List D) (Q : Sto → D → Prop) (h : p_State_largest_without K S ds Q) : Sx S (startD N_State_largest_without.length ds) (t_State_largest_without K (p_State_tight K)) { nx := fun S' _ => Q S' .non, rt := Q } := by
  obtain ⟨S0, p, st, a, b, rfl, hS, ok, hq⟩ := h
  unfold t_State_largest_without
  walk_at "akgo"
  refine q_forM intD st.tightL (fun i S' ρ' => StAt K S0 p st S' ∧ ∃ y, ρ' = [some (.ref p), some (.int a), some (.int b), some (intD ((st.tightL.take i).foldl (lwF a b) 0)), y]) (evI_list ?_) ?_ ?_
  · (refine ev_stM (by decide +kernel) ?_; walk_at "akgo"; refine ⟨⟨_, hS.f⟩, ?_⟩; walk_at "akgo")
    exact ⟨S0, p, st, rfl, hS, ok, fun S1 hS1 => ⟨_, .o, rfl, fun _ _ _ _ _ => .o, hS1, none, rfl⟩⟩
  · rintro i X S' ρ' hi ⟨hS1, y, rfl⟩
    have e : (st.tightL.take (i + 1)).foldl (lwF a b) 0 = lwF a b ((st.tightL.take i).foldl (lwF a b) 0) X := by
      rw [take_succ_at hi, List.foldl_append]
      rfl
    have keep : lwF a b ((st.tightL.take i).foldl (lwF a b) 0) X = (if X.testBit a && !X.testBit b then ((st.tightL.take i).foldl (lwF a b) 0) ||| X else ((st.tightL.take i).foldl (lwF a b) 0)) := rfl
    unfold intD
    walk_at "akgo"
    refine q_if ?_
    refine evT_and ?_
    refine evT_truth ?_
    walk_at "akgo"
    refine rd_intC (by omega) ?_
    walk_at "akgo"
    refine ⟨_, tru_int, ?_⟩
    rw [bit_and1]
    refine ⟨fun hc => ?_, fun hc => ⟨fun h => Bool.noConfusion h, fun _ => ?_⟩⟩
    · walk_at "akgo"
      refine evT_truth ?_
      walk_at "akgo"
      refine rd_intC (by omega) ?_
      walk_at "akgo"
      refine ⟨_, tru_int, ?_⟩
      rw [bit_and1]
      refine ⟨fun hc2 => ?_, fun hc2 => ?_⟩
      · walk_at "akgo"
        refine ⟨hS1, some (intD X), ?_⟩
        rw [e, keep, hc, hc2, Bits.bitOr_pp (by omega) (by omega), Int.toNat_natCast, Int.toNat_natCast]
        rfl
      · walk_at "akgo"
        refine ⟨hS1, some (intD X), ?_⟩
        rw [e, keep, hc, hc2]
        rfl
    · walk_at "akgo"
      refine ⟨hS1, some (intD X), ?_⟩
      rw [e, keep, hc]
      rfl
  · rintro S' ρ' ⟨hS1, y, rfl⟩
    walk_at "akgo"
    rw [List.take_length]
    exact hq _ hS1
/-- what a link can carry -/
def St.okQ (st : St) (l : Nat) (q : Nat × Nat) : Bool := decide (left (st.rows (st.lw (st.net.link l).2 (st.net.link l).1 ||| 2 ^ (st.net.link l).2)) (st.net.msg q) ≠ 0)
def p_State_carried (K : PySem.W.Frag) : Phi := fun S ds P => ∃ S0 p st, ∃ l : Nat, ds = [.ref p, .int l] ∧ StAt K S0 p st S ∧ st.Ok ∧ l ∈ st.unused ∧ ∀ (S' : Sto) (hs : List (Nat × Nat)), StAt K S0 p st S' → hs.Perm (st.row (st.net.link l).1) → P S' (.lst ((hs.filter (st.okQ l)).map prD))
theorem sx_State_carried (T : Top K mg) (S : Sto) (ds : List D) (Q : Sto → D → Prop) (h : p_State_carried K S ds Q) : Sx S (startD N_State_carried.length ds) (t_State_carried K (p_State_largest_without K) (p_State_span K) (p_State_message K) (p_Span_has K)) { nx := fun S' _ => Q S' .non, rt := Q } := by
  obtain ⟨S0, p, st, l, rfl, hS, ok, hl, hq⟩ := h
  obtain ⟨k1, k2, k3⟩ := ok.link hl
  have hll := link_at (ok.ul _ hl)
  have hrow := row_at k1
  have hn5 := ok.n5
  have hhas := ok.hq _ (row_mem k1)
  have hrl : (st.row (st.net.link l).1).length ≤ 40 := by
    have := ok.hr _ (row_mem k1)
    omega
  obtain ⟨m, t, hx⟩ := hS.f
  unfold t_State_carried
  walk_at "akgo"
  refine ev_fld ?_
  walk_at "akgo"
  refine ⟨_, _, _, _, hx, T.c_State, T.na_State_links, (by with_unfolding_all rfl), ?_⟩
  walk_at "akgo"
  refine rd_ixL .o (atI_natD (d := endD (st.net.link l)) (by rw [List.getElem?_map, hll]; rfl)) ?_
  unfold endD intD
  walk_at "akgo"
  (refine ev_stM (by decide +kernel) ?_; walk_at "akgo"; refine ⟨⟨_, hS.f⟩, ?_⟩; walk_at "akgo")
  (refine ev_stM (by decide +kernel) ?_; walk_at "akgo"; refine ⟨⟨_, hS.f⟩, ?_⟩; walk_at "akgo")
  refine ⟨S0, p, st, _, _, rfl, hS, ok, fun S1 hS1 => ?_⟩
  unfold intD
  walk_at "akgo"
  refine rd_intC ⟨by omega, by omega, by decide⟩ ?_
  rw [shl_nat]
  walk_at "akgo"
  rw [Bits.bitOr_pp (by omega) (Int.natCast_nonneg _), Int.toNat_natCast, Int.toNat_natCast]
  refine ⟨S0, p, st, _, rfl, hS1, ok, Nat.or_lt_two_pow (lw_lt ok _ _) (Nat.pow_lt_pow_right (by decide) k2), fun S2 hS2 => ?_⟩
  walk_at "akgo"
  obtain ⟨m2, t2, hx2⟩ := hS2.f
  have main : ∀ hs : List (Nat × Nat), hs.Perm (st.row (st.net.link l).1) → ∀ ρ : Env, ρ[0]? = some (some (.ref p)) → ρ[4]? = some (some (spD K (st.rows (st.lw (st.net.link l).2 (st.net.link l).1 ||| 2 ^ (st.net.link l).2)))) → ρ.length = 6 → ∀ q ∈ hs, ∀ S', StAt K S0 p st S' → GD S' (wipeD ρ [5]) (gName 5) (prD q) fun S2 ρ2 => EvT S2 ρ2 (tNot (tB (tMeth (He.ga K (Str.ofString "Span")) (Str.ofString "has") (toSp (p_Span_has K)) [] E0 (tVar 4) (tCons (tMeth (He.ga K (Str.ofString "State")) (Str.ofString "message") (toSp (p_State_message K)) [] E0 (tVar 0) (tCons (tOp (rIxT K) (tVar 5) (tC (V.int 0))) (tCons (tOp (rIxT K) (tVar 5) (tC (V.int 1))) tNil))) tNil)))) fun S3 b => b = st.okQ l q ∧ (st.okQ l q = true → Ev S3 ρ2 (tVar 5) fun S4 y => StAt K S0 p st S4 ∧ y = prD q) ∧ (st.okQ l q = false → StAt K S0 p st S3) := by
    intro hs pm ρ h0 h4 hlen q hqm S3 hS3
    have hh := hhas q (pm.mem_iff.mp hqm)
    have r0 : ((wipeD ρ [5]).set 5 (some (prD q)))[0]? = some (some (.ref p)) := by
      rw [List.getElem?_set_ne (by decide)]
      show (ρ.set 5 none)[0]? = _
      rw [List.getElem?_set_ne (by decide)]
      exact h0
    have r4 : ((wipeD ρ [5]).set 5 (some (prD q)))[4]? = some (some (spD K (st.rows (st.lw (st.net.link l).2 (st.net.link l).1 ||| 2 ^ (st.net.link l).2)))) := by
      rw [List.getElem?_set_ne (by decide)]
      show (ρ.set 5 none)[4]? = _
      rw [List.getElem?_set_ne (by decide)]
      exact h4
    have r5 : ((wipeD ρ [5]).set 5 (some (prD q)))[5]? = some (some (prD q)) := List.getElem?_set_self (by show 5 < (ρ.set 5 none).length; rw [List.length_set]; omega)
    refine gd_name (evT_not (evT_B (ev_meth (ev_var r4 ⟨⟨_, _, .o, by decide +kernel⟩, evA_cons (ev_stM (by decide +kernel) (ev_var r0 ⟨⟨_, hS3.f⟩, ?_⟩))⟩))))
    refine evA_cons (ev_op (ev_var r5 (ev_int (rd_ixT (l := [.str (up q.1), .int (q.2 : Nat)]) (d := .str (up q.1)) rfl ?_))))
    refine evA_cons (ev_op (ev_var r5 (ev_int (rd_ixT (l := [.str (up q.1), .int (q.2 : Nat)]) (d := .int (q.2 : Nat)) rfl ?_))))
    walk_at "akgo"
    refine ⟨_, st, q, rfl, hS3.f, ok.net, hh, ?_⟩
    walk_at "akgo"
    refine ⟨_, _, _, rfl, RowsOf.o, ?_⟩
    refine ⟨_, rfl, ?_, fun hc => ?_, fun _ => hS3⟩
    · unfold St.okQ
      rw [← decide_not]
    · exact ev_var r5 ⟨hS3, rfl⟩
  refine ev_lc (own_name (by decide)) (evI_list ?_)
  walk_at "akgo"
  refine ev_fld ?_
  walk_at "akgo"
  refine ⟨_, _, _, _, hx2, T.c_State, T.na_State_had, (by with_unfolding_all rfl), ?_⟩
  walk_at "akgo"
  refine rd_ixL .o (atI_natD (d := rowD (st.row (st.net.link l).1)) (by rw [List.getElem?_map, hrow]; rfl)) ?_
  unfold rowD
  rw [toP_map]
  walk_at "akgo"
  refine rc_sortedPD fun ps pm => ?_
  have hps : ps = (ps.map fun z => ((z.1.cps.toList.headD 65 - 65, z.2.toNat) : Nat × Nat)).map toP := by
    rw [List.map_map]
    refine (List.map_congr_left (g := id) ?_ |>.trans (List.map_id _)).symm
    intro z hz
    obtain ⟨q, _, rfl⟩ := List.mem_map.mp (pm.mem_iff.mp hz)
    show toP (65 + q.1 - 65, ((q.2 : Nat) : Int).toNat) = toP q
    rw [Int.toNat_natCast, Nat.add_sub_cancel_left]
  have hpm : (ps.map fun z => ((z.1.cps.toList.headD 65 - 65, z.2.toNat) : Nat × Nat)).Perm (st.row (st.net.link l).1) := by
    have z := pm.map fun z => ((z.1.cps.toList.headD 65 - 65, z.2.toNat) : Nat × Nat)
    rw [List.map_map] at z
    have e : (fun z : Str × Int => ((z.1.cps.toList.headD 65 - 65, z.2.toNat) : Nat × Nat)) ∘ toP = id := by
      funext q
      show ((65 + q.1 - 65, ((q.2 : Nat) : Int).toNat) : Nat × Nat) = q
      rw [Int.toNat_natCast, Nat.add_sub_cancel_left]
    rw [e, List.map_id] at z
    exact z
  generalize hhs : (ps.map fun z => ((z.1.cps.toList.headD 65 - 65, z.2.toNat) : Nat × Nat)) = hs at hps hpm
  subst hps
  refine ⟨_, .o, comp_map (StAt K S0 p st) prD hs (st.okQ l) prD (toP_map hs).symm (by rw [hpm.length_eq]; omega) hS2 (fun _ _ => by exact LV.o) (main hs hpm _ rfl rfl rfl) fun S3 hS3 => hq S3 hs hS3 hpm⟩
end AK
set_option Elab.async false
set_option linter.all false
set_option maxRecDepth 100000
set_option maxHeartbeats 4000000
namespace AK
local macro_rules | `(tactic| walk_at "akgo") => `(tactic| (repeat (first | with_reducible refine q_seq ?_ | with_reducible refine q_asg ?_ | with_reducible refine q_drop ?_ | with_reducible refine q_ret ?_ | with_reducible refine q_next ?_ | with_reducible refine q_break ?_ | with_reducible refine ev_int ?_ | with_reducible refine ev_str ?_ | with_reducible refine ev_bl ?_ | with_reducible refine ev_non ?_ | with_reducible refine ev_ty ?_ | with_reducible refine ev_cls ?_ | with_reducible refine ev_op ?_ | with_reducible refine ev_un ?_ | with_reducible refine ev_cb ?_ | with_reducible refine evA_cons ?_ | with_reducible refine evA_nil ?_ | with_reducible refine rd_int ?_ | with_reducible refine rd_cmp ?_ | with_reducible refine r1_neg ?_ | with_reducible refine rd_eqI ?_ | with_reducible refine rd_neI ?_ | with_reducible refine rd_eqS ?_ | with_reducible refine rd_neS ?_ | with_reducible refine rd_neB ?_ | with_reducible refine rd_isN ?_ | with_reducible refine rd_notN ?_ | with_reducible refine rd_notB ?_ | with_reducible refine rd_inS ?_ | with_reducible refine rd_ninS ?_ | with_reducible refine evT_test ?_ | with_reducible refine evT_B ?_ | with_reducible refine evT_not ?_ | with_reducible refine evT_yes ?_ | with_reducible refine ev_notV ?_ | with_reducible refine rc_int ?_ | with_reducible refine rc_min2 ?_ | with_reducible refine rc_max2 ?_ | with_reducible refine rc_lenT ?_ | with_reducible refine q_asgG ?_ | with_reducible refine gds_nil ?_ | with_reducible refine gds_name ?_ | with_reducible refine ev_call ?_ | with_reducible refine gd_name ?_ | with_reducible refine ev_tup ?_ | with_reducible refine ev_var (by with_unfolding_all rfl) ?_ | with_reducible refine ⟨_, rfl, ?_⟩ | with_reducible refine gd_tup rfl ?_ | with_reducible refine rc_lenL LV.o ?_)))
open PySem PySem.Spec PyProof.Rows L2
variable {P : Program} {w : World} {K : PySem.W.Frag} {mg : Str → Option Value} {base : Heap}
def Carry (st : St) (t : Tr) : Prop := t.1 ∈ st.unused ∧ t.2 ∈ st.row (st.net.link t.1).1 ∧ st.okQ t.1 t.2 = true
theorem filter_ne_len {l : List Nat} {a : Nat} (h : a ∈ l) : (l.filter fun x => decide (x ≠ a)).length + 1 ≤ l.length := by
  induction l with
  | nil => cases h
  | cons b l ih =>
    by_cases e : b = a
    · subst e
      have z := List.length_filter_le (fun x => decide (x ≠ b)) l
      simp only [List.filter_cons, ne_eq, not_true_eq_false, decide_false, Bool.false_eq_true, ite_false, List.length_cons]
      have z2 : (List.filter (fun x => !decide (x = b)) l).length ≤ l.length := List.length_filter_le ..
      simpa using z2
    · have hm : a ∈ l := by
        rcases List.mem_cons.mp h with z | z
        · exact absurd z.symm e
        · exact z
      have z := ih hm
      have hb : decide (b ≠ a) = true := decide_eq_true e
      rw [List.filter_cons, if_pos hb, List.length_cons, List.length_cons]
      omega
theorem after_ok {st : St} (ok : st.Ok) {t : Tr} (h1 : t.1 ∈ st.unused) (h2 : t.2 ∈ st.row (st.net.link t.1).1) : (st.after t).Ok := by
  obtain ⟨k1, k2, k3⟩ := ok.link h1
  have hl := filter_ne_len h1
  have hrow2 := row_mem k2
  have hrow1 := row_mem k1
  refine ⟨ok.net, ?_, fun row hr q hq => ?_, fun row hr => ?_, fun l hl => ok.ul l (List.mem_filter.mp hl).1⟩
  · show (st.had.set _ _).length = _
    rw [List.length_set]
    exact ok.hl
  · rcases List.mem_or_eq_of_mem_set hr with h | h
    · exact ok.hq row h q hq
    · subst h
      rcases List.mem_append.mp hq with h | h
      · exact ok.hq _ hrow2 q h
      · have e : q = t.2 := by simpa using h
        subst e
        exact ok.hq _ hrow1 _ h2
  · show row.length + (st.unused.filter fun x => decide (x ≠ t.1)).length ≤ 40
    rcases List.mem_or_eq_of_mem_set hr with h | h
    · have := ok.hr row h
      omega
    · subst h
      have := ok.hr _ hrow2
      rw [List.length_append, List.length_singleton]
      omega
theorem StAt.del {S0 S : Sto} {p a : Addr} {c : Cell} {st : St} (h : StAt K (S0.put a c) p st S) (ha : S0 a = none) : StAt K S0 p st (S.del a) := by
  obtain ⟨k, hk, m, t, h1, h2, h3, h4, rfl⟩ := h
  have am : m ≠ a := fun z => by rw [z, put_same] at h2; cases h2
  have ap : p ≠ a := fun z => by rw [z, put_same] at h3; cases h3
  rw [put_ne am] at h2
  rw [put_ne ap] at h3
  refine ⟨k, hk, m, t, h1, h2, h3, h4, ?_⟩
  funext b
  by_cases b1 : b = a
  · rw [b1, del_same, put_ne (Ne.symm ap), put_ne (Ne.symm am), ha]
  · rw [del_ne b1]
    by_cases b2 : b = p
    · rw [b2, put_same, put_same]
    · rw [put_ne b2, put_ne b2]
      by_cases b3 : b = m
      · rw [b3, put_same, put_same]
      · rw [put_ne b3, put_ne b3, put_ne b1]
def p_State_following (K : PySem.W.Frag) : Phi := fun S ds P => ∃ S0 p st, ds = [.ref p] ∧ StAt K S0 p st S ∧ st.Ok ∧ st.defL = [] ∧ ∀ (S' : Sto) (ts : List Tr), StAt K S0 p st S' → (∀ t ∈ ts, Carry st t) → ((∃ t, Carry st t) → ts ≠ []) → P S' (.lst (ts.map trD))
theorem sx_State_following (T : Top K mg) (S : Sto) (ds : List D) (Q : Sto → D → Prop) (h : p_State_following K S ds Q) : Sx S (startD N_State_following.length ds) (t_State_following K (p_State_deficient K) (p_State_carried K)) { nx := fun S' _ => Q S' .non, rt := Q } := by
  obtain ⟨S0, p, st, rfl, hS, ok, hdef, hq⟩ := h
  have h40 := ok.un40
  unfold t_State_following
  walk_at "akgo"
  refine q_ifF (evT_truth ?_)
  (refine ev_stM (by decide +kernel) ?_; walk_at "akgo"; refine ⟨⟨_, hS.f⟩, ?_⟩; walk_at "akgo")
  refine ⟨S0, p, st, rfl, hS, ok, fun S1 hS1 => ⟨false, .inl ⟨_, .o, by rw [hdef]; rfl⟩, rfl, ?_⟩⟩
  walk_at "akgo"
  refine ev_lstH ?_
  walk_at "akgo"
  refine ⟨by simp, fun a ha => ?_⟩
  have ha0 := le_none hS1.le ha
  walk_at "akgo"
  refine q_forM intD st.unused (fun i S' ρ' => ∃ ts : List Tr, StAt K (S0.put a (.lst (ts.map trD))) p st S' ∧ (∀ t ∈ ts, Carry st t) ∧ (∀ t, Carry st t → t.1 ∈ st.unused.take i → ts ≠ []) ∧ ts.length ≤ 40 * i ∧ ∃ y z u, ρ' = [some (.ref p), some (.ref a), y, z, u]) (evI_list ?_) ?_ ?_
  · obtain ⟨m, t, hx⟩ := (hS1.put (c := .lst []) (.inr ha)).f
    refine ev_fld ?_
    walk_at "akgo"
    refine ⟨_, _, _, _, hx, T.c_State, T.na_State_unused, (by with_unfolding_all rfl), ?_⟩
    refine ⟨_, .o, rfl, fun _ _ _ _ _ => .o, [], hS1.put (.inr ha), (by simp), (by simp), Nat.zero_le _, none, none, none, rfl⟩
  · rintro i l S' ρ' hi ⟨ts, hS2, c1, c2, c3, y, z, u, rfl⟩
    have hl := List.mem_of_getElem? hi
    have hi40 : i < 40 := by
      have := (List.getElem?_eq_some_iff.mp hi).1
      omega
    obtain ⟨k1, k2, k3⟩ := ok.link hl
    have hrl : (st.row (st.net.link l).1).length ≤ 40 := by
      have := ok.hr _ (row_mem k1)
      omega
    unfold intD
    walk_at "akgo"
    refine ev_bm ?_
    walk_at "akgo"
    refine ⟨⟨rfl, _, hS2.le _ _ put_same⟩, ?_⟩
    walk_at "akgo"
    refine ev_lc (own_tup (own_cons (by decide) (own_cons (by decide) own_nil))) (evI_list ?_)
    (refine ev_stM (by decide +kernel) ?_; walk_at "akgo"; refine ⟨⟨_, hS2.f⟩, ?_⟩; walk_at "akgo")
    refine ⟨_, p, st, l, rfl, hS2, ok, hl, fun S3 hs hS3 pm => ?_⟩
    have hfl : (hs.filter (st.okQ l)).length ≤ 40 := Nat.le_trans (List.length_filter_le ..) (by rw [pm.length_eq]; exact hrl)
    refine ⟨_, .o, comp_map (StAt K (S0.put a (.lst (ts.map trD))) p st) prD (hs.filter (st.okQ l)) (fun _ => true) (fun q => trD (l, q)) rfl (by omega) hS3 (fun _ _ => by exact LV.o) ?_ ?_⟩
    · intro q hqm S4 hS4
      unfold prD pairD
      walk_at "akgo"
      refine ⟨rfl, fun _ => ?_, fun h => Bool.noConfusion h⟩
      walk_at "akgo"
      exact ⟨by simp, hS4, rfl⟩
    · intro S4 hS4
      rw [filter_yes]
      walk_at "akgo"
      refine rm_extend (hS4.le _ _ put_same) .o (by rw [List.length_map, List.length_map]; omega) ?_
      have e : ts.map trD ++ (hs.filter (st.okQ l)).map (fun q => trD (l, q)) = (ts ++ (hs.filter (st.okQ l)).map fun q => (l, q)).map trD := by
        rw [List.map_append, List.map_map]
        rfl
      rw [e]
      refine ⟨ts ++ (hs.filter (st.okQ l)).map fun q => (l, q), ?_, ?_, ?_, ?_, _, _, _, rfl⟩
      · have z := hS4.put (a := a) (c := .lst ((ts ++ (hs.filter (st.okQ l)).map fun q => (l, q)).map trD)) (.inl (by rw [put_same]; simp))
        rw [put_put] at z
        exact z
      · intro t ht
        rcases List.mem_append.mp ht with h | h
        · exact c1 t h
        · obtain ⟨q, hq1, rfl⟩ := List.mem_map.mp h
          obtain ⟨f1, f2⟩ := List.mem_filter.mp hq1
          exact ⟨hl, pm.mem_iff.mp f1, f2⟩
      · intro t ct ht hnil
        rw [take_succ_at hi] at ht
        obtain ⟨n1, n2⟩ := List.append_eq_nil_iff.mp hnil
        rcases List.mem_append.mp ht with h | h
        · exact c2 t ct h n1
        · have e : t.1 = l := by simpa using h
          obtain ⟨d1, d2, d3⟩ := ct
          rw [e] at d2 d3
          have hm : t.2 ∈ hs.filter (st.okQ l) := List.mem_filter.mpr ⟨pm.mem_iff.mpr d2, d3⟩
          have hm2 := List.mem_map_of_mem (f := fun q => ((l, q) : Tr)) hm
          rw [n2] at hm2
          cases hm2
      · rw [List.length_append, List.length_map]
        omega
  · rintro S' ρ' ⟨ts, hS2, c1, c2, c3, y, z, u, rfl⟩
    refine q_ret (ev_frzL ?_)
    walk_at "akgo"
    refine ⟨_, _, rfl, hS2.le _ _ put_same, ?_⟩
    refine hq _ ts (hS2.del ha0) c1 fun ⟨t, ct⟩ => c2 t ct ?_
    rw [List.take_length]
    exact ct.1
/-! ### schedules -/
/-- what holds of the states on the way -/
structure Good (G : St → Prop) : Prop where
  ok : ∀ st, G st → st.Ok
  def_ : ∀ st, G st → st.defL = []
  more : ∀ st, G st → st.doneB = false → ∃ t, Carry st t
  new : ∀ st t, G st → Carry st t → left (st.rows (2 ^ (st.net.link t.1).2)) (st.net.msg t.2) ≠ 0
  step : ∀ st t, G st → Carry st t → G (st.after t)
def Run (st : St) (ts : List Tr) : Prop := ∀ (i : Nat) (t : Tr), ts[i]? = some t → Carry ((ts.take i).foldl St.after st) t
theorem Run.nil {st : St} : Run st [] := fun i t h => by simp at h
theorem Run.snoc {st : St} {ts : List Tr} {t : Tr} (h : Run st ts) (c : Carry (ts.foldl St.after st) t) : Run st (ts ++ [t]) := fun i s hi => by
  by_cases e : i < ts.length
  · rw [List.getElem?_append_left e] at hi
    rw [List.take_append_of_le_length (Nat.le_of_lt e)]
    exact h i s hi
  · have hlt := (List.getElem?_eq_some_iff.mp hi).1
    rw [List.length_append, List.length_singleton] at hlt
    have ei : i = ts.length := by omega
    subst ei
    rw [List.getElem?_append_right (Nat.le_refl _), Nat.sub_self] at hi
    cases hi
    rw [List.take_left]
    exact c
theorem evT_sle {S S1 : Sto} {ρ : Env} {tt : TT} {PB : Sto → Bool → Prop} (l : SLe S1 S) (h : EvT S1 ρ tt PB) : EvT S ρ tt PB := fun F G H σ w s Q k => h F G H σ (w.less l) s Q k
def p_schedule_from (K : PySem.W.Frag) : Phi := fun S ds P => ∃ S0 p st, ∃ G : St → Prop, ds = [.ref p] ∧ StAt K S0 p st S ∧ Good G ∧ G st ∧ ∀ ts, Run st ts → G (ts.foldl St.after st) → (ts.foldl St.after st).doneB = true → P S0 (.tup (ts.map trD))
theorem sx_schedule_from (T : Top K mg) (S : Sto) (ds : List D) (Q : Sto → D → Prop) (h : p_schedule_from K S ds Q) : Sx S (startD N_schedule_from.length ds) (t_schedule_from K (p_State_deficient K) (p_State_is_done K) (p_State_following K) (p_State_after K)) { nx := fun S' _ => Q S' .non, rt := Q } := by
  obtain ⟨S0, p, st, G, rfl, hS, good, hG, hq⟩ := h
  have ok := good.ok _ hG
  unfold t_schedule_from
  walk_at "akgo"
  refine q_ifF (evT_truth ?_)
  (refine ev_stM (by decide +kernel) ?_; walk_at "akgo"; refine ⟨⟨_, hS.f⟩, ?_⟩; walk_at "akgo")
  refine ⟨S0, p, st, rfl, hS, ok, fun S1 hS1 => ⟨false, .inl ⟨_, .o, by rw [good.def_ _ hG]; rfl⟩, rfl, ?_⟩⟩
  walk_at "akgo"
  refine ev_lstH ?_
  walk_at "akgo"
  refine ⟨by simp, fun f hf => ?_⟩
  have hf0 := le_none hS1.le hf
  walk_at "akgo"
  have h40 := ok.un40
  have hlen0 : ([] : List Tr).length + (([] : List Tr).foldl St.after st).unused.length ≤ 40 := by
    show 0 + st.unused.length ≤ 40
    omega
  refine q_while (fun (m : Nat) (S' : Sto) (ρ' : Env) => ∃ (ts : List Tr) (p' : Addr) (S2 : Sto), SLe S2 S' ∧ StAt K (S0.put f (.lst (ts.map trD))) p' (ts.foldl St.after st) S2 ∧ Run st ts ∧ G (ts.foldl St.after st) ∧ m = (ts.foldl St.after st).unused.length ∧ ts.length + m ≤ 40 ∧ ∃ y, ρ' = [some (.ref p'), some (.ref f), y]) st.unused.length ⟨[], p, S1.put f (.lst []), SLe.refl _, hS1.put (.inr hf), Run.nil, hG, rfl, hlen0, none, rfl⟩ ?_
  rintro m S' ρ' ⟨ts, p', S2, hle, hS2, run, hG2, rfl, hlen, y, rfl⟩
  have ok2 := good.ok _ hG2
  refine evT_sle hle ?_
  walk_at "akgo"
  (refine ev_stM (by decide +kernel) ?_; walk_at "akgo"; refine ⟨⟨_, hS2.f⟩, ?_⟩; walk_at "akgo")
  refine ⟨_, p', _, rfl, hS2, ok2, fun S3 hS3 => ?_⟩
  walk_at "akgo"
  refine ⟨fun hc => ?_, fun hc => ?_⟩
  · have hnd : (ts.foldl St.after st).doneB = false := by simpa using hc
    walk_at "akgo"
    (refine ev_stM (by decide +kernel) ?_; walk_at "akgo"; refine ⟨⟨_, hS3.f⟩, ?_⟩; walk_at "akgo")
    refine ⟨_, p', _, rfl, hS3, ok2, good.def_ _ hG2, fun S4 us hS4 u1 u2 => ?_⟩
    have hne := u2 (good.more _ hG2 hnd)
    cases us with
    | nil => exact absurd rfl hne
    | cons t us =>
      have ct := u1 t List.mem_cons_self
      walk_at "akgo"
      refine rd_ixL .o (atI_natD (i := 0) (d := trD t) rfl) ?_
      walk_at "akgo"
      refine ev_bm ?_
      walk_at "akgo"
      refine ⟨⟨rfl, _, hS4.le _ _ put_same⟩, ?_⟩
      walk_at "akgo"
      refine rm_append (hS4.le _ _ put_same) (by rw [List.length_map]; omega) ?_
      have hS5 := hS4.put (a := f) (c := .lst ((ts ++ [t]).map trD)) (.inl (by rw [put_same]; simp))
      rw [put_put] at hS5
      have e : (S4.put f (.lst (ts.map trD ++ [trD t]))) = S4.put f (.lst ((ts ++ [t]).map trD)) := by
        rw [List.map_append]
        rfl
      rw [e]
      walk_at "akgo"
      (refine ev_stM (by decide +kernel) ?_; walk_at "akgo"; refine ⟨⟨_, hS5.f⟩, ?_⟩; walk_at "akgo")
      refine ⟨_, _, t, rfl, hS5.f, ok2, ct.1, fun p2 S6 hS6 => ?_⟩
      obtain ⟨S7, l7, hS7⟩ := hS6.at_.rebase hS5.le
      have ef : ((ts ++ [t]).foldl St.after st) = (ts.foldl St.after st).after t := by
        rw [List.foldl_append]
        rfl
      have hdec := filter_ne_len ct.1
      have hu : ((ts ++ [t]).foldl St.after st).unused.length + 1 ≤ (ts.foldl St.after st).unused.length := by
        rw [ef]
        exact hdec
      refine ⟨_, by omega, ts ++ [t], p2, S7, l7, by rw [ef]; exact hS7, run.snoc ct, by rw [ef]; exact good.step _ _ hG2 ct, rfl, ?_, _, rfl⟩
      rw [List.length_append, List.length_singleton]
      omega
  · have hd : (ts.foldl St.after st).doneB = true := by simpa using hc
    refine q_ret (ev_less ?_)
    walk_at "akgo"
    refine rc_tuple (.inl (.h (hS3.le _ _ put_same))) ⟨S0, (SLe.put hf0).trans hS3.le, hq ts run hG2 hd⟩
def p_first_schedule (K : PySem.W.Frag) : Phi := fun S ds P => ∃ N, ∃ G : St → Prop, ds = [netD K N] ∧ Good G ∧ G (st0 N) ∧ ∀ ts, Run (st0 N) ts → G (ts.foldl St.after (st0 N)) → (ts.foldl St.after (st0 N)).doneB = true → P S (.tup (ts.map trD))
theorem ev_state {S : Sto} {ρ : Env} {t : TA} {P : Sto → D → Prop} (h : EvA S ρ t fun S1 xs => ∃ N, xs = [netD K N] ∧ N.Ok ∧ ∀ p S2, StN K S1 p (st0 N) S2 → P S2 (.ref p)) : Ev S ρ (tMake (He.ga K "State") (toSp (p_State_init K)) [] E0 t) P := by
  refine ev_make ?_
  refine fun F G H σ w s Q k => h F G H σ w s Q fun vs ds S' G' H' e w' p r => k vs ds S' G' H' e w' ?_ r
  obtain ⟨N, rfl, ok, hP⟩ := p
  intro a ha
  exact ⟨S', a, N, rfl, ok, ha, rfl, fun S2 hS2 => ⟨rfl, hP a S2 hS2⟩⟩
theorem sx_first_schedule (T : Top K mg) (S : Sto) (ds : List D) (Q : Sto → D → Prop) (h : p_first_schedule K S ds Q) : Sx S (startD N_first_schedule.length ds) (t_first_schedule K (p_State_init K) (p_schedule_from K)) { nx := fun S' _ => Q S' .non, rt := Q } := by
  obtain ⟨N, G, rfl, good, hG, hq⟩ := h
  unfold t_first_schedule
  walk_at "akgo"
  refine ev_state ?_
  walk_at "akgo"
  refine ⟨(good.ok _ hG).net, fun p S2 hS2 => ?_⟩
  walk_at "akgo"
  exact ⟨S, p, st0 N, G, rfl, hS2.at_, good, hG, hq⟩
def trOk (N : Net) (t : Tr) : Prop := t.1 < N.links.length ∧ N.Has t.2
def p_checked (K : PySem.W.Frag) : Phi := fun S ds P => ∃ N, ∃ ts : List Tr, ds = [netD K N, .tup (ts.map trD)] ∧ N.Ok ∧ ts.length ≤ 1000 ∧ (∀ t ∈ ts, trOk N t) ∧ P S (.lst (ts.map trD))
theorem sx_checked (T : Top K mg) (S : Sto) (ds : List D) (Q : Sto → D → Prop) (h : p_checked K S ds Q) : Sx S (startD N_checked.length ds) (t_checked K (p_check_transmission K)) { nx := fun S' _ => Q S' .non, rt := Q } := by
  obtain ⟨N, ts, rfl, ok, hl, ht, hq⟩ := h
  unfold t_checked
  walk_at "akgo"
  refine ev_lcA (own_name (by decide)) (S = ·) trD ts trD (by omega) (evI_tup ?_) ?_ ?_
  · walk_at "akgo"
    exact ⟨rfl, fun _ _ => trivial, rfl⟩
  · rintro t _ _ rfl
    walk_at "akgo"
    exact rc_tuple (.inr rfl) ⟨rfl, rfl⟩
  · rintro _ rfl
    walk_at "akgo"
    refine q_forM trD ts (fun i S' ρ' => S = S' ∧ ∃ y, ρ' = [some (netD K N), some (.tup (ts.map trD)), y, some (.lst (ts.map trD))]) (evI_list ?_) ?_ ?_
    · walk_at "akgo"
      exact ⟨_, .o, rfl, fun _ _ _ _ _ => .o, rfl, none, rfl⟩
    · rintro i t S' ρ' hi ⟨rfl, y, rfl⟩
      have h1 := ht t (List.mem_of_getElem? hi)
      walk_at "akgo"
      exact ⟨N, t, rfl, ok, h1.1, h1.2, rfl, _, rfl⟩
    · rintro S' ρ' ⟨rfl, y, rfl⟩
      walk_at "akgo"
      exact hq
end AK
set_option Elab.async false
set_option linter.all false
set_option maxRecDepth 100000
set_option maxHeartbeats 1000000
namespace AK
local macro_rules | `(tactic| walk_at "akgo") => `(tactic| (repeat (first | with_reducible refine q_seq ?_ | with_reducible refine q_asg ?_ | with_reducible refine q_drop ?_ | with_reducible refine q_ret ?_ | with_reducible refine q_next ?_ | with_reducible refine q_break ?_ | with_reducible refine ev_int ?_ | with_reducible refine ev_str ?_ | with_reducible refine ev_bl ?_ | with_reducible refine ev_non ?_ | with_reducible refine ev_ty ?_ | with_reducible refine ev_cls ?_ | with_reducible refine ev_op ?_ | with_reducible refine ev_un ?_ | with_reducible refine ev_cb ?_ | with_reducible refine evA_cons ?_ | with_reducible refine evA_nil ?_ | with_reducible refine rd_int ?_ | with_reducible refine rd_cmp ?_ | with_reducible refine r1_neg ?_ | with_reducible refine rd_eqI ?_ | with_reducible refine rd_neI ?_ | with_reducible refine rd_eqS ?_ | with_reducible refine rd_neS ?_ | with_reducible refine rd_neB ?_ | with_reducible refine rd_isN ?_ | with_reducible refine rd_notN ?_ | with_reducible refine rd_notB ?_ | with_reducible refine rd_inS ?_ | with_reducible refine rd_ninS ?_ | with_reducible refine evT_test ?_ | with_reducible refine evT_B ?_ | with_reducible refine evT_not ?_ | with_reducible refine evT_yes ?_ | with_reducible refine ev_notV ?_ | with_reducible refine rc_int ?_ | with_reducible refine rc_min2 ?_ | with_reducible refine rc_max2 ?_ | with_reducible refine rc_lenT ?_ | with_reducible refine q_asgG ?_ | with_reducible refine gds_nil ?_ | with_reducible refine gds_name ?_ | with_reducible refine ev_call ?_ | with_reducible refine gd_name ?_ | with_reducible refine ev_tup ?_ | with_reducible refine ev_var (by with_unfolding_all rfl) ?_ | with_reducible refine ⟨_, rfl, ?_⟩ | with_reducible refine gd_tup rfl ?_ | with_reducible refine rc_lenL LV.o ?_)))
open PySem PySem.Spec PyProof.Rows L2
variable {P : Program} {w : World} {K : PySem.W.Frag} {mg : Str → Option Value} {base : Heap}
theorem after_net (st : St) (t : Tr) : (st.after t).net = st.net := rfl
theorem fold_net : ∀ (ts : List Tr) (st : St), (ts.foldl St.after st).net = st.net
  | [], _ => rfl
  | t :: ts, st => fold_net ts (st.after t)
theorem Run.trOk {st : St} {ts : List Tr} {G : St → Prop} (good : Good G) (hG : G st) (run : Run st ts) : (∀ t ∈ ts, trOk st.net t) ∧ ∀ i, i ≤ ts.length → G ((ts.take i).foldl St.after st) := by
  have hi : ∀ i, i ≤ ts.length → G ((ts.take i).foldl St.after st) := by
    intro i
    induction i with
    | zero => exact fun _ => hG
    | succ i ih =>
      intro h
      obtain ⟨t, ht⟩ : ∃ t, ts[i]? = some t := ⟨ts[i], List.getElem?_eq_getElem (by omega)⟩
      rw [take_succ_at ht, List.foldl_append]
      exact good.step _ _ (ih (by omega)) (run i t ht)
  refine ⟨fun t ht => ?_, hi⟩
  obtain ⟨i, hlt, e⟩ := List.mem_iff_getElem.mp ht
  have ht2 : ts[i]? = some t := by rw [List.getElem?_eq_getElem hlt, e]
  have c := run i t ht2
  have ok := good.ok _ (hi i (by omega))
  obtain ⟨k1, k2, k3⟩ := ok.link c.1
  have h1 := ok.ul _ c.1
  have h2 := ok.hq _ (row_mem k1) _ c.2.1
  rw [fold_net] at h1 h2
  exact ⟨h1, h2⟩
def p_last_state (K : PySem.W.Frag) : Phi := fun S ds P => ∃ (N : Net) (ts : List Tr) (G : St → Prop), ds = [netD K N, .tup (ts.map trD)] ∧ ts.length ≤ 1000 ∧ Good G ∧ G (st0 N) ∧ Run (st0 N) ts ∧ ∀ p S', StAt K S p (ts.foldl St.after (st0 N)) S' → P S' (.ref p)
theorem sx_last_state (T : Top K mg) (S : Sto) (ds : List D) (Q : Sto → D → Prop) (h : p_last_state K S ds Q) : Sx S (startD N_last_state.length ds) (t_last_state K (p_State_init K) (p_checked K) (p_State_why_not K) (p_State_after K)) { nx := fun S' _ => Q S' .non, rt := Q } := by
  obtain ⟨N, ts, G, rfl, hl, good, hG, run, hq⟩ := h
  have okN := (good.ok _ hG).net
  obtain ⟨tok, hGi⟩ := Run.trOk good hG run
  unfold t_last_state
  walk_at "akgo"
  refine ev_state ?_
  walk_at "akgo"
  refine ⟨okN, fun p S1 hS1 => ?_⟩
  walk_at "akgo"
  refine q_forM trD ts (fun (i : Nat) (S' : Sto) (ρ' : Env) => ∃ (p' : Addr) (S2 : Sto) (y : Option D), SLe S2 S' ∧ StAt K S p' ((ts.take i).foldl St.after (st0 N)) S2 ∧ ρ' = [some (netD K N), some (.tup (ts.map trD)), some (.ref p'), y]) (evI_list ?_) ?_ ?_
  · walk_at "akgo"
    refine ⟨N, ts, rfl, okN, hl, tok, ?_⟩
    exact ⟨_, .o, rfl, fun _ _ _ _ _ => .o, p, S1, none, SLe.refl _, hS1.at_, rfl⟩
  · rintro i t S' ρ' hi ⟨p', S2, y, hle, hS2, rfl⟩
    have hil := (List.getElem?_eq_some_iff.mp hi).1
    have gi := hGi i (by omega)
    have ok := good.ok _ gi
    have c := run i t hi
    refine gd_name ?_
    refine q_lessS hle ?_
    walk_at "akgo"
    refine q_no ?_
    walk_at "akgo"
    (refine ev_stM (by decide +kernel) ?_; walk_at "akgo"; refine ⟨⟨_, hS2.f⟩, ?_⟩; walk_at "akgo")
    refine ⟨S, p', _, t, rfl, hS2, ok, c.1, c.2.1, good.new _ _ gi c, fun S3 hS3 => ?_⟩
    walk_at "akgo"
    refine ⟨rfl, ?_⟩
    walk_at "akgo"
    (refine ev_stM (by decide +kernel) ?_; walk_at "akgo"; refine ⟨⟨_, hS3.f⟩, ?_⟩; walk_at "akgo")
    refine ⟨_, _, t, rfl, hS3.f, ok, c.1, fun p2 S4 hS4 => ?_⟩
    obtain ⟨S5, l5, hS5⟩ := hS4.at_.rebase hS3.le
    refine ⟨p2, S5, some (trD t), l5, ?_, rfl⟩
    rw [take_succ_at hi, List.foldl_append]
    exact hS5
  · rintro S' ρ' ⟨p', S2, y, hle, hS2, rfl⟩
    rw [List.take_length] at hS2
    refine q_lessS hle ?_
    walk_at "akgo"
    exact hq _ _ hS2
def p_is_complete (K : PySem.W.Frag) : Phi := fun S ds P => ∃ (N : Net) (ts : List Tr) (G : St → Prop), ds = [netD K N, .tup (ts.map trD)] ∧ ts.length ≤ 1000 ∧ Good G ∧ G (st0 N) ∧ Run (st0 N) ts ∧ P S (.bl (ts.foldl St.after (st0 N)).doneB)
theorem sx_is_complete (T : Top K mg) (S : Sto) (ds : List D) (Q : Sto → D → Prop) (h : p_is_complete K S ds Q) : Sx S (startD N_is_complete.length ds) (t_is_complete K (p_last_state K) (p_State_is_done K)) { nx := fun S' _ => Q S' .non, rt := Q } := by
  obtain ⟨N, ts, G, rfl, hl, good, hG, run, hq⟩ := h
  obtain ⟨tok, hGi⟩ := Run.trOk good hG run
  have gl := hGi ts.length (Nat.le_refl _)
  rw [List.take_length] at gl
  unfold t_is_complete
  walk_at "akgo"
  refine ⟨N, ts, G, rfl, hl, good, hG, run, fun p S1 hS1 => ?_⟩
  refine q_ret (ev_less ?_)
  refine ev_andT ?_
  walk_at "akgo"
  refine ⟨rfl, ?_⟩
  (refine ev_stM (by decide +kernel) ?_; walk_at "akgo"; refine ⟨⟨_, hS1.f⟩, ?_⟩; walk_at "akgo")
  exact ⟨S, p, _, rfl, hS1, good.ok _ gl, fun S2 hS2 => ⟨S, hS2.le, hq⟩⟩
def Net.feas (N : Net) : Bool := decide ((st0 N).defL = [])
theorem st0_ok {N : Net} (ok : N.Ok) : (st0 N).Ok := by
  have h5 := ok.n5
  have hl := ok.l16
  refine ⟨ok, by unfold st0; rw [List.length_map, List.length_zipIdx], fun row hr q hq => ?_, fun row hr => ?_, fun l hl => List.mem_range.mp hl⟩
  · obtain ⟨z, hz, rfl⟩ := List.mem_map.mp hr
    obtain ⟨k, hk, rfl⟩ := List.mem_map.mp hq
    obtain ⟨i, hi, e⟩ := List.mem_iff_getElem.mp hz
    have h1 : N.nodes.zipIdx[i]? = some z := by rw [List.getElem?_eq_getElem hi, e]
    obtain ⟨m1, m2, m3⟩ := zipIdx_mem h1
    refine ⟨z.1, ?_, List.mem_range.mp hk⟩
    show N.nodes[z.2]? = _
    rw [m3]
    exact m2
  · obtain ⟨z, hz, rfl⟩ := List.mem_map.mp hr
    obtain ⟨i, hi, e⟩ := List.mem_iff_getElem.mp hz
    have h1 : N.nodes.zipIdx[i]? = some z := by rw [List.getElem?_eq_getElem hi, e]
    have h4 := ok.ms4 _ (zipIdx_mem h1).1
    show (row0 z).length + (List.range N.links.length).length ≤ 40
    unfold row0
    rw [List.length_map, List.length_range, List.length_range]
    omega
def p_is_feasible (K : PySem.W.Frag) : Phi := fun S ds P => ∃ N, ds = [netD K N] ∧ N.Ok ∧ P S (.bl N.feas)
theorem sx_is_feasible (T : Top K mg) (S : Sto) (ds : List D) (Q : Sto → D → Prop) (h : p_is_feasible K S ds Q) : Sx S (startD N_is_feasible.length ds) (t_is_feasible K (p_State_init K) (p_State_deficient K)) { nx := fun S' _ => Q S' .non, rt := Q } := by
  obtain ⟨N, rfl, ok, hq⟩ := h
  unfold t_is_feasible
  refine q_ret (ev_less ?_)
  walk_at "akgo"
  refine ev_meth ?_
  refine ev_state ?_
  walk_at "akgo"
  refine ⟨ok, fun p S1 hS1 => ?_⟩
  obtain ⟨m, t, hx⟩ := hS1.at_.f
  refine ⟨⟨_, _, hx, by decide +kernel⟩, ?_⟩
  walk_at "akgo"
  refine ⟨S, p, _, rfl, hS1.at_, st0_ok ok, fun S2 hS2 => ?_⟩
  refine ev_lst ?_
  walk_at "akgo"
  refine ⟨by simp, ?_⟩
  unfold intsD
  rw [intD_map]
  refine rd_eqL (ms := []) ⟨S, hS2.le, ?_⟩
  have e : decide ((List.map (fun n : Nat => (n : Int)) (st0 N).defL) = []) = N.feas := decide_eq_decide.mpr (by simp)
  rw [e]
  exact hq
def Net.add (N : Net) (l : Nat × Nat) : Net := ⟨N.v, N.nodes, N.links ++ [l]⟩
theorem Net.Ok.add {N : Net} (ok : N.Ok) {l : Nat × Nat} (h16 : N.links.length + 1 ≤ 16) (h1 : l.1 < N.nodes.length) (h2 : l.2 < N.nodes.length) (h3 : l.1 ≠ l.2) : (N.add l).Ok :=
  ⟨ok.v4, ok.n1, ok.n5, ok.ms4, ok.msv, by show (N.links ++ [l]).length ≤ 16; rw [List.length_append]; exact h16, fun k hk => by
    rcases List.mem_append.mp hk with h | h
    · exact ok.lks k h
    · have e : k = l := by simpa using h
      subst e
      exact ⟨h1, h2, h3⟩⟩
def p_with_link (K : PySem.W.Frag) : Phi := fun S ds P => ∃ N l, ds = [netD K N, lkD l] ∧ N.Ok ∧ N.links.length + 1 ≤ 16 ∧ l.1 < N.nodes.length ∧ l.2 < N.nodes.length ∧ l.1 ≠ l.2 ∧ P S (.bl (N.add l).feas)
theorem sx_with_link (T : Top K mg) (S : Sto) (ds : List D) (Q : Sto → D → Prop) (h : p_with_link K S ds Q) : Sx S (startD N_with_link.length ds) (t_with_link K p_is_link (p_Network_made K) (p_is_feasible K)) { nx := fun S' _ => Q S' .non, rt := Q } := by
  obtain ⟨N, l, rfl, ok, h16, h1, h2, h3, hq⟩ := h
  unfold t_with_link
  walk_at "akgo"
  refine q_no ?_
  walk_at "akgo"
  (refine ev_fld ?_; walk_at "akgo"; refine ⟨_, _, _, _, OV.o, T.c_Network, T.na_Network_nodes, (by with_unfolding_all rfl), ?_⟩)
  unfold nodesD
  walk_at "akgo"
  rw [List.length_map]
  refine ⟨_, l.1, l.2, rfl, ok.n5, h1, h2, h3, ?_⟩
  walk_at "akgo"
  refine ⟨rfl, ?_⟩
  walk_at "akgo"
  refine ev_cmeth ?_
  walk_at "akgo"
  refine ⟨rfl, ?_⟩
  walk_at "akgo"
  (refine ev_fld ?_; walk_at "akgo"; refine ⟨_, _, _, _, OV.o, T.c_Network, T.na_Network_variables, (by with_unfolding_all rfl), ?_⟩)
  walk_at "akgo"
  (refine ev_fld ?_; walk_at "akgo"; refine ⟨_, _, _, _, OV.o, T.c_Network, T.na_Network_nodes, (by with_unfolding_all rfl), ?_⟩)
  walk_at "akgo"
  (refine ev_fld ?_; walk_at "akgo"; refine ⟨_, _, _, _, OV.o, T.c_Network, T.na_Network_links, (by with_unfolding_all rfl), ?_⟩)
  walk_at "akgo"
  refine ⟨by simp, ?_⟩
  unfold linksD
  refine rd_catT (by simp; omega) ?_
  walk_at "akgo"
  refine ⟨N.add l, ?_, ok.add h16 h1 h2 h3, ?_⟩
  · unfold linksD Net.add
    rw [List.map_append]
    rfl
  walk_at "akgo"
  exact ⟨_, rfl, ok.add h16 h1 h2 h3, hq⟩
def allL (n : Nat) : List (Nat × Nat) := (List.range n).flatMap fun s => ((List.range n).filter fun r => decide (r ≠ s)).map fun r => (s, r)
def Net.helpL (N : Net) : List (Nat × Nat) := (allL N.nodes.length).filter fun l => (N.add l).feas
theorem ABC_take : ∀ n < 7, ABC6.take n = (List.range n).map (65 + ·) := by decide +kernel
theorem allL_len : ∀ n < 6, (allL n).length ≤ 20 := by decide +kernel
theorem allL_ok : ∀ n < 6, ∀ l ∈ allL n, l.1 < n ∧ l.2 < n ∧ l.1 ≠ l.2 := by decide +kernel
theorem flat_take {α β : Type} (f : α → List β) {l : List α} {i : Nat} {a : α} (h : l[i]? = some a) : (l.take (i + 1)).flatMap f = (l.take i).flatMap f ++ f a := by
  rw [take_succ_at h, List.flatMap_append]
  simp
def p_helping_links (K : PySem.W.Frag) : Phi := fun S ds P => ∃ N, ds = [netD K N] ∧ N.Ok ∧ N.links.length + 1 ≤ 16 ∧ P S (.tup (N.helpL.map lkD))
theorem sx_helping_links (T : Top K mg) (S : Sto) (ds : List D) (Q : Sto → D → Prop) (h : p_helping_links K S ds Q) : Sx S (startD N_helping_links.length ds) (t_helping_links K (p_Network_node_letters K) (p_with_link K)) { nx := fun S' _ => Q S' .non, rt := Q } := by
  obtain ⟨N, rfl, ok, h16, hq⟩ := h
  have h5 := ok.n5
  unfold t_helping_links
  walk_at "akgo"
  refine ev_meth ?_
  walk_at "akgo"
  refine ⟨⟨_, _, ov_net, by decide +kernel⟩, ?_⟩
  walk_at "akgo"
  refine ⟨N, rfl, ?_⟩
  rw [ABC_take _ (by omega)]
  walk_at "akgo"
  refine ev_lstH ?_
  walk_at "akgo"
  refine ⟨by simp, fun a ha => ?_⟩
  walk_at "akgo"
  refine q_forM (fun i : Nat => D.str (up i)) (List.range N.nodes.length) (fun (i : Nat) (S' : Sto) (ρ' : Env) => S' = S.put a (.lst ((((List.range N.nodes.length).take i).flatMap fun s => ((List.range N.nodes.length).filter fun r => decide (r ≠ s)).map fun r => (s, r)).map lkD)) ∧ ∃ x y z, ρ' = [some (netD K N), some (.str (tx ((List.range N.nodes.length).map (65 + ·)))), some (.ref a), x, y, z]) (evI_str ?_) ?_ ?_
  · walk_at "akgo"
    refine ⟨?_, fun _ _ _ _ _ => trivial, rfl, none, none, none, rfl⟩
    show signsD (tx ((List.range N.nodes.length).map (65 + ·))) = _
    rw [signs_tx, List.map_map]
    rfl
  · rintro i s S' ρ' hi ⟨rfl, x, y, z, rfl⟩
    have hil : i < N.nodes.length := by
      have := (List.getElem?_eq_some_iff.mp hi).1
      simpa using this
    have es : s = i := by
      rw [List.getElem?_range hil] at hi
      exact (Option.some.inj hi).symm
    subst es
    walk_at "akgo"
    refine ev_bm ?_
    walk_at "akgo"
    refine ⟨⟨rfl, _, put_same⟩, ?_⟩
    walk_at "akgo"
    refine ev_lcM (own_name (by decide)) (S.put a (.lst ((((List.range N.nodes.length).take s).flatMap fun s => ((List.range N.nodes.length).filter fun r => decide (r ≠ s)).map fun r => (s, r)).map lkD)) = ·) (fun i : Nat => D.str (up i)) (List.range N.nodes.length) (fun r => decide (r ≠ s)) (fun r => lkD (s, r)) (by rw [List.length_range]; omega) (evI_str ?_) ?_ ?_
    · walk_at "akgo"
      refine ⟨?_, fun _ _ => trivial, rfl⟩
      show signsD (tx ((List.range N.nodes.length).map (65 + ·))) = _
      rw [signs_tx, List.map_map]
      rfl
    · rintro r hr _ rfl
      walk_at "akgo"
      refine ⟨?_, fun hc => ?_, fun _ => rfl⟩
      · rw [← decide_not]
        exact decide_eq_decide.mpr (by simp)
      · walk_at "akgo"
        refine rd_addS (by simp [Str.length]) ⟨rfl, ?_⟩
        show D.str (tx [65 + s] ++ tx [65 + r]) = _
        rw [tx_append]
        rfl
    · rintro _ rfl
      walk_at "akgo"
      refine rm_extend put_same .o ?_ ?_
      · have z1 : (((List.range N.nodes.length).take s).flatMap fun s => ((List.range N.nodes.length).filter fun r => decide (r ≠ s)).map fun r => (s, r)).length ≤ (allL N.nodes.length).length := by
          unfold allL
          rw [List.length_flatMap, List.length_flatMap]
          have e := List.take_append_drop s (List.range N.nodes.length)
          have e2 : ((List.range N.nodes.length).map fun a => (((List.range N.nodes.length).filter fun r => decide (r ≠ a)).map fun r => (a, r)).length) = (((List.range N.nodes.length).take s).map fun a => (((List.range N.nodes.length).filter fun r => decide (r ≠ a)).map fun r => (a, r)).length) ++ (((List.range N.nodes.length).drop s).map fun a => (((List.range N.nodes.length).filter fun r => decide (r ≠ a)).map fun r => (a, r)).length) := by
            rw [← List.map_append, e]
          rw [e2, List.sum_append]
          exact Nat.le_add_right _ _
        have z2 := allL_len N.nodes.length (by omega)
        have z3 : ((List.range N.nodes.length).filter fun r => decide (r ≠ s)).length ≤ N.nodes.length := Nat.le_trans (List.length_filter_le ..) (by rw [List.length_range]; exact Nat.le_refl _)
        rw [List.length_map, List.length_map]
        omega
      · rw [put_put]
        refine ⟨?_, _, _, _, rfl⟩
        rw [flat_take _ (List.getElem?_range hil), List.map_append, List.map_map]
        rfl
  · rintro S' ρ' ⟨rfl, x, y, z, rfl⟩
    have e0 : (List.range N.nodes.length).take (List.range N.nodes.length).length = List.range N.nodes.length := List.take_length
    rw [e0]
    have eL : ((List.range N.nodes.length).flatMap fun s => ((List.range N.nodes.length).filter fun r => decide (r ≠ s)).map fun r => (s, r)) = allL N.nodes.length := rfl
    rw [eL]
    have hlen := allL_len N.nodes.length (by omega)
    refine q_ret (ev_less ?_)
    walk_at "akgo"
    refine ev_lcM (own_name (by decide)) (S.put a (.lst ((allL N.nodes.length).map lkD)) = ·) lkD (allL N.nodes.length) (fun l => (N.add l).feas) lkD (by omega) (evI_list ?_) ?_ ?_
    · walk_at "akgo"
      exact ⟨_, .h put_same, rfl, fun S' e => e ▸ .h put_same, rfl⟩
    · rintro l hl _ rfl
      obtain ⟨l1, l2, l3⟩ := allL_ok _ (by omega) l hl
      walk_at "akgo"
      refine ⟨N, l, rfl, ok, h16, l1, l2, l3, ?_⟩
      walk_at "akgo"
      refine ⟨rfl, fun _ => ?_, fun _ => rfl⟩
      walk_at "akgo"
      exact ⟨rfl, rfl⟩
    · rintro _ rfl
      walk_at "akgo"
      exact rc_tuple (.inl .o) ⟨S, SLe.put ha, hq⟩
end AK
set_option Elab.async false
set_option linter.all false
set_option maxRecDepth 100000
set_option maxHeartbeats 1000000
namespace AK
local macro_rules | `(tactic| walk_at "akgo") => `(tactic| (repeat (first | with_reducible refine q_seq ?_ | with_reducible refine q_asg ?_ | with_reducible refine q_drop ?_ | with_reducible refine q_ret ?_ | with_reducible refine q_next ?_ | with_reducible refine q_break ?_ | with_reducible refine ev_int ?_ | with_reducible refine ev_str ?_ | with_reducible refine ev_bl ?_ | with_reducible refine ev_non ?_ | with_reducible refine ev_ty ?_ | with_reducible refine ev_cls ?_ | with_reducible refine ev_op ?_ | with_reducible refine ev_un ?_ | with_reducible refine ev_cb ?_ | with_reducible refine evA_cons ?_ | with_reducible refine evA_nil ?_ | with_reducible refine rd_int ?_ | with_reducible refine rd_cmp ?_ | with_reducible refine r1_neg ?_ | with_reducible refine rd_eqI ?_ | with_reducible refine rd_neI ?_ | with_reducible refine rd_eqS ?_ | with_reducible refine rd_neS ?_ | with_reducible refine rd_neB ?_ | with_reducible refine rd_isN ?_ | with_reducible refine rd_notN ?_ | with_reducible refine rd_notB ?_ | with_reducible refine rd_inS ?_ | with_reducible refine rd_ninS ?_ | with_reducible refine evT_test ?_ | with_reducible refine evT_B ?_ | with_reducible refine evT_not ?_ | with_reducible refine evT_yes ?_ | with_reducible refine ev_notV ?_ | with_reducible refine rc_int ?_ | with_reducible refine rc_min2 ?_ | with_reducible refine rc_max2 ?_ | with_reducible refine rc_lenT ?_ | with_reducible refine q_asgG ?_ | with_reducible refine gds_nil ?_ | with_reducible refine gds_name ?_ | with_reducible refine ev_call ?_ | with_reducible refine gd_name ?_ | with_reducible refine ev_tup ?_ | with_reducible refine ev_var (by with_unfolding_all rfl) ?_ | with_reducible refine ⟨_, rfl, ?_⟩ | with_reducible refine gd_tup rfl ?_ | with_reducible refine rc_lenL LV.o ?_)))
open PySem PySem.Spec PyProof.Rows L2
variable {P : Program} {w : World} {K : PySem.W.Frag} {mg : Str → Option Value} {base : Heap}
/-- fewer cells are told behind a statement -/
theorem q_lowN {S : Sto} {ρ : Env} {ts : TS} {nx bk ct : Sto → Env → Prop} {rt : Sto → D → Prop} (h : Sx S ρ ts ⟨fun S' ρ' => ∃ S0, SLe S0 S' ∧ nx S0 ρ', rt, bk, ct⟩) : Sx S ρ ts ⟨nx, rt, bk, ct⟩ := fun F G H σ w s N c =>
  h F G H σ w s N ⟨fun S' ρ' G' H' σ' e w' s' ⟨S0, l, p⟩ => c.nx S0 ρ' G' H' σ' e (w'.less l) s' p, c.rt, c.bk, c.ct⟩
def Net.n (N : Net) : Nat := N.nodes.length
theorem st0_n (N : Net) : (st0 N).n = N.n := by
  unfold St.n st0 Net.n
  rw [List.length_map, List.length_zipIdx]
def Net.dem (N : Net) (X : Nat) : Int := (st0 N).dem X
def Net.ent (N : Net) (X : Nat) : List Nat := (st0 N).ent X
def ndRow (N : Net) (X : Nat) : D := .tup [intD X, .int (N.dem X), intsD (N.ent X)]
def NdF : List Str := ["nodes", "rows", "links"]
def ndV (N : Net) : List D := [intD N.n, .lst ((setsL N.n).map (ndRow N)), intsD (List.range N.links.length)]
def needD (K : PySem.W.Frag) (N : Net) : D := .ob (He.ga K "Needs") NdF (ndV N)
theorem Net.Ok.sl {N : Net} (ok : N.Ok) : (setsL N.n).length ≤ 31 := setsL_len _ (by have := ok.n5; unfold Net.n; omega)
def p_Needs_init (K : PySem.W.Frag) : Phi := fun S ds P => ∃ (S0 : Sto) (q : Addr) (N : Net), ds = [.ref q, netD K N] ∧ N.Ok ∧ S0 q = none ∧ S = S0.put q (.ins (He.ga K "Needs") [] []) ∧ P (S0.put q (.ins (He.ga K "Needs") NdF (ndV N))) .non
theorem sx_Needs_init (T : Top K mg) (S : Sto) (ds : List D) (Q : Sto → D → Prop) (h : p_Needs_init K S ds Q) : Sx S (startD N_Needs_init.length ds) (t_Needs_init K (p_State_init K) (p_State_sets K) (p_State_demand K) (p_State_entering K)) { nx := fun S' _ => Q S' .non, rt := Q } := by
  obtain ⟨S0, q, N, rfl, ok, hq0, rfl, hq⟩ := h
  have ok0 := st0_ok ok
  have hsl := ok.sl
  have h16 := ok.l16
  unfold t_Needs_init
  walk_at "akgo"
  refine ev_state ?_
  walk_at "akgo"
  refine ⟨ok, fun p S1 hS1 => ?_⟩
  have hA := hS1.at_
  have e1 : S1 q = some (.ins (He.ga K "Needs") [] []) := hA.le _ _ put_same
  walk_at "akgo"
  refine q_fld ?_
  walk_at "akgo"
  (refine ev_fld ?_; walk_at "akgo"; refine ⟨_, _, _, _, OV.o, T.c_Network, T.na_Network_nodes, (by with_unfolding_all rfl), ?_⟩)
  unfold nodesD
  walk_at "akgo"
  rw [List.length_map]
  refine ⟨_, _, _, _, rfl, e1, T.c_Needs, T.na_Needs_nodes, by decide, ?_⟩
  have hB := hA.put (a := q) (c := .ins (He.ga K "Needs") ["nodes"] [intD N.n]) (.inl (by rw [put_same]; simp))
  rw [put_put] at hB
  show Sx (S1.put q (.ins (He.ga K "Needs") ["nodes"] [intD N.n])) _ _ _
  walk_at "akgo"
  refine q_fld ?_
  refine ev_lcA (own_name (by decide)) (StAt K (S0.put q (.ins (He.ga K "Needs") ["nodes"] [intD N.n])) p (st0 N)) intD (setsL N.n) (ndRow N) (by omega) (evI_list ?_) ?_ ?_
  · (refine ev_stM (by decide +kernel) ?_; walk_at "akgo"; refine ⟨⟨_, hB.f⟩, ?_⟩; walk_at "akgo")
    refine ⟨_, st0 N, rfl, hB.f, ok0, ?_⟩
    rw [st0_n]
    exact ⟨_, .o, rfl, fun _ _ => .o, hB⟩
  · intro X hX S2 hS2
    have hX2 : X < 2 ^ (st0 N).n := (ok0.lt (by rw [st0_n]; exact hX)).2
    unfold intD
    walk_at "akgo"
    (refine ev_stM (by decide +kernel) ?_; walk_at "akgo"; refine ⟨⟨_, hS2.f⟩, ?_⟩; walk_at "akgo")
    refine ⟨_, p, _, X, rfl, hS2, ok0, hX2, fun S3 hS3 => ?_⟩
    walk_at "akgo"
    (refine ev_stM (by decide +kernel) ?_; walk_at "akgo"; refine ⟨⟨_, hS3.f⟩, ?_⟩; walk_at "akgo")
    refine ⟨_, _, X, rfl, hS3.f, ok0, ?_⟩
    walk_at "akgo"
    exact ⟨by simp, hS3, rfl⟩
  · intro S2 hS2
    walk_at "akgo"
    refine ⟨_, _, _, _, rfl, hS2.le _ _ put_same, T.c_Needs, T.na_Needs_rows, by decide, ?_⟩
    have hC := hS2.put (a := q) (c := .ins (He.ga K "Needs") ["nodes", "rows"] [intD N.n, .lst ((setsL N.n).map (ndRow N))]) (.inl (by rw [put_same]; simp))
    rw [put_put] at hC
    show Sx (S2.put q (.ins (He.ga K "Needs") ["nodes", "rows"] [intD N.n, .lst ((setsL N.n).map (ndRow N))])) _ _ _
    refine q_lowN (q_fld ?_)
    refine ev_listRg ?_
    walk_at "akgo"
    (refine ev_fld ?_; walk_at "akgo"; refine ⟨_, _, _, _, OV.o, T.c_Network, T.na_Network_links, (by with_unfolding_all rfl), ?_⟩)
    unfold linksD
    walk_at "akgo"
    rw [List.length_map]
    refine ⟨by omega, ?_⟩
    walk_at "akgo"
    refine ⟨_, _, _, _, rfl, put_same, T.c_Needs, T.na_Needs_links, by decide, ?_⟩
    have hD := hC.put (a := q) (c := .ins (He.ga K "Needs") NdF (ndV N)) (.inl (by rw [put_same]; simp))
    rw [put_put] at hD
    rw [put_put]
    refine ⟨_, ?_, hq⟩
    have z := hD.le
    rw [put_put] at z
    exact z
def enough (N : Net) (l : List Nat) : Bool := (setsL N.n).all fun X => decide (N.dem X ≤ (((N.ent X).filter fun x => decide (x ∈ l)).length : Nat))
def p_Needs_is_enough (K : PySem.W.Frag) : Phi := fun S ds P => ∃ (N : Net) (l : List Nat), ds = [needD K N, intsD l] ∧ N.Ok ∧ P S (.bl (enough N l))
theorem sx_Needs_is_enough (T : Top K mg) (S : Sto) (ds : List D) (Q : Sto → D → Prop) (h : p_Needs_is_enough K S ds Q) : Sx S (startD N_Needs_is_enough.length ds) (t_Needs_is_enough K) { nx := fun S' _ => Q S' .non, rt := Q } := by
  obtain ⟨N, l, rfl, ok, hq⟩ := h
  have ok0 := st0_ok ok
  have hsl := ok.sl
  have h40 := ok0.un40
  unfold t_Needs_is_enough
  walk_at "akgo"
  refine ev_lcA (own_tup (own_cons (by decide) (own_cons (by decide) (own_cons (by decide) own_nil)))) (S = ·) (ndRow N) (setsL N.n) (fun X => .bl (decide (N.dem X ≤ (((N.ent X).filter fun x => decide (x ∈ l)).length : Nat)))) (by omega) (evI_list ?_) ?_ ?_
  · (refine ev_fld ?_; walk_at "akgo"; refine ⟨_, _, _, _, OV.o, T.c_Needs, T.na_Needs_rows, (by with_unfolding_all rfl), ?_⟩)
    exact ⟨_, .o, rfl, fun _ _ => .o, rfl⟩
  · rintro X hX _ rfl
    have he : (N.ent X).length ≤ 40 := Nat.le_trans (List.length_filter_le ..) h40
    unfold ndRow
    walk_at "akgo"
    refine ev_lcM (own_name (by decide)) (S = ·) intD (N.ent X) (fun x => decide (x ∈ l)) intD (by omega) (evI_list ?_) ?_ ?_
    · walk_at "akgo"
      exact ⟨_, .o, rfl, fun _ _ => .o, rfl⟩
    · rintro x hx _ rfl
      unfold intD
      walk_at "akgo"
      refine rd_inI (lv_ints _) ?_
      walk_at "akgo"
      refine ⟨decide_eq_decide.mpr mem_cast, fun _ => ?_, fun _ => rfl⟩
      walk_at "akgo"
      exact ⟨rfl, rfl⟩
    · rintro _ rfl
      walk_at "akgo"
      refine ⟨rfl, ?_⟩
      rw [List.length_map]
  · rintro _ rfl
    walk_at "akgo"
    refine rc_all (bs := (setsL N.n).map fun X => decide (N.dem X ≤ (((N.ent X).filter fun x => decide (x ∈ l)).length : Nat))) (.inl (by simp only [List.map_map]; rfl)) ?_
    rw [all_mapG]
    exact hq
def p_Needs_of_node (K : PySem.W.Frag) : Phi := fun S ds P => ∃ (N : Net) (v : Nat), ds = [needD K N, .int v] ∧ N.Ok ∧ v < N.n ∧ P S (.tup [.int (N.dem (2 ^ v)), intsD (N.ent (2 ^ v))])
theorem sx_Needs_of_node (T : Top K mg) (S : Sto) (ds : List D) (Q : Sto → D → Prop) (h : p_Needs_of_node K S ds Q) : Sx S (startD N_Needs_of_node.length ds) (t_Needs_of_node K) { nx := fun S' _ => Q S' .non, rt := Q } := by
  obtain ⟨N, v, rfl, ok, hv, hq⟩ := h
  have hn : N.n ≤ 5 := ok.n5
  have hmem := setsL_mem N.n (by omega) (2 ^ v) (Nat.pow_lt_pow_right (by decide) hv) (Nat.two_pow_pos v)
  unfold t_Needs_of_node
  walk_at "akgo"
  refine q_forM (ndRow N) (setsL N.n) (fun (i : Nat) (S' : Sto) (ρ' : Env) => S = S' ∧ 2 ^ v ∉ (setsL N.n).take i ∧ ∃ x y z, ρ' = [some (needD K N), some (.int v), x, y, z]) (evI_list ?_) ?_ ?_
  · (refine ev_fld ?_; walk_at "akgo"; refine ⟨_, _, _, _, OV.o, T.c_Needs, T.na_Needs_rows, (by with_unfolding_all rfl), ?_⟩)
    exact ⟨_, .o, rfl, fun _ _ _ _ _ => .o, rfl, by simp, none, none, none, rfl⟩
  · rintro i X S' ρ' hi ⟨rfl, hno, x, y, z, rfl⟩
    unfold ndRow
    walk_at "akgo"
    refine q_if ?_
    unfold intD
    walk_at "akgo"
    refine rd_intC ⟨by omega, by omega, by decide⟩ ?_
    rw [shl_nat]
    walk_at "akgo"
    refine ⟨fun hc => ?_, fun hc => ?_⟩
    · have e : X = 2 ^ v := by
        have := of_decide_eq_true hc
        omega
      subst e
      walk_at "akgo"
      exact ⟨by simp, hq⟩
    · have e : X ≠ 2 ^ v := fun z => of_decide_eq_false hc (by omega)
      walk_at "akgo"
      refine ⟨rfl, ?_, _, _, _, rfl⟩
      rw [take_succ_at hi, List.mem_append]
      rintro (h | h)
      · exact hno h
      · have z : 2 ^ v = X := by simpa using h
        exact e z.symm
  · rintro S' ρ' ⟨rfl, hno, _⟩
    rw [List.take_length] at hno
    exact absurd hmem hno
/-! ### reduced -/
theorem ev_needs {S : Sto} {ρ : Env} {t : TA} {P : Sto → D → Prop} (h : EvA S ρ t fun S1 xs => ∃ N, xs = [netD K N] ∧ N.Ok ∧ P S1 (needD K N)) : Ev S ρ (tMake (He.ga K "Needs") (toSp (p_Needs_init K)) [] E0 t) P := by
  refine ev_frzO (ev_make ?_)
  refine fun F G H σ w s Q k => h F G H σ w s Q fun vs ds S' G' H' e w' p r => k vs ds S' G' H' e w' ?_ r
  obtain ⟨N, rfl, ok, hP⟩ := p
  intro a ha
  refine ⟨S', a, N, rfl, ok, ha, rfl, rfl, a, _, _, _, rfl, put_same, ?_⟩
  rw [del_put ha]
  exact hP
def redF (N : Net) (kept : List Nat) (l : Nat) : List Nat := if enough N (kept.filter fun x => decide (x ≠ l)) then kept.filter (fun x => decide (x ≠ l)) else kept
def redL (N : Net) : List Nat := (List.range N.links.length).foldl (redF N) (List.range N.links.length)
theorem redF_len (N : Net) : ∀ (l kept : List Nat), (l.foldl (redF N) kept).length ≤ kept.length
  | [], _ => Nat.le_refl _
  | a :: l, kept => by
    refine Nat.le_trans (redF_len N l _) ?_
    unfold redF
    split
    · exact List.length_filter_le ..
    · exact Nat.le_refl _
def p_reduced (K : PySem.W.Frag) : Phi := fun S ds P => ∃ N, ds = [netD K N] ∧ N.Ok ∧ (enough N (List.range N.links.length) = true → P S (.tup ((redL N).map intD))) ∧ (enough N (List.range N.links.length) = false → P S .non)
theorem sx_reduced (T : Top K mg) (S : Sto) (ds : List D) (Q : Sto → D → Prop) (h : p_reduced K S ds Q) : Sx S (startD N_reduced.length ds) (t_reduced K (p_Needs_init K) (p_Needs_is_enough K)) { nx := fun S' _ => Q S' .non, rt := Q } := by
  obtain ⟨N, rfl, ok, hq1, hq2⟩ := h
  have h16 := ok.l16
  unfold t_reduced
  walk_at "akgo"
  refine ev_needs ?_
  walk_at "akgo"
  refine ⟨ok, ?_⟩
  walk_at "akgo"
  refine q_if ?_
  walk_at "akgo"
  refine ev_meth ?_
  walk_at "akgo"
  refine ⟨⟨_, _, .o, by decide +kernel⟩, ?_⟩
  walk_at "akgo"
  (refine ev_fld ?_; walk_at "akgo"; refine ⟨_, _, _, _, OV.o, T.c_Needs, T.na_Needs_links, (by with_unfolding_all rfl), ?_⟩)
  walk_at "akgo"
  refine ⟨N, _, rfl, ok, ?_⟩
  walk_at "akgo"
  refine ⟨fun hc => ?_, fun hc => ?_⟩
  · walk_at "akgo"
    exact hq2 (by simpa using hc)
  · have he : enough N (List.range N.links.length) = true := by simpa using hc
    walk_at "akgo"
    (refine ev_fld ?_; walk_at "akgo"; refine ⟨_, _, _, _, OV.o, T.c_Needs, T.na_Needs_links, (by with_unfolding_all rfl), ?_⟩)
    walk_at "akgo"
    refine rc_list (l := (List.range N.links.length).map intD) (.inl .o) ?_
    walk_at "akgo"
    refine q_forM intD (List.range N.links.length) (fun (i : Nat) (S' : Sto) (ρ' : Env) => S = S' ∧ ∃ x y z, ρ' = [some (netD K N), some (needD K N), some (intsD (((List.range N.links.length).take i).foldl (redF N) (List.range N.links.length))), x, y, z]) (evI_list ?_) ?_ ?_
    · (refine ev_fld ?_; walk_at "akgo"; refine ⟨_, _, _, _, OV.o, T.c_Needs, T.na_Needs_links, (by with_unfolding_all rfl), ?_⟩)
      exact ⟨_, .o, rfl, fun _ _ _ _ _ => .o, rfl, none, none, none, rfl⟩
    · rintro i l S' ρ' hi ⟨rfl, x, y, z, rfl⟩
      have hlen := redF_len N ((List.range N.links.length).take i) (List.range N.links.length)
      rw [List.length_range] at hlen
      have hst : ((List.range N.links.length).take (i + 1)).foldl (redF N) (List.range N.links.length) = redF N (((List.range N.links.length).take i).foldl (redF N) (List.range N.links.length)) l := by
        rw [take_succ_at hi, List.foldl_append]
        rfl
      generalize hk : ((List.range N.links.length).take i).foldl (redF N) (List.range N.links.length) = kept at hlen hst ⊢
      unfold intD
      walk_at "akgo"
      refine ev_lcM (own_name (by decide)) (S = ·) intD kept (fun x => decide (x ≠ l)) intD (by omega) (evI_list ?_) ?_ ?_
      · walk_at "akgo"
        exact ⟨_, .o, rfl, fun _ _ => .o, rfl⟩
      · rintro x hx _ rfl
        unfold intD
        walk_at "akgo"
        refine ⟨?_, fun hc => ?_, fun _ => rfl⟩
        · rw [← decide_not]
          exact decide_eq_decide.mpr (by omega)
        · walk_at "akgo"
          exact ⟨rfl, rfl⟩
      · rintro _ rfl
        walk_at "akgo"
        refine q_if ?_
        walk_at "akgo"
        refine ev_meth ?_
        walk_at "akgo"
        refine ⟨⟨_, _, .o, by decide +kernel⟩, ?_⟩
        walk_at "akgo"
        refine ⟨N, _, rfl, ok, ?_⟩
        walk_at "akgo"
        refine ⟨fun hc => ?_, fun hc => ?_⟩
        · walk_at "akgo"
          refine ⟨rfl, some (.int l), some (intsD (kept.filter fun x => decide (x ≠ l))), z, ?_⟩
          rw [hst]
          unfold redF
          rw [if_pos hc]
          rfl
        · walk_at "akgo"
          refine ⟨rfl, some (.int l), some (intsD (kept.filter fun x => decide (x ≠ l))), z, ?_⟩
          rw [hst]
          unfold redF
          rw [if_neg (by rw [hc]; decide)]
          rfl
    · rintro S' ρ' ⟨rfl, x, y, z, rfl⟩
      have e0 : (List.range N.links.length).take (List.range N.links.length).length = List.range N.links.length := List.take_length
      rw [e0]
      walk_at "akgo"
      exact rc_tuple (l := (redL N).map intD) (.inl .o) (hq1 he)
end AK
set_option Elab.async false
set_option linter.all false
set_option maxRecDepth 100000
set_option maxHeartbeats 1000000
namespace AK
local macro_rules | `(tactic| walk_at "akgo") => `(tactic| (repeat (first | with_reducible refine q_seq ?_ | with_reducible refine q_asg ?_ | with_reducible refine q_drop ?_ | with_reducible refine q_ret ?_ | with_reducible refine q_next ?_ | with_reducible refine q_break ?_ | with_reducible refine ev_int ?_ | with_reducible refine ev_str ?_ | with_reducible refine ev_bl ?_ | with_reducible refine ev_non ?_ | with_reducible refine ev_ty ?_ | with_reducible refine ev_cls ?_ | with_reducible refine ev_op ?_ | with_reducible refine ev_un ?_ | with_reducible refine ev_cb ?_ | with_reducible refine evA_cons ?_ | with_reducible refine evA_nil ?_ | with_reducible refine rd_int ?_ | with_reducible refine rd_cmp ?_ | with_reducible refine r1_neg ?_ | with_reducible refine rd_eqI ?_ | with_reducible refine rd_neI ?_ | with_reducible refine rd_eqS ?_ | with_reducible refine rd_neS ?_ | with_reducible refine rd_neB ?_ | with_reducible refine rd_isN ?_ | with_reducible refine rd_notN ?_ | with_reducible refine rd_notB ?_ | with_reducible refine rd_inS ?_ | with_reducible refine rd_ninS ?_ | with_reducible refine evT_test ?_ | with_reducible refine evT_B ?_ | with_reducible refine evT_not ?_ | with_reducible refine evT_yes ?_ | with_reducible refine ev_notV ?_ | with_reducible refine rc_int ?_ | with_reducible refine rc_min2 ?_ | with_reducible refine rc_max2 ?_ | with_reducible refine rc_lenT ?_ | with_reducible refine q_asgG ?_ | with_reducible refine gds_nil ?_ | with_reducible refine gds_name ?_ | with_reducible refine ev_call ?_ | with_reducible refine gd_name ?_ | with_reducible refine ev_tup ?_ | with_reducible refine ev_var (by with_unfolding_all rfl) ?_ | with_reducible refine ⟨_, rfl, ?_⟩ | with_reducible refine gd_tup rfl ?_ | with_reducible refine rc_lenL LV.o ?_)))
open PySem PySem.Spec PyProof.Rows L2
variable {P : Program} {w : World} {K : PySem.W.Frag} {mg : Str → Option Value} {base : Heap}
/-! ### chosen -/
def chStep (m : Int) (found : List (List Nat)) (l : Nat) : List (List Nat) := found ++ (found.filter fun r => decide ((r.length : Int) < m)).map fun r => r ++ [l]
def chG (m : Int) (links : List Nat) : List (List Nat) := links.foldl (chStep m) [[]]
def chosenL (links : List Nat) (m : Int) : List (List Nat) := (chG m links).filter fun r => decide ((r.length : Int) = m)
theorem chG_snoc (m : Int) (l : List Nat) (a : Nat) : chG m (l ++ [a]) = chStep m (chG m l) a := by
  unfold chG
  rw [List.foldl_append]
  rfl
theorem chG_rec {p : List Nat → List (List Nat) → Prop} (m : Int) (h0 : p [] [[]]) (hs : ∀ l a, p l (chG m l) → p (l ++ [a]) (chStep m (chG m l) a)) (l : List Nat) : p l (chG m l) := by
  have all : ∀ r : List Nat, p r.reverse (chG m r.reverse) := by
    intro r
    induction r with
    | nil => exact h0
    | cons a r ih =>
      rw [List.reverse_cons, chG_snoc]
      exact hs _ _ ih
  have z := all l.reverse
  rw [List.reverse_reverse] at z
  exact z
theorem chG_len (m : Int) (l : List Nat) : (chG m l).length ≤ 2 ^ l.length := by
  refine chG_rec (p := fun l f => f.length ≤ 2 ^ l.length) m (by simp) (fun l a h => ?_) l
  unfold chStep
  have z : ((chG m l).filter fun r => decide ((r.length : Int) < m)).length ≤ (chG m l).length := List.length_filter_le ..
  rw [List.length_append, List.length_map, List.length_append, List.length_singleton, Nat.pow_succ]
  omega
theorem chG_sub (m : Int) (l : List Nat) : ∀ r ∈ chG m l, r.Sublist l := by
  refine chG_rec (p := fun l f => ∀ r ∈ f, r.Sublist l) m (fun r h => ?_) (fun l a h r hr => ?_) l
  · have e : r = [] := by simpa using h
    rw [e]
    exact List.Sublist.refl _
  · unfold chStep at hr
    rcases List.mem_append.mp hr with h1 | h1
    · exact (h r h1).trans (List.sublist_append_left _ _)
    · obtain ⟨q, hq, rfl⟩ := List.mem_map.mp h1
      exact (h q (List.mem_filter.mp hq).1).append (List.Sublist.refl _)
def p_chosen : Phi := fun S ds P => ∃ (links : List Nat) (m : Int), ds = [intsD links, .int m] ∧ links.length ≤ 16 ∧ P S (.lst ((chosenL links m).map tupD))
theorem sx_chosen (S : Sto) (ds : List D) (Q : Sto → D → Prop) (h : p_chosen S ds Q) : Sx S (startD N_chosen.length ds) (t_chosen K) { nx := fun S' _ => Q S' .non, rt := Q } := by
  obtain ⟨links, m, rfl, h16, hq⟩ := h
  unfold t_chosen
  walk_at "akgo"
  refine ev_lstH ?_
  walk_at "akgo"
  refine ⟨by simp, ?_⟩
  walk_at "akgo"
  refine ⟨by simp, fun a ha => ?_⟩
  walk_at "akgo"
  have bnd : ∀ i, i ≤ links.length → (chG m (links.take i)).length ≤ 65536 := fun i hi => by
    have z := chG_len m (links.take i)
    rw [List.length_take, Nat.min_eq_left hi] at z
    exact Nat.le_trans z (Nat.le_trans (Nat.pow_le_pow_right (by decide) (by omega : i ≤ 16)) (by decide))
  have sub : ∀ i, ∀ r ∈ chG m (links.take i), r.length ≤ 16 := fun i r hr => by
    have z := (chG_sub m _ r hr).length_le
    rw [List.length_take] at z
    omega
  refine q_forM intD links (fun (i : Nat) (S' : Sto) (ρ' : Env) => S' = S.put a (.lst ((chG m (links.take i)).map tupD)) ∧ ∃ x y, ρ' = [some (intsD links), some (.int m), some (.ref a), x, y]) (evI_list ?_) ?_ ?_
  · walk_at "akgo"
    exact ⟨_, .o, rfl, fun _ _ _ _ _ => .o, rfl, none, none, rfl⟩
  · rintro i l S' ρ' hi ⟨rfl, x, y, rfl⟩
    have hil := (List.getElem?_eq_some_iff.mp hi).1
    have b1 := bnd i (by omega)
    unfold intD
    walk_at "akgo"
    refine ev_bm ?_
    walk_at "akgo"
    refine ⟨⟨rfl, _, put_same⟩, ?_⟩
    walk_at "akgo"
    refine ev_lcM (own_name (by decide)) (S.put a (.lst ((chG m (links.take i)).map tupD)) = ·) tupD (chG m (links.take i)) (fun r => decide ((r.length : Int) < m)) (fun r => tupD (r ++ [l])) (by omega) (evI_list ?_) ?_ ?_
    · walk_at "akgo"
      exact ⟨_, .h put_same, rfl, fun S' e => e ▸ .h put_same, rfl⟩
    · rintro r hr _ rfl
      have h1 := sub i r hr
      walk_at "akgo"
      refine rc_lenT ?_
      walk_at "akgo"
      refine ⟨by rw [List.length_map], fun _ => ?_, fun _ => rfl⟩
      walk_at "akgo"
      refine ⟨by simp, ?_⟩
      refine rd_catT (by simp; omega) ⟨rfl, ?_⟩
      unfold tupD
      rw [List.map_append]
      rfl
    · rintro _ rfl
      walk_at "akgo"
      have z : ((chG m (links.take i)).filter fun r => decide ((r.length : Int) < m)).length ≤ (chG m (links.take i)).length := List.length_filter_le ..
      refine rm_extend put_same .o (by rw [List.length_map, List.length_map]; omega) ?_
      rw [put_put]
      refine ⟨?_, _, _, rfl⟩
      rw [take_succ_at hi, chG_snoc]
      unfold chStep
      rw [List.map_append, List.map_map]
      rfl
  · rintro S' ρ' ⟨rfl, x, y, rfl⟩
    have b1 := bnd links.length (Nat.le_refl _)
    rw [List.take_length] at b1 ⊢
    refine q_ret (ev_less ?_)
    refine ev_lcM (own_name (by decide)) (S.put a (.lst ((chG m links).map tupD)) = ·) tupD (chG m links) (fun r => decide ((r.length : Int) = m)) tupD (by omega) (evI_list ?_) ?_ ?_
    · walk_at "akgo"
      exact ⟨_, .h put_same, rfl, fun S' e => e ▸ .h put_same, rfl⟩
    · rintro r hr _ rfl
      walk_at "akgo"
      refine rc_lenT ?_
      walk_at "akgo"
      refine ⟨by rw [List.length_map], fun _ => ?_, fun _ => rfl⟩
      walk_at "akgo"
      exact ⟨rfl, rfl⟩
    · rintro _ rfl
      exact ⟨S, SLe.put ha, hq⟩
/-! ### least_sets -/
theorem count_split (u : List Nat) (g : Nat → Nat) (p : Nat → Bool) (k : Nat) (h : ∀ l, p l = true → g l = k) : (u.filter fun l => decide (g l < k)).length + (u.filter p).length ≤ (u.filter fun l => decide (g l < k + 1)).length := by
  induction u with
  | nil => simp
  | cons a u ih =>
    simp only [List.filter_cons]
    by_cases h1 : p a = true
    · have e := h a h1
      have h2 : decide (g a < k) = false := decide_eq_false (by omega)
      have h3 : decide (g a < k + 1) = true := decide_eq_true (by omega)
      rw [if_pos h1, h2, h3]
      simp only [Bool.false_eq_true, if_false, if_true, List.length_cons]
      omega
    · rw [if_neg h1]
      by_cases h2 : g a < k
      · have h3 : decide (g a < k + 1) = true := decide_eq_true (by omega)
        rw [decide_eq_true h2, h3]
        simp only [if_true, List.length_cons]
        omega
      · rw [decide_eq_false h2]
        by_cases h3 : g a < k + 1
        · rw [decide_eq_true h3]
          simp only [Bool.false_eq_true, if_false, if_true, List.length_cons]
          omega
        · rw [decide_eq_false h3]
          simp only [Bool.false_eq_true, if_false]
          exact ih
theorem sum_split (u : List Nat) (g : Nat → Nat) (p : Nat → Nat → Bool) (h : ∀ v l, p v l = true → g l = v) (k : Nat) : ((List.range k).map fun v => (u.filter (p v)).length).sum ≤ (u.filter fun l => decide (g l < k)).length := by
  induction k with
  | zero => simp
  | succ k ih =>
    rw [List.range_succ, List.map_append, List.sum_append]
    have z := count_split u g (p k) k (h k)
    simp only [List.map_cons, List.map_nil, List.sum_cons, List.sum_nil]
    omega
theorem inX_one {v : Nat} {l : Nat × Nat} (h : inX (2 ^ v) l = true) : l.2 = v := by
  unfold inX at h
  rw [Bool.and_eq_true, Nat.testBit_two_pow] at h
  have := of_decide_eq_true h.1
  omega
theorem ent_sum (N : Net) (k : Nat) : ((List.range k).map fun v => (N.ent (2 ^ v)).length).sum ≤ N.links.length := by
  refine Nat.le_trans (sum_split (st0 N).unused (fun l => (N.link l).2) (fun v l => inX (2 ^ v) (N.link l)) (fun v l h => inX_one h) k) ?_
  refine Nat.le_trans (List.length_filter_le ..) ?_
  show (List.range N.links.length).length ≤ _
  rw [List.length_range]
  exact Nat.le_refl _
def waysL (N : Net) (v : Nat) : List (List Nat) := chosenL (N.ent (2 ^ v)) (N.dem (2 ^ v))
def prodF (N : Net) (found : List (List Nat)) (v : Nat) : List (List Nat) := found.flatMap fun row => (waysL N v).map fun way => row ++ way
def prodL (N : Net) (k : Nat) : List (List Nat) := (List.range k).foldl (prodF N) [[]]
theorem prodL_succ (N : Net) (k : Nat) : prodL N (k + 1) = prodF N (prodL N k) k := by
  unfold prodL
  rw [List.range_succ, List.foldl_append]
  rfl
theorem ways_len (N : Net) (v : Nat) : (waysL N v).length ≤ 2 ^ (N.ent (2 ^ v)).length := Nat.le_trans (List.length_filter_le ..) (chG_len _ _)
theorem flat_len {α : Type} (f : List (List Nat)) (W : List α) (g : List Nat → α → List Nat) : (f.flatMap fun row => W.map (g row)).length = f.length * W.length := by
  induction f with
  | nil => simp
  | cons r f ih => rw [List.flatMap_cons, List.length_append, ih, List.length_map, List.length_cons, Nat.succ_mul, Nat.add_comm]
theorem prodL_len (N : Net) (k : Nat) : (prodL N k).length ≤ 2 ^ ((List.range k).map fun v => (N.ent (2 ^ v)).length).sum := by
  induction k with
  | zero => simp [prodL]
  | succ k ih =>
    rw [prodL_succ]
    unfold prodF
    rw [flat_len, List.range_succ, List.map_append, List.sum_append, Nat.pow_add]
    simp only [List.map_cons, List.map_nil, List.sum_cons, List.sum_nil, Nat.add_zero]
    exact Nat.mul_le_mul ih (ways_len N k)
theorem prodL_rows (N : Net) (k : Nat) : ∀ row ∈ prodL N k, row.length ≤ ((List.range k).map fun v => (N.ent (2 ^ v)).length).sum ∧ ∀ l ∈ row, l < N.links.length := by
  induction k with
  | zero =>
    intro row h
    have e : row = [] := by simpa [prodL] using h
    rw [e]
    exact ⟨Nat.zero_le _, fun l h => absurd h (by simp)⟩
  | succ k ih =>
    intro row h
    rw [prodL_succ] at h
    obtain ⟨r, hr, h2⟩ := List.mem_flatMap.mp h
    obtain ⟨way, hw, rfl⟩ := List.mem_map.mp h2
    obtain ⟨i1, i2⟩ := ih r hr
    have hs := chG_sub _ _ way (List.mem_filter.mp hw).1
    refine ⟨?_, fun l hl => ?_⟩
    · rw [List.range_succ, List.map_append, List.sum_append, List.length_append]
      simp only [List.map_cons, List.map_nil, List.sum_cons, List.sum_nil, Nat.add_zero]
      exact Nat.add_le_add i1 hs.length_le
    · rcases List.mem_append.mp hl with h | h
      · exact i2 l h
      · have z := hs.mem h
        exact List.mem_range.mp (List.mem_filter.mp z).1
def insA (x : Nat) : List Nat → List Nat
  | [] => [x]
  | y :: l => if x ≤ y then x :: y :: l else y :: insA x l
def sortA (l : List Nat) : List Nat := l.foldr insA []
theorem insA_perm (x : Nat) : ∀ l : List Nat, (insA x l).Perm (x :: l)
  | [] => .refl _
  | y :: l => by
    unfold insA
    split
    · exact .refl _
    · exact ((insA_perm x l).cons y).trans (.swap ..)
theorem insA_sorted (x : Nat) : ∀ l : List Nat, l.Pairwise (· ≤ ·) → (insA x l).Pairwise (· ≤ ·)
  | [], _ => by simp [insA]
  | y :: l, h => by
    unfold insA
    obtain ⟨h1, h2⟩ := List.pairwise_cons.mp h
    split
    · rename_i hy
      refine List.pairwise_cons.mpr ⟨fun z hz => ?_, h⟩
      rcases List.mem_cons.mp hz with e | e
      · subst e
        exact hy
      · exact Nat.le_trans hy (h1 z e)
    · rename_i hy
      refine List.pairwise_cons.mpr ⟨fun z hz => ?_, insA_sorted x l h2⟩
      rcases List.mem_cons.mp ((insA_perm x l).mem_iff.mp hz) with e | e
      · subst e
        omega
      · exact h1 z e
theorem sortA_perm : ∀ l : List Nat, (sortA l).Perm l
  | [] => .refl _
  | x :: l => (insA_perm x _).trans ((sortA_perm l).cons x)
theorem sortA_sorted : ∀ l : List Nat, (sortA l).Pairwise (· ≤ ·)
  | [] => List.Pairwise.nil
  | x :: l => insA_sorted x _ (sortA_sorted l)
theorem sorted_uniqueA {ns ms : List Int} (p : ns.Perm ms) (h1 : ns.Pairwise (· ≤ ·)) (h2 : ms.Pairwise (· ≤ ·)) : ns = ms :=
  List.Perm.eq_of_pairwise (le := (· ≤ ·)) (fun a b _ _ h1 h2 => by omega) h1 h2 p
theorem int_pwA {l : List Nat} (h : l.Pairwise (· ≤ ·)) : (l.map fun n : Nat => (n : Int)).Pairwise (· ≤ ·) := by
  rw [List.pairwise_map]
  exact h.imp fun h => by omega
/-- sorted of small numbers -/
theorem rc_sortA {S : Sto} {x : D} {l : List Nat} {P : Sto → D → Prop} (h : LV S x (l.map intD)) (hl : l.length < 64) (q : P S (intsD (sortA l))) : RCD (rSorted K) S [x] P := by
  rw [intD_map] at h
  refine rc_sortedI h (by rw [List.length_map]; exact hl) fun ns' pm so => ?_
  have e : ns' = (sortA l).map fun n : Nat => (n : Int) := sorted_uniqueA (pm.trans ((sortA_perm l).symm.map _)) so (int_pwA (sortA_sorted l))
  rw [e, ← intD_map]
  exact q
def leastL (N : Net) : List (List Nat) := ((prodL N N.n).filter (enough N)).map sortA
theorem leastL_lt {N : Net} : ∀ row ∈ leastL N, row.length ≤ N.links.length ∧ ∀ l ∈ row, l < N.links.length := by
  intro row h
  obtain ⟨r, hr, rfl⟩ := List.mem_map.mp h
  obtain ⟨h1, h2⟩ := prodL_rows N N.n r (List.mem_filter.mp hr).1
  exact ⟨by rw [(sortA_perm r).length_eq]; exact Nat.le_trans h1 (ent_sum N _), fun l hl => h2 l ((sortA_perm r).mem_iff.mp hl)⟩
theorem leastL_len {N : Net} (ok : N.Ok) : (leastL N).length ≤ 65536 := by
  unfold leastL
  rw [List.length_map]
  refine Nat.le_trans (List.length_filter_le ..) (Nat.le_trans (prodL_len N _) ?_)
  exact Nat.le_trans (Nat.pow_le_pow_right (by decide) (Nat.le_trans (ent_sum N _) ok.l16)) (by decide)
theorem dem_nat : True := trivial
def p_least_sets (K : PySem.W.Frag) : Phi := fun S ds P => ∃ N, ds = [needD K N] ∧ N.Ok ∧ P S (.lst ((leastL N).map intsD))
theorem sx_least_sets (T : Top K mg) (S : Sto) (ds : List D) (Q : Sto → D → Prop) (h : p_least_sets K S ds Q) : Sx S (startD N_least_sets.length ds) (t_least_sets K (p_Needs_of_node K) p_chosen (p_Needs_is_enough K)) { nx := fun S' _ => Q S' .non, rt := Q } := by
  obtain ⟨N, rfl, ok, hq⟩ := h
  have hn : N.n ≤ 5 := ok.n5
  have h16 := ok.l16
  have bS : ∀ k, ((List.range k).map fun v => (N.ent (2 ^ v)).length).sum ≤ 16 := fun k => Nat.le_trans (ent_sum N k) h16
  have bP : ∀ k, (prodL N k).length ≤ 65536 := fun k => Nat.le_trans (prodL_len N k) (Nat.le_trans (Nat.pow_le_pow_right (by decide) (bS k)) (by decide))
  have bE : ∀ v, (N.ent (2 ^ v)).length ≤ 16 := fun v => by
    refine Nat.le_trans (List.length_filter_le ..) ?_
    show (List.range N.links.length).length ≤ _
    rw [List.length_range]
    exact h16
  unfold t_least_sets
  walk_at "akgo"
  refine ev_lst ?_
  refine evA_cons (ev_lst ?_)
  walk_at "akgo"
  refine ⟨by simp, ?_⟩
  walk_at "akgo"
  refine ⟨by simp, ?_⟩
  walk_at "akgo"
  refine q_forM intD (List.range N.n) (fun (i : Nat) (S' : Sto) (ρ' : Env) => S = S' ∧ ∃ x y z u v r s, ρ' = [some (needD K N), some (.lst ((prodL N i).map intsD)), x, y, z, u, v, r, s]) (evI_rng1 ?_) ?_ ?_
  · walk_at "akgo"
    (refine ev_fld ?_; walk_at "akgo"; refine ⟨_, _, _, _, OV.o, T.c_Needs, T.na_Needs_nodes, (by with_unfolding_all rfl), ?_⟩)
    unfold intD
    walk_at "akgo"
    exact ⟨by omega, by omega, rangeD_nat _, fun _ _ _ _ _ => trivial, rfl, none, none, none, none, none, none, none, rfl⟩
  · rintro i a S' ρ' hi ⟨rfl, x, y, z, u, v, r, s, rfl⟩
    have hin : i < N.n := by
      have := (List.getElem?_eq_some_iff.mp hi).1
      simpa using this
    have ei : a = i := by
      rw [List.getElem?_range hin] at hi
      exact (Option.some.inj hi).symm
    subst ei
    have bW : (waysL N a).length ≤ 65536 := Nat.le_trans (ways_len N a) (Nat.le_trans (Nat.pow_le_pow_right (by decide) (bE a)) (by decide))
    have bM : (prodL N a).length * (waysL N a).length ≤ 65536 := by
      have z := bP (a + 1)
      rw [prodL_succ] at z
      unfold prodF at z
      rw [flat_len] at z
      exact z
    unfold intD
    walk_at "akgo"
    refine ev_meth ?_
    walk_at "akgo"
    refine ⟨⟨_, _, .o, by decide +kernel⟩, ?_⟩
    walk_at "akgo"
    refine ⟨N, a, rfl, ok, hin, ?_⟩
    walk_at "akgo"
    refine ⟨_, _, rfl, bE a, ?_⟩
    walk_at "akgo"
    refine ev_lstH ?_
    walk_at "akgo"
    refine ⟨by simp, fun b hb => ?_⟩
    walk_at "akgo"
    refine q_forM intsD (prodL N a) (fun (j : Nat) (S' : Sto) (ρ' : Env) => S' = S.put b (.lst ((((prodL N a).take j).flatMap fun row => (waysL N a).map fun way => row ++ way).map intsD)) ∧ ∃ y z r s, ρ' = [some (needD K N), some (.lst ((prodL N a).map intsD)), some (.int a), y, z, some (.lst ((waysL N a).map tupD)), some (.ref b), r, s]) (evI_list ?_) ?_ ?_
    · walk_at "akgo"
      exact ⟨_, .o, rfl, fun _ _ _ _ _ => .o, rfl, _, _, r, s, rfl⟩
    · rintro j row S' ρ' hj ⟨rfl, y, z, r, s, rfl⟩
      have hrow := prodL_rows N a row (List.mem_of_getElem? hj)
      have hr16 : row.length ≤ 16 := Nat.le_trans hrow.1 (bS a)
      have hjl := (List.getElem?_eq_some_iff.mp hj).1
      have hpl : (((prodL N a).take j).flatMap fun row => (waysL N a).map fun way => row ++ way).length + (waysL N a).length ≤ 65536 := by
        rw [flat_len (g := fun row way => row ++ way), List.length_take, Nat.min_eq_left (by omega)]
        have z : (j + 1) * (waysL N a).length ≤ (prodL N a).length * (waysL N a).length := Nat.mul_le_mul_right _ hjl
        rw [Nat.succ_mul] at z
        omega
      walk_at "akgo"
      refine ev_bm ?_
      walk_at "akgo"
      refine ⟨⟨rfl, _, put_same⟩, ?_⟩
      walk_at "akgo"
      refine ev_lcA (own_name (by decide)) (S.put b (.lst ((((prodL N a).take j).flatMap fun row => (waysL N a).map fun way => row ++ way).map intsD)) = ·) tupD (waysL N a) (fun way => intsD (row ++ way)) (by omega) (evI_list ?_) ?_ ?_
      · walk_at "akgo"
        exact ⟨_, .o, rfl, fun _ _ => .o, rfl⟩
      · rintro way hway _ rfl
        have hw16 : way.length ≤ 16 := Nat.le_trans (chG_sub _ _ way (List.mem_filter.mp hway).1).length_le (bE a)
        walk_at "akgo"
        refine rc_list (l := way.map intD) (.inr rfl) ?_
        refine rd_cat (l := row.map intD) .o .o (by rw [List.length_map, List.length_map]; omega) ⟨rfl, ?_⟩
        rw [← List.map_append]
        rfl
      · rintro _ rfl
        walk_at "akgo"
        refine rm_extend put_same .o (by rw [List.length_map, List.length_map]; omega) ?_
        rw [put_put]
        refine ⟨?_, _, _, _, _, rfl⟩
        rw [flat_take _ hj, List.map_append, List.map_map]
        rfl
    · rintro S' ρ' ⟨rfl, y, z, r, s, rfl⟩
      rw [List.take_length]
      refine q_asg (ev_frzL ?_)
      walk_at "akgo"
      refine ⟨_, _, rfl, put_same, ?_⟩
      rw [del_put hb]
      refine ⟨rfl, some (.int a), y, z, some (.lst ((waysL N a).map tupD)), some (.ref b), r, s, ?_⟩
      rw [prodL_succ]
      rfl
  · rintro S' ρ' ⟨rfl, x, y, z, u, v, r, s, rfl⟩
    rw [List.length_range]
    have b1 := bP N.n
    walk_at "akgo"
    refine ev_lcM (own_name (by decide)) (S = ·) intsD (prodL N N.n) (enough N) (fun row => intsD (sortA row)) (by omega) (evI_list ?_) ?_ ?_
    · walk_at "akgo"
      exact ⟨_, .o, rfl, fun _ _ => .o, rfl⟩
    · rintro row hrow _ rfl
      have hr16 : row.length ≤ 16 := Nat.le_trans (prodL_rows N _ row hrow).1 (bS _)
      walk_at "akgo"
      refine ev_meth ?_
      walk_at "akgo"
      refine ⟨⟨_, _, .o, by decide +kernel⟩, ?_⟩
      walk_at "akgo"
      refine ⟨N, row, rfl, ok, ?_⟩
      walk_at "akgo"
      refine ⟨rfl, fun _ => ?_, fun _ => rfl⟩
      walk_at "akgo"
      exact rc_sortA .o (by omega) ⟨rfl, rfl⟩
    · rintro _ rfl
      have e : (leastL N).map intsD = ((prodL N N.n).filter (enough N)).map fun row => intsD (sortA row) := by
        unfold leastL
        rw [List.map_map]
        rfl
      rw [e] at hq
      exact hq
end AK
set_option Elab.async false
set_option linter.all false
set_option maxRecDepth 100000
set_option maxHeartbeats 1000000
namespace AK
local macro_rules | `(tactic| walk_at "akgo") => `(tactic| (repeat (first | with_reducible refine q_seq ?_ | with_reducible refine q_asg ?_ | with_reducible refine q_drop ?_ | with_reducible refine q_ret ?_ | with_reducible refine q_next ?_ | with_reducible refine q_break ?_ | with_reducible refine ev_int ?_ | with_reducible refine ev_str ?_ | with_reducible refine ev_bl ?_ | with_reducible refine ev_non ?_ | with_reducible refine ev_ty ?_ | with_reducible refine ev_cls ?_ | with_reducible refine ev_op ?_ | with_reducible refine ev_un ?_ | with_reducible refine ev_cb ?_ | with_reducible refine evA_cons ?_ | with_reducible refine evA_nil ?_ | with_reducible refine rd_int ?_ | with_reducible refine rd_cmp ?_ | with_reducible refine r1_neg ?_ | with_reducible refine rd_eqI ?_ | with_reducible refine rd_neI ?_ | with_reducible refine rd_eqS ?_ | with_reducible refine rd_neS ?_ | with_reducible refine rd_neB ?_ | with_reducible refine rd_isN ?_ | with_reducible refine rd_notN ?_ | with_reducible refine rd_notB ?_ | with_reducible refine rd_inS ?_ | with_reducible refine rd_ninS ?_ | with_reducible refine evT_test ?_ | with_reducible refine evT_B ?_ | with_reducible refine evT_not ?_ | with_reducible refine evT_yes ?_ | with_reducible refine ev_notV ?_ | with_reducible refine rc_int ?_ | with_reducible refine rc_min2 ?_ | with_reducible refine rc_max2 ?_ | with_reducible refine rc_lenT ?_ | with_reducible refine q_asgG ?_ | with_reducible refine gds_nil ?_ | with_reducible refine gds_name ?_ | with_reducible refine ev_call ?_ | with_reducible refine gd_name ?_ | with_reducible refine ev_tup ?_ | with_reducible refine ev_var (by with_unfolding_all rfl) ?_ | with_reducible refine ⟨_, rfl, ?_⟩ | with_reducible refine gd_tup rfl ?_ | with_reducible refine rc_lenL LV.o ?_)))
open PySem PySem.Spec PyProof.Rows L2
variable {P : Program} {w : World} {K : PySem.W.Frag} {mg : Str → Option Value} {base : Heap}
def p_check_costs (K : PySem.W.Frag) : Phi := fun S ds P => ∃ (N : Net) (costs : List Nat), ds = [netD K N, intsD costs] ∧ N.Ok ∧ costs.length = N.links.length ∧ P S .non
theorem sx_check_costs (T : Top K mg) (S : Sto) (ds : List D) (Q : Sto → D → Prop) (h : p_check_costs K S ds Q) : Sx S (startD N_check_costs.length ds) (t_check_costs K) { nx := fun S' _ => Q S' .non, rt := Q } := by
  obtain ⟨N, costs, rfl, ok, hl, hq⟩ := h
  have h16 := ok.l16
  unfold t_check_costs intsD
  refine q_no (evT_orF ?_)
  walk_at "akgo"
  (refine ev_fld ?_; walk_at "akgo"; refine ⟨_, _, _, _, OV.o, T.c_Network, T.na_Network_links, (by with_unfolding_all rfl), ?_⟩)
  unfold linksD
  walk_at "akgo"
  refine ⟨by rw [List.length_map, List.length_map, hl, decide_eq_true rfl]; rfl, ?_⟩
  walk_at "akgo"
  refine ev_lcA (own_name (by decide)) (S = ·) intD costs (fun c => .bl true) (by omega) (evI_list ?_) ?_ ?_
  · walk_at "akgo"
    exact ⟨_, .o, rfl, fun _ _ => .o, rfl⟩
  · rintro c _ _ rfl
    unfold intD
    walk_at "akgo"
    exact ⟨rfl, bl_t (by omega)⟩
  · rintro _ rfl
    walk_at "akgo"
    refine rc_all (bs := costs.map fun _ => true) (.inl (by simp only [List.map_map]; rfl)) ?_
    walk_at "akgo"
    refine ⟨?_, hq⟩
    rw [all_mapG]
    simp
/-! ### cheapest -/
def costOf (costs : List Nat) (row : List Nat) : Nat := (row.map fun l => costs[l]?.getD 0).sum
abbrev Told : Type := Nat × List Nat
def tlI (t : Told) : Int × List Int := (t.1, t.2.map fun n : Nat => (n : Int))
def tlD (t : Told) : D := toldD (tlI t)
def optD : Option Told → D
  | none => .non
  | some t => tlD t
def bestF (costs : List Nat) (b : Option Told) (row : List Nat) : Option Told := match b with
  | none => some (costOf costs row, row)
  | some b => if toldLt (tlI (costOf costs row, row)) (tlI b) then some (costOf costs row, row) else some b
def cheapL (N : Net) (costs : List Nat) : Option Told := (leastL N).foldl (bestF costs) none
theorem sum_cast (l : List Nat) : (l.map fun n : Nat => (n : Int)).sum = ((l.sum : Nat) : Int) := by
  induction l with
  | nil => rfl
  | cons a l ih => rw [List.map_cons, List.sum_cons, List.sum_cons, ih, Int.natCast_add]
theorem tlD_eq (t : Told) : tlD t = .tup [.int t.1, .tup (t.2.map intD)] := by
  unfold tlD toldD tlI
  rw [intD_map]
def p_cheapest (K : PySem.W.Frag) : Phi := fun S ds P => ∃ (N : Net) (costs : List Nat), ds = [netD K N, intsD costs] ∧ N.Ok ∧ costs.length = N.links.length ∧ (enough N (List.range N.links.length) = true → P S (optD (cheapL N costs))) ∧ (enough N (List.range N.links.length) = false → P S .non)
theorem sx_cheapest (T : Top K mg) (S : Sto) (ds : List D) (Q : Sto → D → Prop) (h : p_cheapest K S ds Q) : Sx S (startD N_cheapest.length ds) (t_cheapest K (p_check_costs K) (p_Needs_init K) (p_Needs_is_enough K) (p_least_sets K)) { nx := fun S' _ => Q S' .non, rt := Q } := by
  obtain ⟨N, costs, rfl, ok, hl, hq1, hq2⟩ := h
  have h16 := ok.l16
  unfold t_cheapest
  walk_at "akgo"
  refine ⟨N, costs, rfl, ok, hl, ?_⟩
  walk_at "akgo"
  refine ev_needs ?_
  walk_at "akgo"
  refine ⟨ok, ?_⟩
  walk_at "akgo"
  refine q_if ?_
  walk_at "akgo"
  refine ev_meth ?_
  walk_at "akgo"
  refine ⟨⟨_, _, .o, by decide +kernel⟩, ?_⟩
  walk_at "akgo"
  (refine ev_fld ?_; walk_at "akgo"; refine ⟨_, _, _, _, OV.o, T.c_Needs, T.na_Needs_links, (by with_unfolding_all rfl), ?_⟩)
  walk_at "akgo"
  refine ⟨N, _, rfl, ok, ?_⟩
  walk_at "akgo"
  refine ⟨fun hc => ?_, fun hc => ?_⟩
  · walk_at "akgo"
    exact hq2 (by simpa using hc)
  · have he : enough N (List.range N.links.length) = true := by simpa using hc
    walk_at "akgo"
    refine q_forM intsD (leastL N) (fun (i : Nat) (S' : Sto) (ρ' : Env) => S = S' ∧ ∃ x y z, ρ' = [some (netD K N), some (intsD costs), some (needD K N), some (optD (((leastL N).take i).foldl (bestF costs) none)), x, y, z]) (evI_list ?_) ?_ ?_
    · walk_at "akgo"
      exact ⟨N, rfl, ok, _, .o, rfl, fun _ _ _ _ _ => .o, rfl, none, none, none, rfl⟩
    · rintro i row S' ρ' hi ⟨rfl, x, y, z, rfl⟩
      obtain ⟨r1, r2⟩ := leastL_lt row (List.mem_of_getElem? hi)
      have hst : ((leastL N).take (i + 1)).foldl (bestF costs) none = bestF costs (((leastL N).take i).foldl (bestF costs) none) row := by
        rw [take_succ_at hi, List.foldl_append]
        rfl
      generalize hb : ((leastL N).take i).foldl (bestF costs) none = best at hst ⊢
      walk_at "akgo"
      refine ev_lcA (own_name (by decide)) (S = ·) intD row (fun l => intD (costs[l]?.getD 0)) (by omega) (evI_list ?_) ?_ ?_
      · walk_at "akgo"
        exact ⟨_, .o, rfl, fun _ _ => .o, rfl⟩
      · rintro l hlm _ rfl
        have hlt := r2 l hlm
        unfold intD
        walk_at "akgo"
        refine rd_ixL .o (atI_natD (d := intD (costs[l]?.getD 0)) ?_) ⟨rfl, rfl⟩
        rw [List.getElem?_map, List.getElem?_eq_getElem (by omega)]
        rfl
      · rintro _ rfl
        walk_at "akgo"
        refine rc_sum (ns := (row.map fun l => costs[l]?.getD 0).map fun n : Nat => (n : Int)) (.inl (by simp only [List.map_map]; rfl)) ?_
        rw [sum_cast]
        walk_at "akgo"
        refine rc_tuple (l := row.map intD) (.inl .o) ?_
        walk_at "akgo"
        refine ⟨by simp, ?_⟩
        have et : D.tup [D.int ((row.map fun l => costs[l]?.getD 0).sum : Nat), D.tup (row.map intD)] = tlD (costOf costs row, row) := (tlD_eq (costOf costs row, row)).symm
        rw [et]
        walk_at "akgo"
        refine q_if (evT_or ?_)
        walk_at "akgo"
        have keep : ∀ b, best = some b → EvT S ([some (netD K N), some (intsD costs), some (needD K N), some (optD best), x, y, z].set 4 (some (intsD row)) |>.set 5 (some (tlD (costOf costs row, row)))) (tTest (tOp (rLtTold K) (tVar 5) (tVar 3))) fun S1 c => S1 = S ∧ c = toldLt (tlI (costOf costs row, row)) (tlI b) := fun b e => by
          subst e
          refine evT_test (ev_op (ev_var rfl (ev_var rfl ?_)))
          exact rd_ltTold (p := tlI (costOf costs row, row)) (q := tlI b) ⟨_, rfl, rfl, rfl⟩
        cases hbest : best with
        | none =>
          refine ⟨fun h => (by cases h), fun _ => ⟨fun _ => ?_, fun h => (by cases h)⟩⟩
          walk_at "akgo"
          refine ⟨rfl, some (intsD row), some (tlD (costOf costs row, row)), z, ?_⟩
          rw [hst, hbest]
          rfl
        | some b =>
          refine ⟨fun _ => ?_, fun h => (by cases h)⟩
          have kk := keep b hbest
          rw [hbest] at kk
          refine evT_mono kk ?_
          rintro S1 c ⟨rfl, rfl⟩
          refine ⟨fun hc => ?_, fun hc => ?_⟩
          · walk_at "akgo"
            refine ⟨rfl, some (intsD row), some (tlD (costOf costs row, row)), z, ?_⟩
            rw [hst, hbest]
            unfold bestF
            simp only [hc, if_true]
            rfl
          · walk_at "akgo"
            refine ⟨rfl, some (intsD row), some (tlD (costOf costs row, row)), z, ?_⟩
            rw [hst, hbest]
            unfold bestF
            simp only [hc, Bool.false_eq_true, if_false]
            rfl
    · rintro S' ρ' ⟨rfl, x, y, z, rfl⟩
      rw [List.take_length]
      walk_at "akgo"
      exact hq1 he
/-! ### weights, bound -/
def wD (p : Nat × Nat) : D := .tup [.str (up p.2), intD p.1]
def wpD (p : Nat × Nat) : D := .tup [intD (2 ^ p.2), intD p.1]
theorem idx_sets : ∀ n < 6, ∀ i < n, (setsL n)[i]? = some (2 ^ i) ∧ ∀ m < i, (setsL n)[m]? ≠ some (2 ^ i) := by decide +kernel
def p_checked_weights (K : PySem.W.Frag) : Phi := fun S ds P => ∃ (N : Net) (ws : List Nat), ds = [netD K N, .lst (ws.zipIdx.map wD)] ∧ N.Ok ∧ ws.length ≤ N.n ∧ (∀ x ∈ ws, 1 ≤ x) ∧ P S (.lst (ws.zipIdx.map wpD))
theorem sx_checked_weights (T : Top K mg) (S : Sto) (ds : List D) (Q : Sto → D → Prop) (h : p_checked_weights K S ds Q) : Sx S (startD N_checked_weights.length ds) (t_checked_weights K (p_set_mask K) (p_State_init K) (p_State_sets K)) { nx := fun S' _ => Q S' .non, rt := Q } := by
  obtain ⟨N, ws, rfl, ok, hl, hw, hq⟩ := h
  have hn : N.n ≤ 5 := ok.n5
  have zl : ws.zipIdx.length = ws.length := List.length_zipIdx
  unfold t_checked_weights
  walk_at "akgo"
  refine ev_lcA (own_tup (own_cons (by decide) (own_cons (by decide) own_nil))) (S = ·) wD ws.zipIdx (fun p => intD (2 ^ p.2)) (by omega) (evI_list ?_) ?_ ?_
  · walk_at "akgo"
    exact ⟨_, .o, rfl, fun _ _ => .o, rfl⟩
  · rintro p hp _ rfl
    obtain ⟨i, hi, e⟩ := List.mem_iff_getElem.mp hp
    obtain ⟨z1, z2, z3⟩ := zipIdx_mem (l := ws) (i := i) (p := p) (by rw [List.getElem?_eq_getElem hi, e])
    unfold wD
    walk_at "akgo"
    exact ⟨N, p.2, rfl, ok, by unfold Net.n at hl; omega, rfl, rfl⟩
  · rintro _ rfl
    have hmask : ∀ i, i < ws.length → (ws.zipIdx.map fun p => intD (2 ^ p.2))[i]? = some (intD (2 ^ i)) := fun i hi => by
      rw [List.getElem?_map, List.getElem?_zipIdx, List.getElem?_eq_getElem hi]
      simp
    walk_at "akgo"
    refine ev_meth (ev_state ?_)
    walk_at "akgo"
    refine ⟨ok, fun p S1 hS1 => ?_⟩
    obtain ⟨m, t, hx⟩ := hS1.at_.f
    refine ⟨⟨_, _, hx, by decide +kernel⟩, ?_⟩
    walk_at "akgo"
    refine ⟨_, st0 N, rfl, hS1.at_.f, st0_ok ok, ?_⟩
    rw [st0_n]
    refine q_lessS hS1.at_.le ?_
    walk_at "akgo"
    refine q_forM (fun p : (Nat × Nat) × Nat => D.tup [intD p.2, wD p.1]) ws.zipIdx.zipIdx (fun (i : Nat) (S' : Sto) (ρ' : Env) => S = S' ∧ ∃ (x y z u v : Option D) (last : Int), last < i ∧ ρ' = [some (netD K N), some (.lst (ws.zipIdx.map wD)), some (.lst (ws.zipIdx.map fun p => intD (2 ^ p.2))), some (intsD (setsL N.n)), some (.int last), x, y, z, u, v]) (evI_enum ?_) ?_ ?_
    · walk_at "akgo"
      exact ⟨_, _, rfl, .o, enumD_map _ _, fun _ _ _ _ _ => .o, rfl, none, none, none, none, none, -1, by omega, rfl⟩
    · rintro i q S' ρ' hi ⟨rfl, x, y, z, u, v, last, hlast, rfl⟩
      obtain ⟨q1, q2, q3⟩ := zipIdx_mem hi
      obtain ⟨r1, r2, r3⟩ := zipIdx_mem (l := ws) (i := i) (p := q.1) q2
      have hil := (List.getElem?_eq_some_iff.mp r2).1
      have hw1 := hw _ r1
      obtain ⟨s1, s2⟩ := idx_sets N.n (by omega) i (by omega)
      unfold intD
      walk_at "akgo"
      refine ev_bm ?_
      walk_at "akgo"
      refine ⟨rfl, ?_⟩
      walk_at "akgo"
      refine rd_ixL .o (atI_natD (d := intD (2 ^ i)) ?_) ?_
      · rw [q3]
        exact hmask i hil
      unfold intD
      walk_at "akgo"
      refine rm_index (ns := (setsL N.n).map fun n : Nat => (n : Int)) (j := i) (.inl (by rw [← intD_map]; rfl)) ?_ ?_ ?_
      · rw [List.getElem?_map, s1]
        rfl
      · intro m hm hz
        rw [List.getElem?_map] at hz
        cases hz2 : (setsL N.n)[m]? with
        | none =>
          rw [hz2] at hz
          cases hz
        | some b =>
          rw [hz2] at hz
          have e : b = 2 ^ i := by
            have h2 : ((b : Nat) : Int) = ((2 ^ i : Nat) : Int) := Option.some.inj hz
            exact Int.ofNat.inj h2
          exact s2 m hm (by rw [hz2, e])
      walk_at "akgo"
      refine q_no (evT_orF ?_)
      walk_at "akgo"
      refine ⟨decide_eq_false (by omega), ?_⟩
      unfold wD
      walk_at "akgo"
      refine rd_ixT (d := intD q.1.1) rfl ?_
      unfold intD
      walk_at "akgo"
      refine ⟨decide_eq_false (by omega), ?_⟩
      walk_at "akgo"
      exact ⟨rfl, _, _, _, _, _, (i : Int), by omega, rfl⟩
    · rintro S' ρ' ⟨rfl, x, y, z, u, v, last, hlast, rfl⟩
      walk_at "akgo"
      refine ev_lcA (own_tup (own_cons (by decide) (own_cons (by decide) own_nil))) (S = ·) (fun p : (Nat × Nat) × Nat => D.tup [intD p.2, wD p.1]) ws.zipIdx.zipIdx (fun p => wpD p.1) (by rw [List.length_zipIdx]; omega) (evI_enum ?_) ?_ ?_
      · walk_at "akgo"
        exact ⟨_, _, rfl, .o, enumD_map _ _, fun _ _ => .o, rfl⟩
      · rintro q hqm _ rfl
        obtain ⟨i, hi, e⟩ := List.mem_iff_getElem.mp hqm
        obtain ⟨q1, q2, q3⟩ := zipIdx_mem (l := ws.zipIdx) (i := i) (p := q) (by rw [List.getElem?_eq_getElem hi, e])
        obtain ⟨r1, r2, r3⟩ := zipIdx_mem (l := ws) (i := i) (p := q.1) q2
        have hil := (List.getElem?_eq_some_iff.mp r2).1
        walk_at "akgo"
        refine rd_ixL .o (atI_natD (i := q.2) (d := intD (2 ^ i)) ?_) ?_
        · rw [q3]
          exact hmask i hil
        walk_at "akgo"
        refine rd_ixT (l := [.str (up q.1.2), intD q.1.1]) (d := intD q.1.1) rfl ?_
        walk_at "akgo"
        refine ⟨by simp, rfl, ?_⟩
        unfold wpD
        rw [r3]
      · rintro _ rfl
        have e : (ws.zipIdx.zipIdx.map fun p => wpD p.1) = ws.zipIdx.map wpD := by
          have z : ws.zipIdx.zipIdx.map (·.1) = ws.zipIdx := by simp
          conv => rhs; rw [← z]
          rw [List.map_map]
          rfl
        rw [e]
        exact hq
def addAt (x : Nat) (ld : List Nat) (l : Nat) : List Nat := ld.set l (ld[l]?.getD 0 + x)
def loadsL (N : Net) (ws : List Nat) : List Nat := ws.zipIdx.foldl (fun ld p => (N.ent (2 ^ p.2)).foldl (addAt p.1) ld) (List.replicate N.links.length 0)
def boundL (N : Net) (costs ws : List Nat) : Int := (ws.zipIdx.map fun p => N.dem (2 ^ p.2) * (p.1 : Int)).sum - (((loadsL N ws).zip costs).map fun p => (if (p.1 : Int) - p.2 > 0 then (p.1 : Int) - p.2 else 0)).sum
def p_bound (K : PySem.W.Frag) : Phi := fun S ds P => ∃ (N : Net) (costs ws : List Nat), ds = [netD K N, intsD costs, .lst (ws.zipIdx.map wD)] ∧ N.Ok ∧ costs.length = N.links.length ∧ ws.length ≤ N.n ∧ (∀ x ∈ ws, 1 ≤ x) ∧ P S (.int (boundL N costs ws))

theorem addAt_len (x : Nat) : ∀ (e ld : List Nat), (e.foldl (addAt x) ld).length = ld.length
  | [], _ => rfl
  | a :: e, ld => by
    rw [List.foldl_cons, addAt_len x e]
    exact List.length_set
theorem loads_len (N : Net) : ∀ (l : List (Nat × Nat)) (ld : List Nat), (l.foldl (fun ld p => (N.ent (2 ^ p.2)).foldl (addAt p.1) ld) ld).length = ld.length
  | [], _ => rfl
  | a :: l, ld => by
    rw [List.foldl_cons, loads_len N l, addAt_len]
theorem rk_le {st : St} (ok : st.Ok) (X : Nat) : st.rk X ≤ 200 := rowsOf_len _ _ ok.ms_len
theorem sx_bound (T : Top K mg) (S : Sto) (ds : List D) (Q : Sto → D → Prop) (h : p_bound K S ds Q) : Sx S (startD N_bound.length ds) (t_bound K (p_check_costs K) (p_checked_weights K) (p_State_init K) (p_State_demand K) (p_State_entering K)) { nx := fun S' _ => Q S' .non, rt := Q } := by
  obtain ⟨N, costs, ws, rfl, ok, hl, hwl, hw, hq⟩ := h
  have hn : N.n ≤ 5 := ok.n5
  have h16 := ok.l16
  have ok0 := st0_ok ok
  have zl : ws.zipIdx.length = ws.length := List.length_zipIdx
  have zm : ∀ p ∈ ws.zipIdx, p.2 < N.n := fun p hp => by
    obtain ⟨i, hi, e⟩ := List.mem_iff_getElem.mp hp
    obtain ⟨z1, z2, z3⟩ := zipIdx_mem (l := ws) (i := i) (p := p) (by rw [List.getElem?_eq_getElem hi, e])
    omega
  unfold t_bound
  walk_at "akgo"
  refine ⟨N, costs, rfl, ok, hl, ?_⟩
  walk_at "akgo"
  refine ⟨N, ws, rfl, ok, hwl, hw, ?_⟩
  walk_at "akgo"
  refine ev_state ?_
  walk_at "akgo"
  refine ⟨ok, fun p S1 hS1 => ?_⟩
  have hA := hS1.at_
  walk_at "akgo"
  refine ev_lcA (own_tup (own_cons (by decide) (own_cons (by decide) own_nil))) (StAt K S p (st0 N)) wpD ws.zipIdx (fun q => .int (N.dem (2 ^ q.2) * (q.1 : Int))) (by omega) (evI_list ?_) ?_ ?_
  · walk_at "akgo"
    exact ⟨_, .o, rfl, fun _ _ => .o, hA⟩
  · intro q hqm S2 hS2
    have hX : 2 ^ q.2 < 2 ^ (st0 N).n := Nat.pow_lt_pow_right (by decide) (by rw [st0_n]; exact zm q hqm)
    unfold wpD intD
    walk_at "akgo"
    (refine ev_stM (by decide +kernel) ?_; walk_at "akgo"; refine ⟨⟨_, hS2.f⟩, ?_⟩; walk_at "akgo")
    refine ⟨_, p, _, 2 ^ q.2, rfl, hS2, ok0, hX, fun S3 hS3 => ?_⟩
    walk_at "akgo"
    have d1 := rk_le ok0 (2 ^ q.2)
    have d2 := rk_le ok0 (2 ^ (st0 N).n - 1)
    refine rd_intC (.inl ?_) ⟨hS3, rfl⟩
    unfold St.dem
    omega
  · intro S2 hS2
    walk_at "akgo"
    refine rc_sum (ns := ws.zipIdx.map fun q => N.dem (2 ^ q.2) * (q.1 : Int)) (.inl (by simp only [List.map_map]; rfl)) ?_
    walk_at "akgo"
    refine ev_lst ?_
    walk_at "akgo"
    refine ⟨by simp, ?_⟩
    walk_at "akgo"
    (refine ev_fld ?_; walk_at "akgo"; refine ⟨_, _, _, _, OV.o, T.c_Network, T.na_Network_links, (by with_unfolding_all rfl), ?_⟩)
    unfold linksD
    walk_at "akgo"
    rw [List.length_map]
    refine rd_repH .o (by omega) (by omega) (by rw [Int.toNat_natCast]; simp; omega) fun a ha => ?_
    rw [Int.toNat_natCast, flat_rep]
    have eR : List.replicate N.links.length (D.int 0) = (List.replicate N.links.length 0).map intD := by
      rw [List.map_replicate]
      rfl
    rw [eR]
    walk_at "akgo"
    have hB := hS2.put (a := a) (c := .lst ((List.replicate N.links.length 0).map intD)) (.inr ha)
    refine q_forM wpD ws.zipIdx (fun (i : Nat) (S' : Sto) (ρ' : Env) => StAt K (S.put a (.lst (((ws.zipIdx.take i).foldl (fun ld p => (N.ent (2 ^ p.2)).foldl (addAt p.1) ld) (List.replicate N.links.length 0)).map intD))) p (st0 N) S' ∧ ∃ x y z u v, ρ' = [some (netD K N), some (intsD costs), some (.lst (ws.zipIdx.map wD)), some (.lst (ws.zipIdx.map wpD)), some (.ref p), x, y, some (.int ((ws.zipIdx.map fun q => N.dem (2 ^ q.2) * (q.1 : Int)).sum)), some (.ref a), z, u, v]) (evI_list ?_) ?_ ?_
    · walk_at "akgo"
      exact ⟨_, .o, rfl, fun _ _ _ _ _ => .o, hB, none, none, none, none, none, rfl⟩
    · rintro i q S' ρ' hi ⟨hC, x, y, z, u, v, rfl⟩
      have hqm := List.mem_of_getElem? hi
      have hX : 2 ^ q.2 < 2 ^ (st0 N).n := Nat.pow_lt_pow_right (by decide) (by rw [st0_n]; exact zm q hqm)
      have hlen0 := loads_len N (ws.zipIdx.take i) (List.replicate N.links.length 0)
      rw [List.length_replicate] at hlen0
      have hst : (ws.zipIdx.take (i + 1)).foldl (fun ld p => (N.ent (2 ^ p.2)).foldl (addAt p.1) ld) (List.replicate N.links.length 0) = (N.ent (2 ^ q.2)).foldl (addAt q.1) ((ws.zipIdx.take i).foldl (fun ld p => (N.ent (2 ^ p.2)).foldl (addAt p.1) ld) (List.replicate N.links.length 0)) := by
        rw [take_succ_at hi, List.foldl_append]
        rfl
      generalize hld : (ws.zipIdx.take i).foldl (fun ld p => (N.ent (2 ^ p.2)).foldl (addAt p.1) ld) (List.replicate N.links.length 0) = ld at hC hst hlen0
      have hu : ∀ l ∈ N.ent (2 ^ q.2), l < N.links.length := fun l hlm => ok0.ul l (List.mem_filter.mp hlm).1
      unfold wpD intD
      walk_at "akgo"
      refine q_forM intD (N.ent (2 ^ q.2)) (fun (j : Nat) (S' : Sto) (ρ' : Env) => StAt K (S.put a (.lst ((((N.ent (2 ^ q.2)).take j).foldl (addAt q.1) ld).map intD))) p (st0 N) S' ∧ ∃ z u v, ρ' = [some (netD K N), some (intsD costs), some (.lst (ws.zipIdx.map wD)), some (.lst (ws.zipIdx.map wpD)), some (.ref p), some (intD (2 ^ q.2)), some (intD q.1), some (.int ((ws.zipIdx.map fun q => N.dem (2 ^ q.2) * (q.1 : Int)).sum)), some (.ref a), z, u, v]) (evI_list ?_) ?_ ?_
      · (refine ev_stM (by decide +kernel) ?_; walk_at "akgo"; refine ⟨⟨_, hC.f⟩, ?_⟩; walk_at "akgo")
        exact ⟨_, _, _, rfl, hC.f, ok0, _, .o, rfl, fun _ _ _ _ _ => .o, hC, _, _, _, rfl⟩
      · rintro j l S' ρ' hj ⟨hD, z, u, v, rfl⟩
        have hlt := hu l (List.mem_of_getElem? hj)
        have hle := addAt_len q.1 ((N.ent (2 ^ q.2)).take j) ld
        have hst2 : ((N.ent (2 ^ q.2)).take (j + 1)).foldl (addAt q.1) ld = addAt q.1 (((N.ent (2 ^ q.2)).take j).foldl (addAt q.1) ld) l := by
          rw [take_succ_at hj, List.foldl_append]
          rfl
        generalize hlq : ((N.ent (2 ^ q.2)).take j).foldl (addAt q.1) ld = lq at hD hst2 hle
        unfold intD
        walk_at "akgo"
        refine q_augL ?_
        walk_at "akgo"
        refine ⟨a, lq.map intD, l, ((lq[l]?.getD 0 : Nat) : Int), rfl, rfl, hD.le _ _ put_same, ?_, ?_⟩
        · rw [List.getElem?_map, List.getElem?_eq_getElem (by omega)]
          rfl
        walk_at "akgo"
        refine ⟨hD.le _ _ put_same, ?_, _, _, _, rfl⟩
        have hE := hD.put (a := a) (c := .lst ((addAt q.1 lq l).map intD)) (.inl (by rw [put_same]; simp))
        rw [put_put] at hE
        have e : (List.set (lq.map intD) l (D.int (((lq[l]?.getD 0 : Nat) : Int) + (q.1 : Int)))) = (addAt q.1 lq l).map intD := by
          unfold addAt
          rw [List.map_set]
          congr 1
        rw [e, hst2]
        exact hE
      · rintro S' ρ' ⟨hD, z, u, v, rfl⟩
        rw [List.take_length] at hD
        refine ⟨?_, _, _, _, _, _, rfl⟩
        rw [hst]
        exact hD
    · rintro S' ρ' ⟨hC, x, y, z, u, v, rfl⟩
      have e0 : ws.zipIdx.take ws.zipIdx.length = ws.zipIdx := List.take_length
      rw [e0] at hC
      have hlen := loads_len N ws.zipIdx (List.replicate N.links.length 0)
      rw [List.length_replicate] at hlen
      have hCl : S' a = some (.lst ((loadsL N ws).map intD)) := hC.le _ _ put_same
      have ha0 : S a = none := le_none hS2.le ha
      refine q_ret (ev_less ?_)
      walk_at "akgo"
      refine ev_lcA (own_tup (own_cons (by decide) (own_cons (by decide) own_nil))) (S' = ·) (fun q : Nat × Nat => D.tup [intD q.1, intD q.2]) ((loadsL N ws).zip costs) (fun q => .int (if (q.1 : Int) - q.2 > 0 then (q.1 : Int) - q.2 else 0)) ?_ (evI_zip ?_) ?_ ?_
      · rw [List.length_zip, show (loadsL N ws).length = N.links.length from hlen]
        omega
      · walk_at "akgo"
        exact ⟨_, _, _, _, rfl, .h hCl, .o, zipD_map intD intD _ _, fun S'' e => e ▸ ⟨.h hCl, .o⟩, rfl⟩
      · rintro q _ _ rfl
        unfold intD
        walk_at "akgo"
        exact ⟨rfl, rfl⟩
      · rintro _ rfl
        walk_at "akgo"
        refine rc_sum (ns := ((loadsL N ws).zip costs).map fun q => (if (q.1 : Int) - q.2 > 0 then (q.1 : Int) - q.2 else 0)) (.inl (by simp only [List.map_map]; rfl)) ?_
        exact rd_int ⟨S, (SLe.put ha0).trans hC.le, hq⟩
end AK
set_option Elab.async false
set_option linter.all false
set_option maxRecDepth 100000
set_option maxHeartbeats 1000000
namespace AK
local macro_rules | `(tactic| walk_at "akgo") => `(tactic| (repeat (first | with_reducible refine q_seq ?_ | with_reducible refine q_asg ?_ | with_reducible refine q_drop ?_ | with_reducible refine q_ret ?_ | with_reducible refine q_next ?_ | with_reducible refine q_break ?_ | with_reducible refine ev_int ?_ | with_reducible refine ev_str ?_ | with_reducible refine ev_bl ?_ | with_reducible refine ev_non ?_ | with_reducible refine ev_ty ?_ | with_reducible refine ev_cls ?_ | with_reducible refine ev_op ?_ | with_reducible refine ev_un ?_ | with_reducible refine ev_cb ?_ | with_reducible refine evA_cons ?_ | with_reducible refine evA_nil ?_ | with_reducible refine rd_int ?_ | with_reducible refine rd_cmp ?_ | with_reducible refine r1_neg ?_ | with_reducible refine rd_eqI ?_ | with_reducible refine rd_neI ?_ | with_reducible refine rd_eqS ?_ | with_reducible refine rd_neS ?_ | with_reducible refine rd_neB ?_ | with_reducible refine rd_isN ?_ | with_reducible refine rd_notN ?_ | with_reducible refine rd_notB ?_ | with_reducible refine rd_inS ?_ | with_reducible refine rd_ninS ?_ | with_reducible refine evT_test ?_ | with_reducible refine evT_B ?_ | with_reducible refine evT_not ?_ | with_reducible refine evT_yes ?_ | with_reducible refine ev_notV ?_ | with_reducible refine rc_int ?_ | with_reducible refine rc_min2 ?_ | with_reducible refine rc_max2 ?_ | with_reducible refine rc_lenT ?_ | with_reducible refine q_asgG ?_ | with_reducible refine gds_nil ?_ | with_reducible refine gds_name ?_ | with_reducible refine ev_call ?_ | with_reducible refine gd_name ?_ | with_reducible refine ev_tup ?_ | with_reducible refine ev_var (by with_unfolding_all rfl) ?_ | with_reducible refine ⟨_, rfl, ?_⟩ | with_reducible refine gd_tup rfl ?_ | with_reducible refine rc_lenL LV.o ?_)))
open PySem PySem.Spec PyProof.Rows L2
variable {P : Program} {w : World} {K : PySem.W.Frag} {mg : Str → Option Value} {base : Heap}
/-! ### the law's pool -/
def PoolC (c : Cell) : Prop := ∃ (cells : List Nat) (pos stock seed : Nat), seed < 2 ^ 60 ∧ c = .lst [.lst (cells.map intD), intD pos, intD stock, intD seed]
/-- a script: a list of the heap that stays, or of the text -/
theorem evI_scr {S : Sto} {ρ : Env} {te : TE} {a : Addr} {ns : List Int} {P : Sto → DIt → Prop} (h : Ev S ρ te fun S1 x => x = .scr a (fun H => SqL K H a (ns.map V.int)) ∧ P S1 ⟨ns.map D.int, fun _ => True⟩) : EvI S ρ (iList K te) P := fun F G H σ w s R k =>
  h F G H σ w s _ fun v1 d1 S1 G1 H1 e1 w1 ⟨ex, p⟩ r1 => by
    subst ex
    cases r1 with
    | scr hp =>
      refine ⟨a, rfl, ⟨_, hp H1 w1.ext⟩, k _ _ _ _ _ e1 w1 (fun S' F' G' H' e' w' _ => ?_) p⟩
      have hq := hp H' (e'.trans w'.ext)
      refine ⟨fun i hi => ?_, ns.map V.int, hq, by show (ns.map V.int).length ≤ (ns.map D.int).length; rw [List.length_map, List.length_map]; exact Nat.le_refl _⟩
      have hi' : i < ns.length := by
        have z : i < (ns.map D.int).length := hi
        rw [List.length_map] at z
        exact z
      have gi : ns[i]? = some ns[i] := List.getElem?_eq_getElem hi'
      have g1 : (ns.map V.int)[i]? = some (.int ns[i]) := by rw [List.getElem?_map, gi]; rfl
      refine ⟨⟨_, _, hq, g1⟩, fun z H2 ⟨eh, q⟩ => ?_⟩
      subst eh
      have q2 := q _ hq
      rw [g1] at q2
      cases q2
      exact ⟨G', .int ns[i], Same.refl _, w', by show (ns.map D.int)[i]? = _; rw [List.getElem?_map, gi]; rfl, .int⟩
def scrD (K : PySem.W.Frag) (a : Addr) (ns : List Int) : D := .scr a (fun H => SqL K H a (ns.map V.int))
def p_law_pool (K : PySem.W.Frag) : Phi := fun S ds P => ∃ (b : Addr) (script : List Int), ds = [scrD K b script] ∧ script.length ≤ 1000 ∧ ∀ a c, S a = none → PoolC c → P (S.put a c) (.ref a)
theorem sx_law_pool (S : Sto) (ds : List D) (Q : Sto → D → Prop) (h : p_law_pool K S ds Q) : Sx S (startD N_law_pool.length ds) (t_law_pool K) { nx := fun S' _ => Q S' .non, rt := Q } := by
  obtain ⟨b, script, rfl, hl, hq⟩ := h
  unfold t_law_pool
  refine q_ret (ev_lstH ?_)
  walk_at "akgo"
  refine ev_lcA (own_name (by decide)) (S = ·) D.int script (fun c => intD (if 0 ≤ c then (2 * c).toNat else (-2 * c - 1).toNat)) (by omega) (evI_scr (a := b) (ns := script) ?_) ?_ ?_
  · walk_at "akgo"
    exact ⟨rfl, rfl, fun _ _ => trivial, rfl⟩
  · rintro c _ _ rfl
    walk_at "akgo"
    refine ev_if ?_
    walk_at "akgo"
    refine ⟨fun hc => ?_, fun hc => ?_⟩
    · have h0 := of_decide_eq_true hc
      walk_at "akgo"
      refine rd_intC (.inl ⟨by omega, by omega⟩) ⟨rfl, ?_⟩
      unfold intD
      rw [if_pos h0]
      congr 1
      omega
    · have h0 := of_decide_eq_false hc
      walk_at "akgo"
      refine rd_intC (.inl ⟨by omega, by omega⟩) ?_
      walk_at "akgo"
      refine ⟨rfl, ?_⟩
      unfold intD
      rw [if_neg h0]
      congr 1
      omega
  · rintro _ rfl
    walk_at "akgo"
    refine ⟨by simp, fun a ha => hq a _ ha ⟨script.map fun c => (if 0 ≤ c then (2 * c).toNat else (-2 * c - 1).toNat), 0, 0, 17, by decide, ?_⟩⟩
    rw [List.map_map]
    rfl
theorem fmod_nat (a b : Nat) : ((a : Int)).fmod (b : Int) = ((a % b : Nat) : Int) := by
  rw [Int.fmod_eq_emod_of_nonneg _ (Int.natCast_nonneg b)]
  exact (Int.natCast_emod a b).symm
theorem fdiv_nat (a b : Nat) : ((a : Int)).fdiv (b : Int) = ((a / b : Nat) : Int) := by
  rw [Int.fdiv_eq_ediv_of_nonneg _ (Int.natCast_nonneg b)]
  exact (Int.natCast_ediv a b).symm
def TakeP (S : Sto) (a : Addr) (m : Nat) (P : Sto → D → Prop) : Prop := ∀ (c : Cell) (r : Nat), PoolC c → r < m → P (S.put a c) (intD r)
def p_take0 : Phi := fun S ds P => ∃ (a : Addr) (m : Nat) (cells : List Nat) (pos stock seed : Nat), ds = [.ref a, .int m] ∧ 1 ≤ m ∧ m ≤ 1000 ∧ S a = some (.lst [.lst (cells.map intD), intD pos, intD stock, intD seed]) ∧ seed < 2 ^ 60 ∧ 0 < stock ∧ TakeP S a m P
def p_law_take : Phi := fun S ds P => ∃ (a : Addr) (m : Nat) (c : Cell), ds = [.ref a, .int m] ∧ 1 ≤ m ∧ m ≤ 1000 ∧ S a = some c ∧ PoolC c ∧ TakeP S a m P
theorem sx_take_stock {S : Sto} {a : Addr} {m : Nat} {cells : List Nat} {pos stock seed : Nat} {Q : Sto → D → Prop} (hm : 1 ≤ m) (hm2 : m ≤ 1000) (hS : S a = some (.lst [.lst (cells.map intD), intD pos, intD stock, intD seed])) (hs : seed < 2 ^ 60) (h0 : 0 < stock) (hq : TakeP S a m Q) :
    Sx S (startD N_law_take.length [.ref a, .int m]) (tSeq (tAsg (tOp (rI (fun _ j => j ≠ 0) fun i j => .int (i.fmod j)) (tCB (rInt1) (tCons (tOp (rIxL K) (tVar 0) (tC (.int 2))) tNil)) (tVar 1)) (gName 2)) (tSeq (tAsg (tOp (rI CDivN fun i j => .int (i.fdiv j)) (tOp (rIxL K) (tVar 0) (tC (.int 2))) (tVar 1)) (gSub (tVar 0) (tC (.int 2)) rSetL)) (tRet (tVar 2)))) ⟨fun _ _ => False, Q, fun _ _ => False, fun _ _ => False⟩ := by
  walk_at "akgo"
  refine rd_ixL (d := .int stock) (.h hS) rfl ?_
  walk_at "akgo"
  refine rd_intC (show (m : Int) ≠ 0 by omega) ?_
  rw [fmod_nat]
  walk_at "akgo"
  refine rd_ixL (d := .int stock) (.h hS) rfl ?_
  walk_at "akgo"
  refine rd_intC (show CDivN stock m from ⟨by omega, by omega⟩) ?_
  rw [fdiv_nat]
  refine gd_sub ?_
  walk_at "akgo"
  refine ⟨a, _, 2, 2, rfl, rfl, hS, rfl, ?_⟩
  walk_at "akgo"
  exact hq _ _ ⟨cells, pos, stock / m, seed, hs, rfl⟩ (Nat.mod_lt _ hm)
theorem sx_law_take0 (S : Sto) (ds : List D) (Q : Sto → D → Prop) (h : p_take0 S ds Q) : Sx S (startD N_law_take.length ds) (t_law_take K fun _ _ _ => False) { nx := fun S' _ => Q S' .non, rt := Q } := by
  obtain ⟨a, m, cells, pos, stock, seed, rfl, hm, hm2, hS, hs, h0, hq⟩ := h
  unfold t_law_take
  walk_at "akgo"
  refine q_ifT ?_
  walk_at "akgo"
  refine rd_ixL (d := .int stock) (.h hS) rfl ?_
  walk_at "akgo"
  refine ⟨decide_eq_true (by omega), ?_⟩
  exact sx_mono (sx_take_stock hm hm2 hS hs h0 hq) (fun _ _ h => h.elim) (fun _ _ h => h) (fun _ _ h => h) (fun _ _ h => h)
theorem sx_law_take (S : Sto) (ds : List D) (Q : Sto → D → Prop) (h : p_law_take S ds Q) : Sx S (startD N_law_take.length ds) (t_law_take K p_take0) { nx := fun S' _ => Q S' .non, rt := Q } := by
  obtain ⟨a, m, c, rfl, hm, hm2, hS, ⟨cells, pos, stock, seed, hs, rfl⟩, hq⟩ := h
  unfold t_law_take
  walk_at "akgo"
  refine q_if ?_
  walk_at "akgo"
  refine rd_ixL (d := .int stock) (.h hS) rfl ?_
  walk_at "akgo"
  refine ⟨fun hc => ?_, fun hc => ?_⟩
  · have h0 := of_decide_eq_true hc
    exact sx_mono (sx_take_stock hm hm2 hS hs (by omega) hq) (fun _ _ h => h.elim) (fun _ _ h => h) (fun _ _ h => h) (fun _ _ h => h)
  · have hst : stock = 0 := by
      have := of_decide_eq_false hc
      omega
    subst hst
    walk_at "akgo"
    have main : ∀ cell : Nat, Sx S ((startD N_law_take.length [D.ref a, D.int m]).set 3 (some (.int cell))) (tSeq (tAsg (tOp (rI0 fun i j => .int (i + j)) (tOp (rIxL K) (tVar 0) (tC (.int 1))) (tC (.int 1))) (gSub (tVar 0) (tC (.int 1)) rSetL)) (tSeq (tIfS (tTest (tOp (rI0 fun i j => .bl (decide (j ≤ i))) (tVar 3) (tOp (rI CPow fun i j => .int (i ^ j.toNat)) (tC (.int 10)) (tC (.int 18))))) (tSeq (tAsg (tOp (rI CDivN fun i j => .int (i.fdiv j)) (tVar 3) (tC (.int 2))) (gSub (tVar 0) (tC (.int 2)) rSetL)) (tRet (tCall (toSp p_take0) [] E0 (tCons (tVar 0) (tCons (tVar 1) tNil))))) tNext) (tSeq (tAsg (tOp (rI (fun _ j => j ≠ 0) fun i j => .int (i.fmod j)) (tCB (rInt1) (tCons (tOp (rI0 fun i j => .int (i + j)) (tOp (rI0 fun i j => .int (i + j)) (tOp (rI CMul fun i j => .int (i * j)) (tOp (rIxL K) (tVar 0) (tC (.int 3))) (tC (.int 48271))) (tOp (rI CMul fun i j => .int (i * j)) (tVar 3) (tC (.int 69621)))) (tOp (rI CMul fun i j => .int (i * j)) (tOp (rIxL K) (tVar 0) (tC (.int 1))) (tC (.int 613)))) tNil)) (tC (.int 2147483647))) (gSub (tVar 0) (tC (.int 3)) rSetL)) (tSeq (tAsg (tOp (rI (fun _ j => j ≠ 0) fun i j => .int (i.fmod j)) (tCB (rInt1) (tCons (tOp (rI0 fun i j => .int (i + j)) (tOp (rI0 fun i j => .int (i + j)) (tOp (rI CMul fun i j => .int (i * j)) (tOp (rIxL K) (tVar 0) (tC (.int 3))) (tOp (rIxL K) (tVar 0) (tC (.int 3)))) (tOp (rI CMul fun i j => .int (i * j)) (tOp (rIxL K) (tVar 0) (tC (.int 3))) (tC (.int 7919)))) (tC (.int 104729))) tNil)) (tC (.int 1000000007))) (gName 4)) (tRet (tOp (rI (fun _ j => j ≠ 0) fun i j => .int (i.fmod j)) (tCB (rInt1) (tCons (tOp (rI CDivN fun i j => .int (i.fdiv j)) (tVar 4) (tC (.int 3))) tNil)) (tVar 1))))))) ⟨fun S' _ => Q S' .non, Q, fun _ _ => False, fun _ _ => False⟩ := by
      intro cell
      walk_at "akgo"
      refine rd_ixL (d := .int pos) (.h hS) rfl ?_
      walk_at "akgo"
      refine gd_sub ?_
      walk_at "akgo"
      refine ⟨a, _, 1, 1, rfl, rfl, hS, rfl, ?_⟩
      have e1 : ((pos : Int) + 1) = ((pos + 1 : Nat) : Int) := rfl
      rw [e1]
      show Sx (S.put a (.lst [.lst (cells.map intD), intD (pos + 1), intD 0, intD seed])) _ _ _
      walk_at "akgo"
      refine q_if ?_
      walk_at "akgo"
      refine rd_intC (show CPow 10 18 from ⟨by decide, by decide, by decide⟩) ?_
      walk_at "akgo"
      refine ⟨fun hc => ?_, fun hc => ?_⟩
      · have hbig := of_decide_eq_true hc
        have hb2 : 2 ≤ cell := by
          have e : (10 : Int) ^ (18 : Int).toNat = 1000000000000000000 := by decide
          rw [e] at hbig
          omega
        walk_at "akgo"
        refine rd_intC (show CDivN cell 2 from ⟨by omega, by decide⟩) ?_
        have e2 : ((cell : Int)).fdiv 2 = ((cell / 2 : Nat) : Int) := fdiv_nat cell 2
        rw [e2]
        refine gd_sub ?_
        walk_at "akgo"
        refine ⟨a, _, 2, 2, rfl, rfl, put_same, rfl, ?_⟩
        rw [put_put]
        show Sx (S.put a (.lst [.lst (cells.map intD), intD (pos + 1), intD (cell / 2), intD seed])) _ _ _
        walk_at "akgo"
        refine ⟨a, m, cells, pos + 1, cell / 2, seed, rfl, hm, hm2, put_same, hs, by omega, fun c r hc hr => ?_⟩
        rw [put_put]
        exact hq c r hc hr
      · walk_at "akgo"
        refine rd_ixL (d := .int seed) (.h put_same) rfl ?_
        walk_at "akgo"
        refine rd_intC (.inr ⟨by omega, by omega⟩) ?_
        walk_at "akgo"
        refine rd_intC (.inr ⟨by omega, by omega⟩) ?_
        walk_at "akgo"
        refine rd_ixL (d := .int (pos + 1 : Nat)) (.h put_same) rfl ?_
        walk_at "akgo"
        refine rd_intC (.inr ⟨by omega, by omega⟩) ?_
        walk_at "akgo"
        refine rd_intC (show (2147483647 : Int) ≠ 0 by decide) ?_
        have e3 : ((seed : Int) * 48271 + (cell : Int) * 69621 + ((pos + 1 : Nat) : Int) * 613).fmod 2147483647 = (((seed * 48271 + cell * 69621 + (pos + 1) * 613) % 2147483647 : Nat) : Int) := fmod_nat (seed * 48271 + cell * 69621 + (pos + 1) * 613) 2147483647
        rw [e3]
        have hseed : (seed * 48271 + cell * 69621 + (pos + 1) * 613) % 2147483647 < 2147483647 := Nat.mod_lt _ (by decide)
        generalize hsd : (seed * 48271 + cell * 69621 + (pos + 1) * 613) % 2147483647 = sd at hseed
        refine gd_sub ?_
        walk_at "akgo"
        refine ⟨a, _, 3, 3, rfl, rfl, put_same, rfl, ?_⟩
        rw [put_put]
        show Sx (S.put a (.lst [.lst (cells.map intD), intD (pos + 1), intD 0, intD sd])) _ _ _
        walk_at "akgo"
        refine rd_ixL (d := .int sd) (.h put_same) rfl ?_
        walk_at "akgo"
        refine rd_ixL (d := .int sd) (.h put_same) rfl ?_
        refine rd_intC (.inl ⟨by omega, by omega⟩) ?_
        walk_at "akgo"
        refine rd_ixL (d := .int sd) (.h put_same) rfl ?_
        walk_at "akgo"
        refine rd_intC (.inr ⟨by omega, by omega⟩) ?_
        walk_at "akgo"
        refine rd_intC (show (1000000007 : Int) ≠ 0 by decide) ?_
        have e4 : ((sd : Int) * (sd : Int) + (sd : Int) * 7919 + 104729).fmod 1000000007 = (((sd * sd + sd * 7919 + 104729) % 1000000007 : Nat) : Int) := fmod_nat (sd * sd + sd * 7919 + 104729) 1000000007
        rw [e4]
        generalize (sd * sd + sd * 7919 + 104729) % 1000000007 = mx
        walk_at "akgo"
        refine rd_intC (show CDivN mx 3 from ⟨by decide, by decide⟩) ?_
        have e5 : ((mx : Int)).fdiv 3 = ((mx / 3 : Nat) : Int) := fdiv_nat mx 3
        rw [e5]
        walk_at "akgo"
        refine rd_intC (show (m : Int) ≠ 0 by omega) ?_
        rw [fmod_nat]
        exact hq _ _ ⟨cells, pos + 1, 0, sd, by omega, rfl⟩ (Nat.mod_lt _ hm)
    refine q_if ?_
    walk_at "akgo"
    refine rd_ixL (d := .int pos) (.h hS) rfl ?_
    walk_at "akgo"
    refine rd_ixL (d := .lst (cells.map intD)) (.h hS) rfl ?_
    walk_at "akgo"
    refine ⟨fun hc => ?_, fun hc => ?_⟩
    · have hlt := of_decide_eq_true hc
      rw [List.length_map] at hlt
      walk_at "akgo"
      refine rd_ixL (d := .lst (cells.map intD)) (.h hS) rfl ?_
      walk_at "akgo"
      refine rd_ixL (d := .int pos) (.h hS) rfl ?_
      obtain ⟨x, hx⟩ : ∃ x, cells[pos]? = some x := ⟨cells[pos]'(by omega), List.getElem?_eq_getElem (by omega)⟩
      refine rd_ixL (d := .int x) .o (atI_natD (by rw [List.getElem?_map, hx]; rfl)) ?_
      exact main x
    · refine q_next ?_
      exact main 0
end AK
set_option Elab.async false
set_option linter.all false
set_option maxRecDepth 100000
set_option maxHeartbeats 1000000
namespace AK
local macro_rules | `(tactic| walk_at "akgo") => `(tactic| (repeat (first | with_reducible refine q_seq ?_ | with_reducible refine q_asg ?_ | with_reducible refine q_drop ?_ | with_reducible refine q_ret ?_ | with_reducible refine q_next ?_ | with_reducible refine q_break ?_ | with_reducible refine ev_int ?_ | with_reducible refine ev_str ?_ | with_reducible refine ev_bl ?_ | with_reducible refine ev_non ?_ | with_reducible refine ev_ty ?_ | with_reducible refine ev_cls ?_ | with_reducible refine ev_op ?_ | with_reducible refine ev_un ?_ | with_reducible refine ev_cb ?_ | with_reducible refine evA_cons ?_ | with_reducible refine evA_nil ?_ | with_reducible refine rd_int ?_ | with_reducible refine rd_cmp ?_ | with_reducible refine r1_neg ?_ | with_reducible refine rd_eqI ?_ | with_reducible refine rd_neI ?_ | with_reducible refine rd_eqS ?_ | with_reducible refine rd_neS ?_ | with_reducible refine rd_neB ?_ | with_reducible refine rd_isN ?_ | with_reducible refine rd_notN ?_ | with_reducible refine rd_notB ?_ | with_reducible refine rd_inS ?_ | with_reducible refine rd_ninS ?_ | with_reducible refine evT_test ?_ | with_reducible refine evT_B ?_ | with_reducible refine evT_not ?_ | with_reducible refine evT_yes ?_ | with_reducible refine ev_notV ?_ | with_reducible refine rc_int ?_ | with_reducible refine rc_min2 ?_ | with_reducible refine rc_max2 ?_ | with_reducible refine rc_lenT ?_ | with_reducible refine q_asgG ?_ | with_reducible refine gds_nil ?_ | with_reducible refine gds_name ?_ | with_reducible refine ev_call ?_ | with_reducible refine gd_name ?_ | with_reducible refine ev_tup ?_ | with_reducible refine ev_var (by with_unfolding_all rfl) ?_ | with_reducible refine ⟨_, rfl, ?_⟩ | with_reducible refine gd_tup rfl ?_ | with_reducible refine rc_lenL LV.o ?_)))
open PySem PySem.Spec PyProof.Rows L2
variable {P : Program} {w : World} {K : PySem.W.Frag} {mg : Str → Option Value} {base : Heap}
/-! ### comparing -/
def p_law_is_integer : Phi := fun S ds P => ∃ i : Int, ds = [.int i] ∧ P S (.bl true)
theorem sx_law_is_integer (S : Sto) (ds : List D) (Q : Sto → D → Prop) (h : p_law_is_integer S ds Q) : Sx S (startD N_law_is_integer.length ds) (t_law_is_integer K) { nx := fun S' _ => Q S' .non, rt := Q } := by
  obtain ⟨i, rfl, hq⟩ := h
  unfold t_law_is_integer
  walk_at "akgo"
  refine ev_andT ?_
  walk_at "akgo"
  refine rc_isi rfl (by decide +kernel) ⟨rfl, ?_⟩
  walk_at "akgo"
  refine rc_isi (r := false) rfl (by decide +kernel) ?_
  exact ⟨_, rfl, hq⟩
def p_same0 : Phi := fun S ds P => ∃ i j : Int, ds = [.int i, .int j] ∧ i = j ∧ P S (.bl true)
def p_same1 : Phi := fun S ds P => p_same0 S ds P ∨ ∃ l : List Nat, ds = [.tup (l.map intD), .tup (l.map intD)] ∧ l.length ≤ 1000 ∧ P S (.bl true)
def p_law_same : Phi := fun S ds P => p_same0 S ds P ∨ ∃ t : Told, ds = [tlD t, tlD t] ∧ t.2.length ≤ 1000 ∧ P S (.bl true)
theorem same_int {φ : Phi} {S : Sto} {i : Int} {Q : Sto → D → Prop} (hq : Q S (.bl true)) : Sx S (startD N_law_same.length [.int i, .int i]) (t_law_same K φ p_law_is_integer) { nx := fun S' _ => Q S' .non, rt := Q } := by
  unfold t_law_same
  walk_at "akgo"
  refine q_ifF ?_
  walk_at "akgo"
  refine rc_isi rfl (by decide +kernel) ⟨_, rfl, rfl, ?_⟩
  walk_at "akgo"
  refine q_ifF ?_
  walk_at "akgo"
  refine rc_isi rfl (by decide +kernel) ⟨_, rfl, rfl, ?_⟩
  walk_at "akgo"
  refine q_ifF ?_
  walk_at "akgo"
  refine ⟨rfl, ?_⟩
  walk_at "akgo"
  refine q_ifF ?_
  walk_at "akgo"
  refine rc_isi rfl (by decide +kernel) ⟨_, rfl, rfl, ?_⟩
  walk_at "akgo"
  refine q_ifF ?_
  walk_at "akgo"
  refine rc_isi rfl (by decide +kernel) ⟨_, rfl, rfl, ?_⟩
  walk_at "akgo"
  refine ev_andT ?_
  walk_at "akgo"
  refine ⟨i, rfl, rfl, ?_⟩
  walk_at "akgo"
  rw [decide_eq_true rfl]
  exact hq
theorem same_tup {φ : Phi} {S : Sto} {l : List D} {Q : Sto → D → Prop} (hl : l.length ≤ 1000) (hφ : ∀ (i : Nat) (d : D), l[i]? = some d → ∀ P : Sto → D → Prop, P S (.bl true) → φ S [d, d] P) (hq : Q S (.bl true)) : Sx S (startD N_law_same.length [.tup l, .tup l]) (t_law_same K φ p_law_is_integer) { nx := fun S' _ => Q S' .non, rt := Q } := by
  unfold t_law_same
  walk_at "akgo"
  refine q_ifT ?_
  walk_at "akgo"
  refine rc_isi rfl (by decide +kernel) ⟨_, rfl, rfl, ?_⟩
  walk_at "akgo"
  refine q_ifF (evT_orF ?_)
  walk_at "akgo"
  refine rc_isi (r := true) rfl (by decide +kernel) ⟨_, rfl, rfl, ?_⟩
  walk_at "akgo"
  refine ⟨by rw [decide_eq_true rfl]; rfl, ?_⟩
  walk_at "akgo"
  refine ev_lcA (own_name (by decide)) (S = ·) intD (List.range l.length) (fun _ => .bl true) (by rw [List.length_range]; omega) (evI_rng1 ?_) ?_ ?_
  · walk_at "akgo"
    exact ⟨by omega, by omega, rangeD_nat _, fun _ _ => trivial, rfl⟩
  · rintro i hi _ rfl
    have hlt : i < l.length := List.mem_range.mp hi
    have hd : l[i]? = some l[i] := List.getElem?_eq_getElem hlt
    unfold intD
    walk_at "akgo"
    refine rd_ixT (atI_natD hd) ?_
    walk_at "akgo"
    refine rd_ixT (atI_natD hd) ?_
    walk_at "akgo"
    exact hφ i _ hd _ ⟨rfl, rfl⟩
  · rintro _ rfl
    walk_at "akgo"
    refine rc_all (bs := (List.range l.length).map fun _ => true) (.inl (by simp only [List.map_map]; rfl)) ?_
    rw [all_mapG]
    have e : ((List.range l.length).all fun _ => true) = true := List.all_eq_true.mpr fun _ _ => rfl
    rw [e]
    exact hq
theorem sx_same0 (S : Sto) (ds : List D) (Q : Sto → D → Prop) (h : p_same0 S ds Q) : Sx S (startD N_law_same.length ds) (t_law_same K (fun _ _ _ => False) p_law_is_integer) { nx := fun S' _ => Q S' .non, rt := Q } := by
  obtain ⟨i, j, rfl, rfl, hq⟩ := h
  exact same_int hq
theorem sx_same1 (S : Sto) (ds : List D) (Q : Sto → D → Prop) (h : p_same1 S ds Q) : Sx S (startD N_law_same.length ds) (t_law_same K p_same0 p_law_is_integer) { nx := fun S' _ => Q S' .non, rt := Q } := by
  rcases h with ⟨i, j, rfl, rfl, hq⟩ | ⟨l, rfl, hl, hq⟩
  · exact same_int hq
  · refine same_tup (by rw [List.length_map]; exact hl) (fun i d hd P hP => ?_) hq
    rw [List.getElem?_map] at hd
    cases e : l[i]? with
    | none =>
      rw [e] at hd
      cases hd
    | some a =>
      rw [e] at hd
      cases hd
      exact ⟨_, _, rfl, rfl, hP⟩
theorem sx_law_same (S : Sto) (ds : List D) (Q : Sto → D → Prop) (h : p_law_same S ds Q) : Sx S (startD N_law_same.length ds) (t_law_same K p_same1 p_law_is_integer) { nx := fun S' _ => Q S' .non, rt := Q } := by
  rcases h with ⟨i, j, rfl, rfl, hq⟩ | ⟨t, rfl, hl, hq⟩
  · exact same_int hq
  · rw [tlD_eq]
    refine same_tup (by simp) (fun i d hd P hP => ?_) hq
    match i, hd with
    | 0, hd =>
      cases hd
      exact .inl ⟨_, _, rfl, rfl, hP⟩
    | 1, hd =>
      cases hd
      exact .inr ⟨t.2, rfl, hl, hP⟩
    | i + 2, hd => cases hd
/-! ### drawing -/
def p_law_pick : Phi := fun S ds P => ∃ (a : Addr) (l : List D) (c : Cell), ds = [.ref a, .lst l] ∧ 1 ≤ l.length ∧ l.length ≤ 1000 ∧ S a = some c ∧ PoolC c ∧ ∀ (c' : Cell) (i : Nat) (d : D), PoolC c' → l[i]? = some d → P (S.put a c') d
theorem sx_law_pick (S : Sto) (ds : List D) (Q : Sto → D → Prop) (h : p_law_pick S ds Q) : Sx S (startD N_law_pick.length ds) (t_law_pick K p_law_take) { nx := fun S' _ => Q S' .non, rt := Q } := by
  obtain ⟨a, l, c, rfl, h1, h2, hS, hc, hq⟩ := h
  unfold t_law_pick
  walk_at "akgo"
  refine ⟨a, l.length, c, rfl, h1, h2, hS, hc, fun c' r hc' hr => ?_⟩
  have hd : l[r]? = some l[r] := List.getElem?_eq_getElem hr
  exact rd_ixL .o (atI_natD hd) (hq c' r _ hc' hd)
theorem vl_add : ∀ i < 6, ∀ m < 2 ^ i, vl (m + 2 ^ i) = vl m ++ [97 + i] := by decide +kernel
theorem join_vl : ∀ m < 64, Txt.join (tx []) ((vl m).map fun c => tx [c]) = vt m := by decide +kernel
theorem abc_at : ∀ v < 7, ∀ i < v, (abc6.take v)[i]? = some (97 + i) := by decide +kernel
theorem vt_one : ∀ i < 6, tx [97 + i] = vt (2 ^ i) := by decide +kernel
theorem vt_zero : vt 0 = tx [] := by decide +kernel
theorem vl_len6 : ∀ m < 64, (vl m).length ≤ 6 := by decide +kernel
theorem join_bound {l : List Nat} (h : l.length ≤ 100) : ((l.map fun c => tx [c]).map (·.length)).sum + (l.map fun c => tx [c]).length * (tx []).length ≤ 16777216 := by
  have all : ∀ l : List Nat, ((l.map fun c => tx [c]).map (·.length)).sum = l.length := by
    intro l
    induction l with
    | nil => rfl
    | cons a l ih =>
      rw [List.map_cons, List.map_cons, List.sum_cons, ih, List.length_cons]
      show 1 + l.length = l.length + 1
      omega
  rw [all, List.length_map]
  show l.length + l.length * 0 ≤ _
  omega
def p_law_parity : Phi := fun S ds P => ∃ (a : Addr) (v : Nat) (c : Cell), ds = [.ref a, .int v] ∧ v ≤ 4 ∧ S a = some c ∧ PoolC c ∧ ∀ c' m, PoolC c' → m < 2 ^ v → P (S.put a c') (msgD m)
theorem sx_law_parity (S : Sto) (ds : List D) (Q : Sto → D → Prop) (h : p_law_parity S ds Q) : Sx S (startD N_law_parity.length ds) (t_law_parity K p_law_take) { nx := fun S' _ => Q S' .non, rt := Q } := by
  obtain ⟨a, v, c, rfl, hv, hS, hc, hq⟩ := h
  unfold t_law_parity
  rw [s_abc, s_nil]
  walk_at "akgo"
  refine ev_sl ?_
  walk_at "akgo"
  refine evO_none (evO_some ?_)
  walk_at "akgo"
  refine sl_S (tx_small (by simp)) ?_
  rw [cut_take]
  walk_at "akgo"
  refine ev_bm ?_
  walk_at "akgo"
  refine ⟨rfl, ?_⟩
  walk_at "akgo"
  refine ev_lc (own_name (by decide)) (evI_str ?_)
  walk_at "akgo"
  have hlen : (abc6.take v).length = v := by
    rw [List.length_take]
    show min v 6 = v
    omega
  have hsl : (signsD (tx (abc6.take v))).length = v := by rw [signs_tx, List.length_map, hlen]
  refine comp_name (by show (signsD (tx (abc6.take v))).length ≤ _; omega) (fun (i : Nat) (S' : Sto) (acc : List D) => ∃ (c : Cell) (m : Nat), PoolC c ∧ S' = S.put a c ∧ m < 2 ^ i ∧ acc = (vl m).map fun c => D.str (tx [c])) ⟨c, 0, hc, (put_id hS).symm, by simp, rfl⟩ (fun _ _ _ _ _ => trivial) ?_ ?_
  · rintro i d S' acc hi ⟨c1, m, hc1, rfl, hm, rfl⟩ _
    have hiv : i < v := by
      have := (List.getElem?_eq_some_iff.mp hi).1
      have h2 : i < (signsD (tx (abc6.take v))).length := this
      omega
    have hd : d = .str (tx [97 + i]) := by
      have h2 : (signsD (tx (abc6.take v)))[i]? = some d := hi
      rw [signs_tx, List.getElem?_map, abc_at v (by omega) i hiv] at h2
      exact (Option.some.inj h2).symm
    subst hd
    walk_at "akgo"
    refine ⟨a, 2, c1, rfl, by omega, by omega, put_same, hc1, fun c2 r hc2 hr => ?_⟩
    rw [put_put]
    unfold intD
    walk_at "akgo"
    have hp : (2 : Nat) ^ (i + 1) = 2 ^ i + 2 ^ i := by rw [Nat.pow_succ]; omega
    refine ⟨fun hb => ?_, fun hb => ?_⟩
    · walk_at "akgo"
      refine ⟨c2, m + 2 ^ i, hc2, rfl, by omega, ?_⟩
      rw [vl_add i (by omega) m hm, List.map_append]
      rfl
    · exact ⟨c2, m, hc2, rfl, by omega, rfl⟩
  · rintro S' acc _ ⟨c1, m, hc1, rfl, hm, rfl⟩
    have hm2 : m < 2 ^ v := by
      have e : (DIt.items ⟨signsD (tx (abc6.take v)), fun _ => True⟩).length = v := hsl
      rw [e] at hm
      exact hm
    have h16 := pow_16 hv hm2
    walk_at "akgo"
    refine rm_join (ys := (vl m).map fun c => tx [c]) (.inl (by rw [List.map_map]; rfl)) (join_bound (Nat.le_trans (vl_len m h16) (by decide))) ?_
    rw [join_vl m (by omega)]
    exact hq c1 m hc1 hm2
def p_law_message : Phi := fun S ds P => ∃ (a : Addr) (v : Nat) (c : Cell), ds = [.ref a, .int v] ∧ 1 ≤ v ∧ v ≤ 4 ∧ S a = some c ∧ PoolC c ∧ ∀ c' m, PoolC c' → 1 ≤ m → m < 2 ^ v → P (S.put a c') (msgD m)
theorem sx_law_message (S : Sto) (ds : List D) (Q : Sto → D → Prop) (h : p_law_message S ds Q) : Sx S (startD N_law_message.length ds) (t_law_message K p_law_parity p_law_take) { nx := fun S' _ => Q S' .non, rt := Q } := by
  obtain ⟨a, v, c, rfl, hv1, hv, hS, hc, hq⟩ := h
  unfold t_law_message
  rw [s_abc, s_nil]
  walk_at "akgo"
  refine ev_sl ?_
  walk_at "akgo"
  refine evO_none (evO_some ?_)
  walk_at "akgo"
  refine sl_S (tx_small (by simp)) ?_
  rw [cut_take]
  walk_at "akgo"
  refine ⟨a, v, c, rfl, hv, hS, hc, fun c1 m hc1 hm => ?_⟩
  unfold msgD
  walk_at "akgo"
  refine ev_if ?_
  walk_at "akgo"
  have h16 := pow_16 hv hm
  by_cases h0 : m = 0
  · subst h0
    refine ⟨fun hb => absurd vt_zero (by simpa using hb), fun _ => ?_⟩
    walk_at "akgo"
    refine ⟨a, v, c1, rfl, hv1, by omega, put_same, hc1, fun c2 r hc2 hr => ?_⟩
    rw [put_put]
    refine rd_ixS (c := 97 + r) (tx_small (by simp; omega)) (atI_natD (abc_at v (by omega) r hr)) ?_
    have e : (D.str ⟨#[97 + r]⟩) = msgD (2 ^ r) := by
      unfold msgD
      rw [← vt_one r (by omega)]
    rw [e]
    exact hq c2 _ hc2 (Nat.two_pow_pos r) (Nat.pow_lt_pow_right (by decide) hr)
  · refine ⟨fun hb => ?_, fun hb => absurd hb ?_⟩
    · walk_at "akgo"
      exact hq c1 m hc1 (by omega) hm
    · have := vl_ne m h16 (by omega)
      simp [this]
end AK
set_option Elab.async false
set_option linter.all false
set_option maxRecDepth 100000
set_option maxHeartbeats 1000000
namespace AK
local macro_rules | `(tactic| walk_at "akgo") => `(tactic| (repeat (first | with_reducible refine q_seq ?_ | with_reducible refine q_asg ?_ | with_reducible refine q_drop ?_ | with_reducible refine q_ret ?_ | with_reducible refine q_next ?_ | with_reducible refine q_break ?_ | with_reducible refine ev_int ?_ | with_reducible refine ev_str ?_ | with_reducible refine ev_bl ?_ | with_reducible refine ev_non ?_ | with_reducible refine ev_ty ?_ | with_reducible refine ev_cls ?_ | with_reducible refine ev_op ?_ | with_reducible refine ev_un ?_ | with_reducible refine ev_cb ?_ | with_reducible refine evA_cons ?_ | with_reducible refine evA_nil ?_ | with_reducible refine rd_int ?_ | with_reducible refine rd_cmp ?_ | with_reducible refine r1_neg ?_ | with_reducible refine rd_eqI ?_ | with_reducible refine rd_neI ?_ | with_reducible refine rd_eqS ?_ | with_reducible refine rd_neS ?_ | with_reducible refine rd_neB ?_ | with_reducible refine rd_isN ?_ | with_reducible refine rd_notN ?_ | with_reducible refine rd_notB ?_ | with_reducible refine rd_inS ?_ | with_reducible refine rd_ninS ?_ | with_reducible refine evT_test ?_ | with_reducible refine evT_B ?_ | with_reducible refine evT_not ?_ | with_reducible refine evT_yes ?_ | with_reducible refine ev_notV ?_ | with_reducible refine rc_int ?_ | with_reducible refine rc_min2 ?_ | with_reducible refine rc_max2 ?_ | with_reducible refine rc_lenT ?_ | with_reducible refine q_asgG ?_ | with_reducible refine gds_nil ?_ | with_reducible refine gds_name ?_ | with_reducible refine ev_call ?_ | with_reducible refine gd_name ?_ | with_reducible refine ev_tup ?_ | with_reducible refine ev_var (by with_unfolding_all rfl) ?_ | with_reducible refine ⟨_, rfl, ?_⟩ | with_reducible refine gd_tup rfl ?_ | with_reducible refine rc_lenL LV.o ?_)))
open PySem PySem.Spec PyProof.Rows L2
variable {P : Program} {w : World} {K : PySem.W.Frag} {mg : Str → Option Value} {base : Heap}
/-! ### the law's rank -/
theorem count_vl : ∀ a < 16, ∀ b < 16, ∀ i < 6, Txt.count (tx (vl a ++ vl b)) (tx [97 + i]) = (((a.testBit i).toNat + (b.testBit i).toNat : Nat) : Int) := by decide +kernel
theorem join2 : ∀ a < 16, ∀ b < 16, Txt.join (tx []) [vt a, vt b] = tx (vl a ++ vl b) := by decide +kernel
theorem abc_range : abc6 = (List.range 6).map (97 + ·) := by decide
def p_law_sum : Phi := fun S ds P => ∃ a b : Nat, ds = [.lst [msgD a, msgD b]] ∧ a < 16 ∧ b < 16 ∧ P S (msgD (a ^^^ b))
theorem xor16 {a b : Nat} (ha : a < 16) (hb : b < 16) : a ^^^ b < 16 := Nat.xor_lt_two_pow (n := 4) ha hb
theorem par_xor : ∀ x y : Bool, decide ((((x.toNat + y.toNat : Nat) : Int)).fmod 2 = 1) = (x ^^ y) := by decide
theorem sx_law_sum (S : Sto) (ds : List D) (Q : Sto → D → Prop) (h : p_law_sum S ds Q) : Sx S (startD N_law_sum.length ds) (t_law_sum K) { nx := fun S' _ => Q S' .non, rt := Q } := by
  obtain ⟨a, b, rfl, ha, hb, hq⟩ := h
  have l1 := vl_len a ha
  have l2 := vl_len b hb
  have hx := xor16 ha hb
  unfold t_law_sum msgD
  rw [s_abc, s_nil]
  walk_at "akgo"
  refine ev_bm ?_
  walk_at "akgo"
  refine ⟨rfl, ?_⟩
  walk_at "akgo"
  refine rm_join (ys := [vt a, vt b]) (.inl rfl) ?_ ?_
  · show ((vt a).length + ((vt b).length + 0)) + 2 * 0 ≤ _
    rw [tx_len, tx_len]
    omega
  rw [join2 a ha b hb]
  walk_at "akgo"
  refine ev_bm ?_
  walk_at "akgo"
  refine ⟨rfl, ?_⟩
  walk_at "akgo"
  refine ev_lcM (own_name (by decide)) (S = ·) (fun i : Nat => D.str (tx [97 + i])) (List.range 6) (a ^^^ b).testBit (fun i => .str (tx [97 + i])) (by simp) (evI_str ?_) ?_ ?_
  · walk_at "akgo"
    refine ⟨?_, fun _ _ => trivial, rfl⟩
    show signsD (tx abc6) = _
    rw [abc_range, signs_tx, List.map_map]
    rfl
  · rintro i hi _ rfl
    have hi6 : i < 6 := List.mem_range.mp hi
    walk_at "akgo"
    refine ev_bm ?_
    walk_at "akgo"
    refine ⟨rfl, ?_⟩
    walk_at "akgo"
    refine rm_count ?_
    rw [count_vl a ha b hb i hi6]
    walk_at "akgo"
    refine rd_intC (show (2 : Int) ≠ 0 by decide) ?_
    walk_at "akgo"
    refine ⟨?_, fun _ => ?_, fun _ => rfl⟩
    · rw [par_xor, Nat.testBit_xor]
    · walk_at "akgo"
      exact ⟨rfl, rfl⟩
  · rintro _ rfl
    walk_at "akgo"
    have e : ((List.range 6).filter (a ^^^ b).testBit).map (fun i => D.str (tx [97 + i])) = ((vl (a ^^^ b)).map fun c => tx [c]).map D.str := by
      unfold vl
      simp only [List.map_map]
      rfl
    rw [e]
    refine rm_join (ys := (vl (a ^^^ b)).map fun c => tx [c]) .o (join_bound (Nat.le_trans (vl_len _ hx) (by decide))) ?_
    rw [join_vl _ (by omega)]
    exact hq
def derF (f : List Nat) (m : Nat) : List Nat := if m ∈ f then f else f ++ f.map (· ^^^ m)
def derL (l : List Nat) : List Nat := l.foldl derF [0]
theorem derF_mono (f : List Nat) (m : Nat) : f.length ≤ (derF f m).length := by
  unfold derF
  split
  · exact Nat.le_refl _
  · rw [List.length_append]
    omega
theorem der_mono : ∀ (l f : List Nat), f.length ≤ (l.foldl derF f).length
  | [], _ => Nat.le_refl _
  | m :: l, f => Nat.le_trans (derF_mono f m) (der_mono l _)
theorem der_take (l : List Nat) (i : Nat) : (derL (l.take i)).length ≤ (derL l).length := by
  conv => rhs; rw [← List.take_append_drop i l]
  unfold derL
  rw [List.foldl_append]
  exact der_mono _ _
theorem derF_16 {f : List Nat} {m : Nat} (hf : ∀ x ∈ f, x < 16) (hm : m < 16) : ∀ x ∈ derF f m, x < 16 := by
  intro x hx
  unfold derF at hx
  split at hx
  · exact hf x hx
  · rcases List.mem_append.mp hx with h | h
    · exact hf x h
    · obtain ⟨y, hy, rfl⟩ := List.mem_map.mp h
      exact xor16 (hf y hy) hm
theorem der_16 : ∀ (l : List Nat), (∀ m ∈ l, m < 16) → ∀ f, (∀ x ∈ f, x < 16) → ∀ x ∈ l.foldl derF f, x < 16
  | [], _, _, hf => hf
  | m :: l, hl, f, hf => der_16 l (fun x hx => hl x (List.mem_cons_of_mem _ hx)) _ (derF_16 hf (hl m List.mem_cons_self))
theorem vt_inj : ∀ a < 16, ∀ b < 16, vt a = vt b → a = b := by decide +kernel
def p_law_derived : Phi := fun S ds P => ∃ l : List Nat, ds = [.lst (l.map msgD)] ∧ (∀ m ∈ l, m < 16) ∧ (derL l).length ≤ 32 ∧ ∀ L : List D, L.length = (derL l).length → P S (.lst L)
theorem sx_law_derived (S : Sto) (ds : List D) (Q : Sto → D → Prop) (h : p_law_derived S ds Q) : Sx S (startD N_law_derived.length ds) (t_law_derived K p_law_sum) { nx := fun S' _ => Q S' .non, rt := Q } := by
  obtain ⟨l, rfl, hl, h32, hq⟩ := h
  unfold t_law_derived
  rw [s_nil]
  walk_at "akgo"
  refine ev_lst ?_
  walk_at "akgo"
  refine ⟨by simp, ?_⟩
  walk_at "akgo"
  refine q_forM msgD l (fun (i : Nat) (S' : Sto) (ρ' : Env) => S = S' ∧ ∃ x y, ρ' = [some (.lst (l.map msgD)), some (.lst ((derL (l.take i)).map msgD)), x, y]) (evI_list ?_) ?_ ?_
  · walk_at "akgo"
    exact ⟨_, .o, rfl, fun _ _ _ _ _ => .o, rfl, none, none, rfl⟩
  · rintro i m S' ρ' hi ⟨rfl, x, y, rfl⟩
    have hm := hl m (List.mem_of_getElem? hi)
    have hf16 : ∀ z ∈ derL (l.take i), z < 16 := der_16 _ (fun z hz => hl z (List.mem_of_mem_take hz)) _ (by simp)
    have hlen := Nat.le_trans (der_take l (i + 1)) h32
    have hst : derL (l.take (i + 1)) = derF (derL (l.take i)) m := by
      unfold derL
      rw [take_succ_at hi, List.foldl_append]
      rfl
    rw [hst] at hlen ⊢
    generalize derL (l.take i) = f at hf16 hlen ⊢
    have hmem : vt m ∈ f.map vt ↔ m ∈ f := by
      rw [List.mem_map]
      exact ⟨fun ⟨z, hz, e⟩ => vt_inj z (hf16 z hz) m hm e ▸ hz, fun h => ⟨m, h, rfl⟩⟩
    have hfl : f.length ≤ 32 := Nat.le_trans (derF_mono f m) hlen
    unfold msgD
    walk_at "akgo"
    refine q_if ?_
    walk_at "akgo"
    refine rd_ninStr (ns := f.map vt) (.inl (by rw [List.map_map]; rfl)) ?_
    walk_at "akgo"
    refine ⟨fun hc => ?_, fun hc => ?_⟩
    · have hnm : m ∉ f := fun h => by
        rw [decide_eq_true (hmem.mpr h)] at hc
        cases hc
      have e : derF f m = f ++ f.map (· ^^^ m) := if_neg hnm
      rw [e] at hlen ⊢
      rw [List.length_append, List.length_map] at hlen
      walk_at "akgo"
      refine ev_lcA (own_name (by decide)) (S = ·) msgD f (fun z => msgD (z ^^^ m)) (by omega) (evI_list ?_) ?_ ?_
      · walk_at "akgo"
        exact ⟨_, .o, rfl, fun _ _ => .o, rfl⟩
      · rintro z hz _ rfl
        unfold msgD
        walk_at "akgo"
        refine ev_lst ?_
        walk_at "akgo"
        refine ⟨by simp, ?_⟩
        walk_at "akgo"
        exact ⟨z, m, rfl, hf16 z hz, hm, rfl, rfl⟩
      · rintro _ rfl
        refine rd_cat .o .o (by rw [List.length_map, List.length_map]; omega) ⟨rfl, some (msgD m), y, ?_⟩
        rw [List.map_append, List.map_map]
        rfl
    · have hm2 : m ∈ f := by
        by_cases h : m ∈ f
        · exact h
        · rw [decide_eq_false (fun z => h (hmem.mp z))] at hc
          cases hc
      have e : derF f m = f := if_pos hm2
      rw [e]
      walk_at "akgo"
      exact ⟨rfl, some (msgD m), y, rfl⟩
  · rintro S' ρ' ⟨rfl, x, y, rfl⟩
    rw [List.take_length]
    walk_at "akgo"
    refine rc_sortedS (ns := (derL l).map vt) (.inl (by rw [List.map_map]; rfl)) (by rw [List.length_map]; omega) fun ns' pm => ?_
    refine hq _ ?_
    rw [List.length_map, pm.length_eq, List.length_map]
def p_law_rank : Phi := fun S ds P => ∃ (l : List Nat) (k : Nat), ds = [.lst (l.map msgD)] ∧ (∀ m ∈ l, m < 16) ∧ (derL l).length = 2 ^ k ∧ k ≤ 5 ∧ P S (.int k)
theorem sx_law_rank (S : Sto) (ds : List D) (Q : Sto → D → Prop) (h : p_law_rank S ds Q) : Sx S (startD N_law_rank.length ds) (t_law_rank K p_law_derived) { nx := fun S' _ => Q S' .non, rt := Q } := by
  obtain ⟨l, k, rfl, hl, hk, hk5, hq⟩ := h
  have h32 : (derL l).length ≤ 32 := by
    rw [hk]
    exact Nat.le_trans (Nat.pow_le_pow_right (by decide) hk5) (by decide)
  unfold t_law_rank
  walk_at "akgo"
  refine ⟨l, rfl, hl, h32, fun L hL => ?_⟩
  walk_at "akgo"
  rw [hL, hk]
  refine q_forM intD (List.range 6) (fun (i : Nat) (S' : Sto) (ρ' : Env) => S = S' ∧ ∃ x, ρ' = [some (.lst (l.map msgD)), some (.int (2 ^ (k - i) : Nat)), some (.int (min i k : Nat)), x]) (evI_rng1 ?_) ?_ ?_
  · walk_at "akgo"
    refine ⟨by decide, by decide, rangeD_nat 6, fun _ _ _ _ _ => trivial, rfl, none, ?_⟩
    rw [Nat.zero_min]
    rfl
  · rintro i a S' ρ' hi ⟨rfl, x, rfl⟩
    walk_at "akgo"
    refine q_if ?_
    walk_at "akgo"
    refine ⟨fun hc => ?_, fun hc => ?_⟩
    · have hlt : 1 < 2 ^ (k - i) := by
        have := of_decide_eq_true hc
        omega
      have hik : i < k := by
        rcases Nat.lt_or_ge i k with h | h
        · exact h
        · rw [Nat.sub_eq_zero_of_le h] at hlt
          exact absurd hlt (by decide)
      walk_at "akgo"
      refine rd_intC (show CDivN _ 2 from ⟨by decide, by decide⟩) ?_
      have e : ((2 ^ (k - i) : Nat) : Int).fdiv 2 = ((2 ^ (k - (i + 1)) : Nat) : Int) := by
        rw [show (2 : Int) = ((2 : Nat) : Int) from rfl, fdiv_nat]
        congr 1
        have e2 : k - i = (k - (i + 1)) + 1 := by omega
        rw [e2, Nat.pow_succ, Nat.mul_div_cancel _ (by decide)]
      rw [e]
      walk_at "akgo"
      refine ⟨rfl, some (intD a), ?_⟩
      have e3 : ((min i k : Nat) : Int) + 1 = ((min (i + 1) k : Nat) : Int) := by omega
      rw [e3]
      rfl
    · have hge : ¬ 1 < 2 ^ (k - i) := by
        have := of_decide_eq_false hc
        omega
      have hik : k ≤ i := by
        rcases Nat.lt_or_ge i k with h | h
        · exact absurd (Nat.one_lt_two_pow (by omega)) hge
        · exact h
      walk_at "akgo"
      refine ⟨rfl, some (intD a), ?_⟩
      have e1 : k - (i + 1) = k - i := by omega
      have e2 : min (i + 1) k = min i k := by omega
      rw [e1, e2]
      rfl
  · rintro S' ρ' ⟨rfl, x, rfl⟩
    walk_at "akgo"
    have e : min (List.range 6).length k = k := by
      rw [List.length_range]
      omega
    rw [e]
    exact hq
/-! ### messages of a node -/
def p_law_some_messages : Phi := fun S ds P => ∃ (a : Addr) (v most : Nat) (c : Cell), ds = [.ref a, .int v, .int most] ∧ v ≤ 4 ∧ most ≤ 4 ∧ S a = some c ∧ PoolC c ∧ ∀ (c' : Cell) (ms : List Nat), PoolC c' → ms.length ≤ most → (∀ m ∈ ms, 1 ≤ m ∧ m < 2 ^ v) → P (S.put a c') (.lst (ms.map msgD))
theorem sx_law_some_messages (S : Sto) (ds : List D) (Q : Sto → D → Prop) (h : p_law_some_messages S ds Q) : Sx S (startD N_law_some_messages.length ds) (t_law_some_messages K p_law_take p_law_message) { nx := fun S' _ => Q S' .non, rt := Q } := by
  obtain ⟨a, v, most, c, rfl, hv, hm, hS, hc, hq⟩ := h
  unfold t_law_some_messages
  refine q_ret (ev_lc (own_name (by decide)) (evI_rng1 ?_))
  walk_at "akgo"
  refine ⟨a, most + 1, c, rfl, by omega, by omega, hS, hc, fun c1 r hc1 hr => ?_⟩
  walk_at "akgo"
  refine ⟨by omega, by omega, ?_⟩
  rw [rangeD_nat]
  have hlen : ((List.range r).map intD).length = r := by rw [List.length_map, List.length_range]
  refine comp_name (by show ((List.range r).map intD).length ≤ _; omega) (fun (i : Nat) (S' : Sto) (acc : List D) => ∃ (c : Cell) (ms : List Nat), PoolC c ∧ S' = S.put a c ∧ ms.length ≤ i ∧ (∀ m ∈ ms, 1 ≤ m ∧ m < 2 ^ v) ∧ acc = ms.map msgD) ⟨c1, [], hc1, rfl, Nat.le_refl _, by simp, rfl⟩ (fun _ _ _ _ _ => trivial) ?_ ?_
  · rintro i d S' acc hi ⟨c2, ms, hc2, rfl, hml, hms, rfl⟩ _
    walk_at "akgo"
    refine ⟨fun hb => ?_, fun hb => ⟨c2, ms, hc2, rfl, by omega, hms, rfl⟩⟩
    have hv1 := of_decide_eq_true hb
    walk_at "akgo"
    refine ⟨a, v, c2, rfl, by omega, hv, put_same, hc2, fun c3 m hc3 h1 h2 => ?_⟩
    rw [put_put]
    refine ⟨c3, ms ++ [m], hc3, rfl, by rw [List.length_append]; simp; exact hml, fun z hz => ?_, by rw [List.map_append]; rfl⟩
    rcases List.mem_append.mp hz with h | h
    · exact hms z h
    · have e : z = m := by simpa using h
      subst e
      exact ⟨h1, h2⟩
  · rintro S' acc _ ⟨c2, ms, hc2, rfl, hml, hms, rfl⟩
    have hml2 : ms.length ≤ r := by
      have e : (DIt.items ⟨(List.range r).map intD, fun _ => True⟩).length = r := hlen
      omega
    exact hq c2 ms hc2 (by omega) hms
end AK
set_option Elab.async false
set_option linter.all false
set_option maxRecDepth 100000
set_option maxHeartbeats 4000000
/-! Ranks of masks below 16: plain. -/
namespace AK
theorem xor_cancel (x m : Nat) : x ^^^ m ^^^ m = x := by rw [Nat.xor_assoc, Nat.xor_self, Nat.xor_zero]
structure Sub (f : List Nat) : Prop where
  nd : f.Nodup
  z : 0 ∈ f
  cl : ∀ x ∈ f, ∀ y ∈ f, x ^^^ y ∈ f
theorem mem_derF {f : List Nat} (h : Sub f) (m x : Nat) : x ∈ derF f m ↔ x ∈ f ∨ x ^^^ m ∈ f := by
  unfold derF
  split
  · rename_i hm
    refine ⟨.inl, fun h2 => h2.elim id fun h2 => ?_⟩
    have z := h.cl _ h2 _ hm
    rw [xor_cancel] at z
    exact z
  · rw [List.mem_append, List.mem_map]
    refine or_congr Iff.rfl ⟨fun ⟨y, hy, e⟩ => ?_, fun hx => ⟨_, hx, xor_cancel x m⟩⟩
    rw [← e, xor_cancel]
    exact hy
theorem Sub.step {f : List Nat} (h : Sub f) (m : Nat) : Sub (derF f m) := by
  refine ⟨?_, (mem_derF h m 0).mpr (.inl h.z), fun x hx y hy => ?_⟩
  · unfold derF
    split
    · exact h.nd
    · rename_i hm
      refine List.nodup_append.mpr ⟨h.nd, ?_, fun a ha b hb e => ?_⟩
      · refine List.pairwise_map.mpr (h.nd.imp fun {a b} hab e => hab ?_)
        have z := congrArg (· ^^^ m) e
        simp only [xor_cancel] at z
        exact z
      · subst e
        obtain ⟨y, hy, e2⟩ := List.mem_map.mp hb
        have z := h.cl _ hy _ ha
        rw [← e2, ← Nat.xor_assoc, Nat.xor_self, Nat.zero_xor] at z
        exact hm z
  · rw [mem_derF h] at hx hy ⊢
    rcases hx with hx | hx <;> rcases hy with hy | hy
    · exact .inl (h.cl _ hx _ hy)
    · right
      rw [Nat.xor_assoc]
      exact h.cl _ hx _ hy
    · right
      have z := h.cl _ hx _ hy
      rw [Nat.xor_assoc, Nat.xor_comm m y, ← Nat.xor_assoc] at z
      exact z
    · left
      have z := h.cl _ hx _ hy
      have e : x ^^^ m ^^^ (y ^^^ m) = x ^^^ y := by
        rw [Nat.xor_comm y m, ← Nat.xor_assoc, xor_cancel]
      rw [e] at z
      exact z
theorem sub0 : Sub [0] := ⟨by simp, by simp, fun x hx y hy => by
  have e1 : x = 0 := by simpa using hx
  have e2 : y = 0 := by simpa using hy
  subst e1 e2
  simp⟩
theorem derL_snoc (l : List Nat) (m : Nat) : derL (l ++ [m]) = derF (derL l) m := by
  unfold derL
  rw [List.foldl_append]
  rfl
theorem snoc_rec {p : List Nat → Prop} (h0 : p []) (hs : ∀ l a, p l → p (l ++ [a])) (l : List Nat) : p l := by
  have all : ∀ r : List Nat, p r.reverse := by
    intro r
    induction r with
    | nil => exact h0
    | cons a r ih =>
      rw [List.reverse_cons]
      exact hs _ _ ih
  have z := all l.reverse
  rw [List.reverse_reverse] at z
  exact z
theorem subL (l : List Nat) : Sub (derL l) := snoc_rec (p := fun l => Sub (derL l)) sub0 (fun l a h => by rw [derL_snoc]; exact h.step a) l
theorem derL_mem (l : List Nat) : ∀ m ∈ l, m ∈ derL l := snoc_rec (p := fun l => ∀ m ∈ l, m ∈ derL l) (by simp) (fun l a h m hm => by
  rw [derL_snoc, mem_derF (subL l)]
  rcases List.mem_append.mp hm with h1 | h1
  · exact .inl (h m h1)
  · have e : m = a := by simpa using h1
    subst e
    rw [Nat.xor_self]
    exact .inr (subL l).z) l
theorem derL_sub {l : List Nat} {f : List Nat} (hf : Sub f) (h : ∀ m ∈ l, m ∈ f) : ∀ x ∈ derL l, x ∈ f := by
  revert h
  refine snoc_rec (p := fun l => (∀ m ∈ l, m ∈ f) → ∀ x ∈ derL l, x ∈ f) (fun _ x hx => ?_) (fun l a ih h x hx => ?_) l
  · have e : x = 0 := by simpa [derL] using hx
    subst e
    exact hf.z
  · rw [derL_snoc, mem_derF (subL l)] at hx
    have ih2 := ih fun m hm => h m (List.mem_append_left _ hm)
    rcases hx with hx | hx
    · exact ih2 x hx
    · have z := hf.cl _ (ih2 _ hx) _ (h a (by simp))
      rw [xor_cancel] at z
      exact z
theorem derL_len_step (l : List Nat) (m : Nat) : (derL (l ++ [m])).length = if m ∈ derL l then (derL l).length else 2 * (derL l).length := by
  rw [derL_snoc]
  unfold derF
  split
  · rfl
  · rw [List.length_append, List.length_map]
    omega
theorem nodup_lt : ∀ (n : Nat) (l : List Nat), l.Nodup → (∀ x ∈ l, x < n) → l.length ≤ n
  | 0, l, _, h => by
    cases l with
    | nil => exact Nat.le_refl _
    | cons a l => exact absurd (h a List.mem_cons_self) (by omega)
  | n + 1, l, nd, h => by
    by_cases hn : n ∈ l
    · have z := nodup_lt n (l.erase n) (nd.erase n) fun x hx => by
        have h1 := h x (List.mem_of_mem_erase hx)
        have h2 : x ≠ n := fun e => by
          subst e
          exact (List.Nodup.not_mem_erase nd) hx
        omega
      rw [List.length_erase_of_mem hn] at z
      omega
    · have z := nodup_lt n l nd fun x hx => by
        have h1 := h x hx
        have h2 : x ≠ n := fun e => hn (e ▸ hx)
        omega
      omega
theorem nodup_le : ∀ (l m : List Nat), l.Nodup → (∀ x ∈ l, x ∈ m) → l.length ≤ m.length
  | [], _, _, _ => Nat.zero_le _
  | a :: l, m, nd, h => by
    obtain ⟨n1, n2⟩ := List.nodup_cons.mp nd
    have ha := h a List.mem_cons_self
    have z := nodup_le l (m.erase a) n2 fun x hx => by
      have hne : x ≠ a := fun e => n1 (e ▸ hx)
      exact (List.mem_erase_of_ne hne).mpr (h x (List.mem_cons_of_mem _ hx))
    rw [List.length_erase_of_mem ha] at z
    have h1 : 1 ≤ m.length := List.length_pos_of_mem ha
    simp only [List.length_cons]
    omega
theorem derL_pow (l : List Nat) : ∃ k, (derL l).length = 2 ^ k := snoc_rec (p := fun l => ∃ k, (derL l).length = 2 ^ k) ⟨0, rfl⟩ (fun l a ⟨k, h⟩ => by
  rw [derL_len_step]
  split
  · exact ⟨k, h⟩
  · exact ⟨k + 1, by rw [h, Nat.pow_succ, Nat.mul_comm]⟩) l
/-- the rank -/
def rkM (l : List Nat) : Nat := (derL l).length.log2
theorem rkM_pow (l : List Nat) : (derL l).length = 2 ^ rkM l := by
  obtain ⟨k, h⟩ := derL_pow l
  unfold rkM
  rw [h, Nat.log2_two_pow]
theorem rkM_le {l : List Nat} (h : ∀ m ∈ l, m < 16) : rkM l ≤ 4 := by
  have z := nodup_lt 16 (derL l) (subL l).nd (der_16 l h _ (by simp))
  rw [rkM_pow] at z
  exact (Nat.pow_le_pow_iff_right (a := 2) (by decide)).mp (show 2 ^ rkM l ≤ 2 ^ 4 from z)
theorem pow2_inj {a b : Nat} (h : 2 ^ a = 2 ^ b) : a = b := by
  have z := congrArg Nat.log2 h
  rw [Nat.log2_two_pow, Nat.log2_two_pow] at z
  exact z
theorem rkM_snoc (l : List Nat) (m : Nat) : rkM (l ++ [m]) = rkM l + if m ∈ derL l then 0 else 1 := by
  have h := derL_len_step l m
  rw [rkM_pow, rkM_pow l] at h
  split at h
  · rename_i hm
    rw [if_pos hm]
    have := pow2_inj h
    omega
  · rename_i hm
    rw [if_neg hm]
    have e : 2 * 2 ^ rkM l = 2 ^ (rkM l + 1) := by rw [Nat.pow_succ, Nat.mul_comm]
    rw [e] at h
    have := pow2_inj h
    omega
theorem rkM_mono {l l' : List Nat} (h : ∀ m ∈ l, m ∈ derL l') : rkM l ≤ rkM l' := by
  have z := nodup_le (derL l) (derL l') (subL l).nd (derL_sub (subL l') h)
  rw [rkM_pow, rkM_pow l'] at z
  exact (Nat.pow_le_pow_iff_right (a := 2) (by decide)).mp z
theorem rkM_eq {l l' : List Nat} (h : ∀ m ∈ l, m ∈ derL l') (h' : ∀ m ∈ l', m ∈ derL l) : rkM l = rkM l' := Nat.le_antisymm (rkM_mono h) (rkM_mono h')
theorem rkM_set {l l' : List Nat} (h : ∀ m, m ∈ l ↔ m ∈ l') : rkM l = rkM l' := rkM_eq (fun m hm => derL_mem l' m ((h m).mp hm)) (fun m hm => derL_mem l m ((h m).mpr hm))
/-- diminishing returns -/
theorem rkM_sub {A B : List Nat} (h : ∀ m ∈ A, m ∈ derL B) (l : List Nat) : rkM (B ++ l) + rkM A ≤ rkM (A ++ l) + rkM B := by
  have hh : ∀ l, ∀ m ∈ A ++ l, m ∈ derL (B ++ l) := fun l m hm => by
    rcases List.mem_append.mp hm with h1 | h1
    · exact derL_sub (subL (B ++ l)) (fun x hx => derL_mem _ _ (List.mem_append_left _ hx)) m (h m h1)
    · exact derL_mem _ _ (List.mem_append_right _ h1)
  refine snoc_rec (p := fun l => rkM (B ++ l) + rkM A ≤ rkM (A ++ l) + rkM B) ?_ (fun l a ih => ?_) l
  · rw [List.append_nil, List.append_nil]
    omega
  · rw [← List.append_assoc, ← List.append_assoc, rkM_snoc, rkM_snoc]
    have hs : a ∈ derL (A ++ l) → a ∈ derL (B ++ l) := fun ha => derL_sub (subL (B ++ l)) (hh l) a ha
    by_cases h1 : a ∈ derL (A ++ l)
    · rw [if_pos h1, if_pos (hs h1)]
      omega
    · rw [if_neg h1]
      split <;> omega
/-! ### rows -/
def tabA : List (List Nat) := [[], [8], [9], [10], [11], [12], [13], [14], [15]]
def tabB : List (List Nat) := [[], [4], [5], [6], [7]]
def tabC : List (List Nat) := [[], [2], [3]]
def tabD : List (List Nat) := [[], [1]]
def tabF (a : List Nat) : List (List Nat) := tabB.flatMap fun b => tabC.flatMap fun c => tabD.map fun d => a ++ (b ++ (c ++ d))
def rowTab : List (List Nat) := tabA.flatMap tabF
def inTab (l : List Nat) : Bool := tabA.contains (l.filter fun x => Nat.ble 8 x) && (tabB.contains (l.filter fun x => Nat.ble 4 x && Nat.ble x 7) && (tabC.contains (l.filter fun x => Nat.ble 2 x && Nat.ble x 3) && (tabD.contains (l.filter fun x => Nat.ble x 1) && l == (l.filter fun x => Nat.ble 8 x) ++ ((l.filter fun x => Nat.ble 4 x && Nat.ble x 7) ++ ((l.filter fun x => Nat.ble 2 x && Nat.ble x 3) ++ (l.filter fun x => Nat.ble x 1))))))
theorem inTab_mem {l : List Nat} (h : inTab l = true) : l ∈ rowTab := by
  unfold inTab at h
  simp only [Bool.and_eq_true, List.contains_iff_mem, beq_iff_eq] at h
  obtain ⟨h1, h2, h3, h4, h5⟩ := h
  rw [h5]
  refine List.mem_flatMap.mpr ⟨_, h1, List.mem_flatMap.mpr ⟨_, h2, List.mem_flatMap.mpr ⟨_, h3, List.mem_map.mpr ⟨_, h4, rfl⟩⟩⟩⟩
def leftQ : List Nat → Nat → Nat
  | [], m => m
  | r :: l, m => leftQ l (bif Nat.ble m (m ^^^ r) then m else m ^^^ r)
theorem leftQ_eq : ∀ (l : List Nat) (m : Nat), leftQ l m = left l m
  | [], _ => rfl
  | r :: l, m => by
    unfold leftQ left
    rw [List.foldl_cons, leftQ_eq l]
    unfold left
    congr 1
    cases h : Nat.ble m (m ^^^ r) with
    | true => exact (Nat.min_eq_left (Nat.le_of_ble_eq_true h)).symm
    | false =>
      have z : ¬ m ≤ m ^^^ r := fun z => by
        rw [Nat.ble_eq_true_of_le z] at h
        cases h
      exact (show (bif false then m else m ^^^ r) = min m (m ^^^ r) from (Nat.min_eq_right (show m ^^^ r ≤ m by omega)).symm)
def insQ (x : Nat) : List Nat → List Nat
  | [] => [x]
  | y :: l => bif Nat.ble y x then x :: y :: l else y :: insQ x l
theorem insQ_eq (x : Nat) : ∀ l : List Nat, insQ x l = insD x l
  | [] => rfl
  | y :: l => by
    unfold insQ insD
    cases h : Nat.ble y x with
    | true => rw [if_pos (Nat.le_of_ble_eq_true h)]; rfl
    | false =>
      have z : ¬ y ≤ x := fun z => by
        rw [Nat.ble_eq_true_of_le z] at h
        cases h
      rw [if_neg z, ← insQ_eq x l]
      rfl
def ckX (rows new : List Nat) (m : Nat) : Nat → Bool
  | 0 => true
  | x + 1 => (Nat.beq (leftQ new x) 0 == (Nat.beq (leftQ rows x) 0 || Nat.beq (leftQ rows (x ^^^ m)) 0)) && ckX rows new m x
def ckM (rows : List Nat) : Nat → Bool
  | 0 => true
  | m + 1 => (Nat.beq (leftQ rows m) 0 || (inTab (insQ (leftQ rows m) rows) && ckX rows (insQ (leftQ rows m) rows) m 16)) && ckM rows m
theorem tab_0 : (tabF []).all (ckM · 16) = true := by decide +kernel
theorem tab_1 : (tabF [8]).all (ckM · 16) = true := by decide +kernel
theorem tab_2 : (tabF [9]).all (ckM · 16) = true := by decide +kernel
theorem tab_3 : (tabF [10]).all (ckM · 16) = true := by decide +kernel
theorem tab_4 : (tabF [11]).all (ckM · 16) = true := by decide +kernel
theorem tab_5 : (tabF [12]).all (ckM · 16) = true := by decide +kernel
theorem tab_6 : (tabF [13]).all (ckM · 16) = true := by decide +kernel
theorem tab_7 : (tabF [14]).all (ckM · 16) = true := by decide +kernel
theorem tab_8 : (tabF [15]).all (ckM · 16) = true := by decide +kernel
theorem nbeq (a : Nat) : Nat.beq a 0 = (a == 0) := by cases a <;> rfl
theorem ckX_all {rows new : List Nat} {m : Nat} : ∀ {n : Nat}, ckX rows new m n = true → ∀ x < n, (left new x == 0) = (left rows x == 0 || left rows (x ^^^ m) == 0)
  | 0, _, x, hx => absurd hx (by omega)
  | n + 1, h, x, hx => by
    unfold ckX at h
    rw [Bool.and_eq_true] at h
    by_cases e : x = n
    · subst e
      have z := h.1
      rw [leftQ_eq, leftQ_eq, leftQ_eq, nbeq, nbeq, nbeq] at z
      exact eq_of_beq z
    · exact ckX_all h.2 x (by omega)
theorem ckM_all {rows : List Nat} : ∀ {n : Nat}, ckM rows n = true → ∀ m < n, left rows m = 0 ∨ (insD (left rows m) rows ∈ rowTab ∧ ∀ x < 16, (left (insD (left rows m) rows) x == 0) = (left rows x == 0 || left rows (x ^^^ m) == 0))
  | 0, _, m, hm => absurd hm (by omega)
  | n + 1, h, m, hm => by
    unfold ckM at h
    rw [Bool.and_eq_true] at h
    by_cases e : m = n
    · subst e
      rcases (Bool.or_eq_true _ _).mp h.1 with z | z
      · left
        rw [leftQ_eq] at z
        exact Nat.eq_of_beq_eq_true z
      · right
        rw [Bool.and_eq_true, leftQ_eq, insQ_eq] at z
        exact ⟨inTab_mem z.1, fun x hx => ckX_all z.2 x hx⟩
    · exact ckM_all h.2 m (by omega)
theorem tab_all : ∀ rows ∈ rowTab, ckM rows 16 = true := by
  intro rows h
  obtain ⟨a, ha, h2⟩ := List.mem_flatMap.mp h
  have g : ∀ a ∈ tabA, (tabF a).all (ckM · 16) = true := by
    intro a ha
    simp only [tabA, List.mem_cons, List.not_mem_nil, or_false] at ha
    rcases ha with e | e | e | e | e | e | e | e | e <;> subst e
    · exact tab_0
    · exact tab_1
    · exact tab_2
    · exact tab_3
    · exact tab_4
    · exact tab_5
    · exact tab_6
    · exact tab_7
    · exact tab_8
  exact List.all_eq_true.mp (g a ha) rows h2
theorem tab_nil : [] ∈ rowTab := inTab_mem (by decide)
theorem tab_zero : ∀ x < 16, (left [] x = 0 ↔ x = 0) := by decide +kernel
structure RowOk (rows l : List Nat) : Prop where
  tab : rows ∈ rowTab
  mem : ∀ x < 16, left rows x = 0 ↔ x ∈ derL l
  len : rows.length = rkM l
theorem rowOk_nil : RowOk [] [] := ⟨tab_nil, fun x hx => by rw [tab_zero x hx]; simp [derL], by decide⟩
theorem RowOk.step {rows l : List Nat} (h : RowOk rows l) {m : Nat} (hm : m < 16) : RowOk (addR rows m) (l ++ [m]) := by
  have hmem := h.mem m hm
  unfold addR
  by_cases h0 : left rows m = 0
  · rw [if_pos h0]
    have hin := hmem.mp h0
    refine ⟨h.tab, fun x hx => ?_, ?_⟩
    · rw [h.mem x hx, derL_snoc]
      unfold derF
      rw [if_pos hin]
    · rw [rkM_snoc, if_pos hin, h.len]
      omega
  · rw [if_neg h0]
    have hnin : m ∉ derL l := fun z => h0 (hmem.mpr z)
    rcases ckM_all (tab_all rows h.tab) m hm with z | ⟨t3, t4⟩
    · exact absurd z h0
    refine ⟨t3, fun x hx => ?_, ?_⟩
    · rw [derL_snoc, mem_derF (subL l), ← h.mem x hx, ← h.mem _ (xor16 hx hm)]
      have e1 : (left (insD (left rows m) rows) x = 0) ↔ ((left (insD (left rows m) rows) x == 0) = true) := by simp
      rw [e1, t4 x hx]
      simp
    · rw [rkM_snoc, if_neg hnin, (insD_perm _ _).length_eq, List.length_cons, h.len]
theorem RowOk.steps : ∀ (ms rows l : List Nat), RowOk rows l → (∀ m ∈ ms, m < 16) → RowOk (ms.foldl addR rows) (l ++ ms)
  | [], rows, l, h, _ => by
    rw [List.append_nil]
    exact h
  | m :: ms, rows, l, h, hm => by
    have z := RowOk.steps ms _ _ (h.step (hm m List.mem_cons_self)) fun x hx => hm x (List.mem_cons_of_mem _ hx)
    rw [List.append_assoc] at z
    exact z
/-- the masks of a set's nodes -/
def msIn (f : Nat → List Nat) (X : Nat) : List Nat := (List.range 5).flatMap fun i => if X.testBit i then f i else []
theorem rowsOf_ok (f : Nat → List Nat) (X : Nat) (h : ∀ i, ∀ m ∈ f i, m < 16) : RowOk (rowsOf f X) (msIn f X) := by
  unfold rowsOf msIn
  have all : ∀ (is rows l : List Nat), RowOk rows l → RowOk (is.foldl (fun acc i => if X.testBit i then (f i).foldl addR acc else acc) rows) (l ++ is.flatMap fun i => if X.testBit i then f i else []) := by
    intro is
    induction is with
    | nil =>
      intro rows l h
      simpa using h
    | cons i is ih =>
      intro rows l hr
      rw [List.foldl_cons, List.flatMap_cons, ← List.append_assoc]
      refine ih _ _ ?_
      split
      · exact RowOk.steps _ _ _ hr (h i)
      · rw [List.append_nil]
        exact hr
  exact all (List.range 5) [] [] rowOk_nil
theorem mem_msIn {f : Nat → List Nat} {X m : Nat} : m ∈ msIn f X ↔ ∃ i < 5, X.testBit i = true ∧ m ∈ f i := by
  unfold msIn
  rw [List.mem_flatMap]
  refine ⟨fun ⟨i, hi, h⟩ => ?_, fun ⟨i, hi, hb, h⟩ => ⟨i, List.mem_range.mpr hi, by rw [if_pos hb]; exact h⟩⟩
  split at h
  · rename_i hb
    exact ⟨i, List.mem_range.mp hi, hb, h⟩
  · cases h
end AK
set_option Elab.async false
set_option linter.all false
set_option maxRecDepth 100000
set_option maxHeartbeats 1000000
namespace AK
local macro_rules | `(tactic| walk_at "akgo") => `(tactic| (repeat (first | with_reducible refine q_seq ?_ | with_reducible refine q_asg ?_ | with_reducible refine q_drop ?_ | with_reducible refine q_ret ?_ | with_reducible refine q_next ?_ | with_reducible refine q_break ?_ | with_reducible refine ev_int ?_ | with_reducible refine ev_str ?_ | with_reducible refine ev_bl ?_ | with_reducible refine ev_non ?_ | with_reducible refine ev_ty ?_ | with_reducible refine ev_cls ?_ | with_reducible refine ev_op ?_ | with_reducible refine ev_un ?_ | with_reducible refine ev_cb ?_ | with_reducible refine evA_cons ?_ | with_reducible refine evA_nil ?_ | with_reducible refine rd_int ?_ | with_reducible refine rd_cmp ?_ | with_reducible refine r1_neg ?_ | with_reducible refine rd_eqI ?_ | with_reducible refine rd_neI ?_ | with_reducible refine rd_eqS ?_ | with_reducible refine rd_neS ?_ | with_reducible refine rd_neB ?_ | with_reducible refine rd_isN ?_ | with_reducible refine rd_notN ?_ | with_reducible refine rd_notB ?_ | with_reducible refine rd_inS ?_ | with_reducible refine rd_ninS ?_ | with_reducible refine evT_test ?_ | with_reducible refine evT_B ?_ | with_reducible refine evT_not ?_ | with_reducible refine evT_yes ?_ | with_reducible refine ev_notV ?_ | with_reducible refine rc_int ?_ | with_reducible refine rc_min2 ?_ | with_reducible refine rc_max2 ?_ | with_reducible refine rc_lenT ?_ | with_reducible refine q_asgG ?_ | with_reducible refine gds_nil ?_ | with_reducible refine gds_name ?_ | with_reducible refine ev_call ?_ | with_reducible refine gd_name ?_ | with_reducible refine ev_tup ?_ | with_reducible refine ev_var (by with_unfolding_all rfl) ?_ | with_reducible refine ⟨_, rfl, ?_⟩ | with_reducible refine gd_tup rfl ?_ | with_reducible refine rc_lenL LV.o ?_)))
open PySem PySem.Spec PyProof.Rows L2
variable {P : Program} {w : World} {K : PySem.W.Frag} {mg : Str → Option Value} {base : Heap}
/-! ### the law's own network -/
def lawNet (N : Net) : Cell := .dk NK [.int N.v, nodesA N true, .lst (N.links.map lkD)]
def ul (X : Nat) : List Nat := ((List.range 6).filter X.testBit).map (65 + ·)
abbrev ut (X : Nat) : Str := tx (ul X)
theorem ul_add : ∀ k < 5, ∀ X < 2 ^ k, ul (2 ^ k + X) = ul X ++ [65 + k] := by decide +kernel
theorem ul_zero : ut 0 = tx [] := by decide +kernel
theorem ul_ne : ∀ X < 64, X ≠ 0 → ut X ≠ tx [] := by decide +kernel
theorem ul_len : ∀ X < 64, (ul X).length ≤ 6 := by decide +kernel
theorem ul_pos : ∀ X < 64, X ≠ 0 → 1 ≤ (ul X).length := by decide +kernel
theorem ul_mem : ∀ X < 64, ∀ k < 6, (decide (65 + k ∈ (ut X).cps.toList)) = X.testBit k := by decide +kernel
theorem ul_ABC : tx ABC6 = ut 63 := by decide +kernel
theorem ul_inj : ∀ X < 32, ∀ Y < 32, ut X = ut Y → X = Y := by decide +kernel
def p_law_sets : Phi := fun S ds P => ∃ n : Nat, ds = [.int n] ∧ n ≤ 5 ∧ ∀ xs : List Str, xs.Perm (((List.range (2 ^ n)).filter fun X => decide (X ≠ 0)).map ut) → P S (.lst (xs.map D.str))
theorem sx_law_sets (S : Sto) (ds : List D) (Q : Sto → D → Prop) (h : p_law_sets S ds Q) : Sx S (startD N_law_sets.length ds) (t_law_sets K) { nx := fun S' _ => Q S' .non, rt := Q } := by
  obtain ⟨n, rfl, hn, hq⟩ := h
  unfold t_law_sets
  rw [s_ABC, s_nil]
  have p32 : ∀ k, k ≤ 5 → 2 ^ k ≤ 32 := fun k hk => Nat.le_trans (Nat.pow_le_pow_right (by decide) hk) (by decide)
  walk_at "akgo"
  refine ev_lst ?_
  walk_at "akgo"
  refine ⟨by simp, ?_⟩
  walk_at "akgo"
  refine q_forM (fun i : Nat => D.str (up i)) (List.range n) (fun (k : Nat) (S' : Sto) (ρ' : Env) => S = S' ∧ ∃ x y z, ρ' = [some (.int n), some (.lst ((List.range (2 ^ k)).map fun X => D.str (ut X))), x, y, z]) (evI_str ?_) ?_ ?_
  · refine ev_sl ?_
    walk_at "akgo"
    refine evO_none (evO_some ?_)
    walk_at "akgo"
    refine sl_S (tx_small (by simp)) ?_
    rw [cut_take, ABC_take _ (by omega)]
    walk_at "akgo"
    refine ⟨?_, fun _ _ _ _ _ => trivial, rfl, none, none, none, ?_⟩
    · show signsD (tx ((List.range n).map (65 + ·))) = _
      rw [signs_tx, List.map_map]
      rfl
    · show _ = [some (D.int n), some (D.lst [D.str (ut 0)]), none, none, none]
      rw [ul_zero]
      rfl
  · rintro k i S' ρ' hi ⟨rfl, x, y, z, rfl⟩
    have hkn : k < n := by
      have := (List.getElem?_eq_some_iff.mp hi).1
      simpa using this
    have ek : i = k := by
      rw [List.getElem?_range hkn] at hi
      exact (Option.some.inj hi).symm
    subst ek
    have hp := p32 i (by omega)
    walk_at "akgo"
    refine ev_lcA (own_name (by decide)) (S = ·) (fun X => D.str (ut X)) (List.range (2 ^ i)) (fun X => D.str (ut (2 ^ i + X))) (by rw [List.length_range]; omega) (evI_list ?_) ?_ ?_
    · walk_at "akgo"
      exact ⟨_, .o, rfl, fun _ _ => .o, rfl⟩
    · rintro X hX _ rfl
      have hX2 := List.mem_range.mp hX
      have h6 := ul_len X (by omega)
      walk_at "akgo"
      refine rd_addS (by rw [tx_len, tx_len]; simp; omega) ⟨rfl, ?_⟩
      show D.str (tx (ul X) ++ tx [65 + i]) = D.str (tx (ul (2 ^ i + X)))
      rw [tx_append, ul_add i (by omega) X hX2]
    · rintro _ rfl
      refine rd_cat .o .o (by rw [List.length_map, List.length_map, List.length_range]; omega) ⟨rfl, some (.str (up i)), y, z, ?_⟩
      have e : (2 : Nat) ^ (i + 1) = 2 ^ i + 2 ^ i := by rw [Nat.pow_succ]; omega
      rw [e, List.range_add, List.map_append, List.map_map]
      rfl
  · rintro S' ρ' ⟨rfl, x, y, z, rfl⟩
    rw [List.length_range]
    have hp := p32 n hn
    have hfl : ((List.range (2 ^ n)).filter fun X => decide (X ≠ 0)).length ≤ 2 ^ n := Nat.le_trans (List.length_filter_le ..) (by rw [List.length_range]; exact Nat.le_refl _)
    refine q_ret (ev_lc (own_name (by decide)) (evI_list ?_))
    walk_at "akgo"
    refine ev_lcM (own_name (by decide)) (S = ·) (fun X => D.str (ut X)) (List.range (2 ^ n)) (fun X => decide (X ≠ 0)) (fun X => pairI (((ul X).length : Nat), ut X)) (by rw [List.length_range]; omega) (evI_list ?_) ?_ ?_
    · walk_at "akgo"
      exact ⟨_, .o, rfl, fun _ _ => .o, rfl⟩
    · rintro X hX _ rfl
      have hX2 := List.mem_range.mp hX
      walk_at "akgo"
      refine ⟨?_, fun hc => ?_, fun _ => rfl⟩
      · by_cases h0 : X = 0
        · subst h0
          rw [ul_zero]
          rfl
        · have z := ul_ne X (by omega) h0
          rw [decide_eq_false z, decide_eq_true h0]
          rfl
      · walk_at "akgo"
        refine rc_lenS (tx_small (by have := ul_len X (by omega); omega)) ?_
        rw [tx_len]
        walk_at "akgo"
        exact ⟨by simp, rfl, rfl⟩
    · rintro _ rfl
      walk_at "akgo"
      have e0 : ((List.range (2 ^ n)).filter fun X => decide (X ≠ 0)).map (fun X => pairI ((((ul X).length : Nat) : Int), ut X)) = (((List.range (2 ^ n)).filter fun X => decide (X ≠ 0)).map fun X => ((((ul X).length : Nat) : Int), ut X)).map pairI := by
        rw [List.map_map]
        rfl
      rw [e0]
      refine rc_sortedPI fun ps pm => ?_
      have hpl : ps.length ≤ 32 := by
        rw [pm.length_eq, List.length_map]
        omega
      refine ⟨_, .o, comp_map (S = ·) pairI ps (fun _ => true) (fun p => .str p.2) rfl (by omega) rfl (fun _ _ => by exact LV.o) ?_ ?_⟩
      · rintro p _ _ rfl
        walk_at "akgo"
        refine ⟨rfl, fun _ => ?_, fun h => Bool.noConfusion h⟩
        walk_at "akgo"
        exact rd_ixT (l := [.int p.1, .str p.2]) (d := .str p.2) rfl ⟨rfl, rfl⟩
      · rintro _ rfl
        rw [filter_yes]
        have e1 : (ps.map fun p => D.str p.2) = (ps.map (·.2)).map D.str := by
          rw [List.map_map]
          rfl
        rw [e1]
        refine hq _ ?_
        have z := pm.map (·.2)
        rw [List.map_map] at z
        exact z
def Net.msF (N : Net) (i : Nat) : List Nat := N.nodes[i]?.getD []
def Net.msIn (N : Net) (z : Nat) : List Nat := (List.range N.n).flatMap fun k => if z.testBit k then N.msF k else []
theorem net_ms16 {N : Net} (ok : N.Ok) (i : Nat) : (N.msF i).length ≤ 4 ∧ ∀ m ∈ N.msF i, 1 ≤ m ∧ m < 16 := by
  unfold Net.msF
  cases e : N.nodes[i]? with
  | none => exact ⟨Nat.zero_le _, fun m h => by cases h⟩
  | some ms =>
    have h1 := List.mem_of_getElem? e
    exact ⟨ok.ms4 ms h1, fun m hm => ⟨(ok.msv ms h1 m hm).1, pow_16 ok.v4 (ok.msv ms h1 m hm).2⟩⟩
theorem flat_bound {f : Nat → List Nat} (h : ∀ i, (f i).length ≤ 4) : ∀ l : List Nat, (l.flatMap f).length ≤ 4 * l.length
  | [] => Nat.zero_le _
  | a :: l => by
    have := flat_bound h l
    have := h a
    rw [List.flatMap_cons, List.length_append, List.length_cons]
    omega
def p_law_messages_of : Phi := fun S ds P => ∃ (d : Addr) (N : Net) (z : Nat), ds = [.ref d, .str (ut z)] ∧ S d = some (lawNet N) ∧ N.Ok ∧ z < 64 ∧ P S (.lst ((N.msIn z).map msgD))
theorem sx_law_messages_of (S : Sto) (ds : List D) (Q : Sto → D → Prop) (h : p_law_messages_of S ds Q) : Sx S (startD N_law_messages_of.length ds) (t_law_messages_of K) { nx := fun S' _ => Q S' .non, rt := Q } := by
  obtain ⟨d, N, z, rfl, hd, ok, hz, hq⟩ := h
  have hn : N.nodes.length ≤ 5 := ok.n5
  unfold t_law_messages_of
  rw [s_ABC]
  walk_at "akgo"
  refine ev_lstH ?_
  walk_at "akgo"
  refine ⟨by simp, fun a ha => ?_⟩
  have hda : d ≠ a := fun e => by rw [e, ha] at hd; cases hd
  have hdp : ∀ c, S.put a c d = some (lawNet N) := fun c => by rw [put_ne hda]; exact hd
  walk_at "akgo"
  refine q_forM intD (List.range N.n) (fun (i : Nat) (S' : Sto) (ρ' : Env) => S' = S.put a (.lst ((((List.range N.n).take i).flatMap fun k => if z.testBit k then N.msF k else []).map msgD)) ∧ ∃ x, ρ' = [some (.ref d), some (.str (ut z)), some (.ref a), x]) (evI_rng1 ?_) ?_ ?_
  · walk_at "akgo"
    (refine ev_dget ?_; walk_at "akgo"; refine ⟨_, _, _, _, _, rfl, rfl, (hdp _), (by with_unfolding_all rfl), ?_⟩; walk_at "akgo")
    rw [List.length_map]
    exact ⟨by omega, by omega, rangeD_nat _, fun _ _ _ _ _ => trivial, rfl, none, rfl⟩
  · rintro i b S' ρ' hi ⟨rfl, x, rfl⟩
    have hin : i < N.n := by
      have := (List.getElem?_eq_some_iff.mp hi).1
      simpa using this
    have ei : b = i := by
      rw [List.getElem?_range hin] at hi
      exact (Option.some.inj hi).symm
    subst ei
    have hn5 : b < 5 := by unfold Net.n at hin; omega
    obtain ⟨ms, hms⟩ : ∃ ms, N.nodes[b]? = some ms := ⟨N.nodes[b]'hin, List.getElem?_eq_getElem hin⟩
    have hF : N.msF b = ms := by
      unfold Net.msF
      rw [hms]
      rfl
    have hbnd := flat_bound (f := fun k => if z.testBit k then N.msF k else []) (fun k => by split; exact (net_ms16 ok k).1; exact Nat.zero_le _) ((List.range N.n).take b)
    rw [List.length_take, List.length_range] at hbnd
    have h4 := (net_ms16 ok b).1
    rw [flat_take _ hi]
    unfold intD
    walk_at "akgo"
    refine q_if ?_
    walk_at "akgo"
    refine rd_ixS (c := 65 + b) (tx_small (by simp)) (ABC_at b (by omega)) ?_
    walk_at "akgo"
    rw [ul_mem z hz b (by omega)]
    refine ⟨fun hc => ?_, fun hc => ?_⟩
    · walk_at "akgo"
      refine ev_bm ?_
      walk_at "akgo"
      refine ⟨⟨rfl, _, put_same⟩, ?_⟩
      walk_at "akgo"
      (refine ev_dget ?_; walk_at "akgo"; refine ⟨_, _, _, _, _, rfl, rfl, (hdp _), (by with_unfolding_all rfl), ?_⟩; walk_at "akgo")
      refine rd_ixL (l := N.nodes.map fun ms => seqD true (ms.map msgD)) (d := .lst (ms.map msgD)) .o (atI_natD (by rw [List.getElem?_map, hms]; rfl)) ?_
      walk_at "akgo"
      rw [hF] at h4
      refine rm_extend put_same .o (by rw [List.length_map, List.length_map]; omega) ?_
      rw [put_put, if_pos hc, List.map_append, hF]
      exact ⟨rfl, _, rfl⟩
    · rw [hc, if_neg (by decide), List.append_nil]
      walk_at "akgo"
      exact ⟨rfl, _, rfl⟩
  · rintro S' ρ' ⟨rfl, x, rfl⟩
    have e0 : (List.range N.n).take (List.range N.n).length = List.range N.n := List.take_length
    rw [e0]
    refine q_ret (ev_frzL ?_)
    walk_at "akgo"
    refine ⟨_, _, rfl, put_same, ?_⟩
    rw [del_put ha]
    exact hq
theorem msIn_16 {N : Net} (ok : N.Ok) (z : Nat) : ∀ m ∈ N.msIn z, m < 16 := fun m hm => by
  obtain ⟨k, _, h⟩ := List.mem_flatMap.mp hm
  split at h
  · exact ((net_ms16 ok k).2 m h).2
  · cases h
def Net.lawDem (N : Net) (z : Nat) : Int := (rkM (N.msIn 63) : Int) - rkM (N.msIn z)
def p_law_demand : Phi := fun S ds P => ∃ (d : Addr) (N : Net) (z : Nat), ds = [.ref d, .str (ut z)] ∧ S d = some (lawNet N) ∧ N.Ok ∧ z < 64 ∧ P S (.int (N.lawDem z))
theorem sx_law_demand (S : Sto) (ds : List D) (Q : Sto → D → Prop) (h : p_law_demand S ds Q) : Sx S (startD N_law_demand.length ds) (t_law_demand K p_law_messages_of p_law_rank) { nx := fun S' _ => Q S' .non, rt := Q } := by
  obtain ⟨d, N, z, rfl, hd, ok, hz, hq⟩ := h
  unfold t_law_demand
  rw [s_ABC, ul_ABC]
  have h1 := rkM_le (msIn_16 ok 63)
  have h2 := rkM_le (msIn_16 ok z)
  walk_at "akgo"
  refine ⟨d, N, 63, rfl, hd, ok, by decide, ?_⟩
  walk_at "akgo"
  refine ⟨_, rkM (N.msIn 63), rfl, msIn_16 ok 63, rkM_pow _, by omega, ?_⟩
  walk_at "akgo"
  refine ⟨d, N, z, rfl, hd, ok, hz, ?_⟩
  walk_at "akgo"
  refine ⟨_, rkM (N.msIn z), rfl, msIn_16 ok z, rkM_pow _, by omega, ?_⟩
  exact rd_int hq
def Net.lawEnt (N : Net) (z : Nat) : List Nat := (List.range N.links.length).filter fun l => inX z (N.link l)
def p_law_entering : Phi := fun S ds P => ∃ (d : Addr) (N : Net) (z : Nat), ds = [.ref d, .str (ut z)] ∧ S d = some (lawNet N) ∧ N.Ok ∧ z < 64 ∧ P S (intsD (N.lawEnt z))
theorem sx_law_entering (S : Sto) (ds : List D) (Q : Sto → D → Prop) (h : p_law_entering S ds Q) : Sx S (startD N_law_entering.length ds) (t_law_entering K) { nx := fun S' _ => Q S' .non, rt := Q } := by
  obtain ⟨d, N, z, rfl, hd, ok, hz, hq⟩ := h
  have h16 := ok.l16
  have hn : N.nodes.length ≤ 5 := ok.n5
  unfold t_law_entering
  walk_at "akgo"
  refine ev_lcM (own_name (by decide)) (S = ·) intD (List.range N.links.length) (fun l => inX z (N.link l)) intD (by rw [List.length_range]; omega) (evI_rng1 ?_) ?_ ?_
  · walk_at "akgo"
    (refine ev_dget ?_; walk_at "akgo"; refine ⟨_, _, _, _, _, rfl, rfl, hd, (by with_unfolding_all rfl), ?_⟩; walk_at "akgo")
    rw [List.length_map]
    exact ⟨by omega, by omega, rangeD_nat _, fun _ _ => trivial, rfl⟩
  · rintro l hl _ rfl
    have hll := List.mem_range.mp hl
    have hat := link_at hll
    obtain ⟨k1, k2, k3⟩ := ok.lks _ (List.mem_of_getElem? hat)
    unfold intD
    refine gd_name (evT_and ?_)
    walk_at "akgo"
    (refine ev_dget ?_; walk_at "akgo"; refine ⟨_, _, _, _, _, rfl, rfl, hd, (by with_unfolding_all rfl), ?_⟩; walk_at "akgo")
    refine rd_ixL (d := lkD (N.link l)) .o (atI_natD (by rw [List.getElem?_map, hat]; rfl)) ?_
    unfold lkD
    walk_at "akgo"
    refine rd_ixS (c := 65 + (N.link l).2) (tx_small (by simp)) rfl ?_
    walk_at "akgo"
    rw [ul_mem z hz _ (by omega)]
    refine ⟨fun hc => ?_, fun hc => ?_⟩
    · walk_at "akgo"
      (refine ev_dget ?_; walk_at "akgo"; refine ⟨_, _, _, _, _, rfl, rfl, hd, (by with_unfolding_all rfl), ?_⟩; walk_at "akgo")
      refine rd_ixL (d := lkD (N.link l)) .o (atI_natD (by rw [List.getElem?_map, hat]; rfl)) ?_
      unfold lkD
      walk_at "akgo"
      refine rd_ixS (c := 65 + (N.link l).1) (tx_small (by simp)) rfl ?_
      walk_at "akgo"
      rw [ul_mem z hz _ (by omega)]
      refine ⟨?_, fun _ => ?_, fun _ => rfl⟩
      · unfold inX
        rw [hc, Bool.true_and]
      · walk_at "akgo"
        exact ⟨rfl, rfl⟩
    · refine ⟨?_, fun h => ?_, fun _ => rfl⟩
      · unfold inX
        rw [hc, Bool.false_and]
      · unfold inX at h
        rw [hc, Bool.false_and] at h
        cases h
  · rintro _ rfl
    exact hq
abbrev Net.lawDef (N : Net) (z : Nat) : Prop := ((N.lawEnt z).length : Int) < N.lawDem z
def p_law_deficient : Phi := fun S ds P => ∃ (d : Addr) (N : Net), ds = [.ref d] ∧ S d = some (lawNet N) ∧ N.Ok ∧ (∀ z, z ≠ 0 → z < 2 ^ N.n → N.lawDef z → P S (.str (ut z))) ∧ ((∀ z, z ≠ 0 → z < 2 ^ N.n → ¬ N.lawDef z) → P S (.str (ut 0)))
theorem sx_law_deficient (S : Sto) (ds : List D) (Q : Sto → D → Prop) (h : p_law_deficient S ds Q) : Sx S (startD N_law_deficient.length ds) (t_law_deficient K p_law_sets p_law_entering p_law_demand) { nx := fun S' _ => Q S' .non, rt := Q } := by
  obtain ⟨d, N, rfl, hd, ok, hq1, hq2⟩ := h
  have hn : N.n ≤ 5 := ok.n5
  have p32 : 2 ^ N.n ≤ 32 := Nat.le_trans (Nat.pow_le_pow_right (by decide) hn) (by decide)
  unfold t_law_deficient
  rw [s_nil, ← ul_zero]
  refine q_seq (q_for (evI_list ?_))
  walk_at "akgo"
  (refine ev_dget ?_; walk_at "akgo"; refine ⟨_, _, _, _, _, rfl, rfl, hd, (by with_unfolding_all rfl), ?_⟩; walk_at "akgo")
  rw [List.length_map]
  refine ⟨N.n, rfl, hn, fun xs pm => ?_⟩
  have hx : ∀ x ∈ xs, ∃ z, x = ut z ∧ z ≠ 0 ∧ z < 2 ^ N.n := fun x hx => by
    obtain ⟨z, hz, rfl⟩ := List.mem_map.mp (pm.mem_iff.mp hx)
    obtain ⟨z1, z2⟩ := List.mem_filter.mp hz
    exact ⟨z, rfl, of_decide_eq_true z2, List.mem_range.mp z1⟩
  have hx2 : ∀ z, z ≠ 0 → z < 2 ^ N.n → ut z ∈ xs := fun z h0 hz => pm.mem_iff.mpr (List.mem_map.mpr ⟨z, List.mem_filter.mpr ⟨List.mem_range.mpr hz, decide_eq_true h0⟩, rfl⟩)
  refine ⟨_, .o, fun (i : Nat) (S' : Sto) (ρ' : Env) => S = S' ∧ (∀ x ∈ xs.take i, ∀ z, z ≠ 0 → z < 2 ^ N.n → x = ut z → ¬ N.lawDef z) ∧ ∃ y, ρ' = [some (.ref d), y], ⟨rfl, by simp, none, rfl⟩, fun _ _ _ _ _ => .o, ?_, ?_⟩
  · rintro i dd S' ρ' hi ⟨rfl, hno, y, rfl⟩
    have hi2 : (xs.map D.str)[i]? = some dd := hi
    rw [List.getElem?_map] at hi2
    cases hxi : xs[i]? with
    | none =>
      rw [hxi] at hi2
      cases hi2
    | some x =>
      rw [hxi] at hi2
      cases hi2
      obtain ⟨z, rfl, z0, z1⟩ := hx x (List.mem_of_getElem? hxi)
      walk_at "akgo"
      refine q_if ?_
      walk_at "akgo"
      refine ⟨d, N, z, rfl, hd, ok, by omega, ?_⟩
      walk_at "akgo"
      refine ⟨d, N, z, rfl, hd, ok, by omega, ?_⟩
      rw [List.length_map]
      walk_at "akgo"
      refine ⟨fun hc => ?_, fun hc => ?_⟩
      · walk_at "akgo"
        exact hq1 z z0 z1 (of_decide_eq_true hc)
      · walk_at "akgo"
        refine ⟨rfl, fun x hx3 z' z0' z1' e => ?_, _, rfl⟩
        rw [take_succ_at hxi] at hx3
        rcases List.mem_append.mp hx3 with h | h
        · exact hno x h z' z0' z1' e
        · have ex : x = ut z := by simpa using h
          have ez : z' = z := ul_inj z' (by omega) z (by omega) (e.symm.trans ex)
          subst ez
          exact of_decide_eq_false hc
  · rintro S' ρ' ⟨rfl, hno, y, rfl⟩
    rw [show (DIt.items ⟨xs.map D.str, fun S' => LV S' (.lst (xs.map D.str)) (xs.map D.str)⟩).length = xs.length from List.length_map .., List.take_length] at hno
    walk_at "akgo"
    exact hq2 fun z z0 z1 => hno _ (hx2 z z0 z1) z z0 z1 rfl
/-! ### the links alone -/
def Net.only (N : Net) (ls : List Nat) : Net := ⟨N.v, N.nodes, ls.map N.link⟩
theorem Net.Ok.only {N : Net} (ok : N.Ok) {ls : List Nat} (hl : ls.length ≤ 16) (h : ∀ l ∈ ls, l < N.links.length) : (N.only ls).Ok :=
  ⟨ok.v4, ok.n1, ok.n5, ok.ms4, ok.msv, by show (ls.map N.link).length ≤ 16; rw [List.length_map]; exact hl, fun k hk => by
    obtain ⟨l, hl, rfl⟩ := List.mem_map.mp hk
    exact ok.lks _ (List.mem_of_getElem? (link_at (h l hl)))⟩
theorem ev_net {S : Sto} {ρ : Env} {t : TA} {P : Sto → D → Prop} (h : EvA S ρ t fun S1 xs => ∃ (N : Net) (b c : Bool), xs = [.int N.v, nodesA N b, seqD c (N.links.map lkD)] ∧ N.Ok ∧ P S1 (netD K N)) : Ev S ρ (tMake (He.ga K "Network") (toSp (p_Network_init K)) [] E0 t) P := by
  refine ev_frzO (ev_make ?_)
  refine fun F G H σ w s Q k => h F G H σ w s Q fun vs ds S' G' H' e w' p r => k vs ds S' G' H' e w' ?_ r
  obtain ⟨N, b, c, rfl, ok, hP⟩ := p
  intro a ha
  refine ⟨a, N, b, c, rfl, put_same, ok, rfl, a, _, _, _, rfl, put_same, ?_⟩
  rw [put_put, del_put ha]
  exact hP
def p_law_only (K : PySem.W.Frag) : Phi := fun S ds P => ∃ (d : Addr) (N : Net) (b : Bool) (ls : List Nat), ds = [.ref d, seqD b (ls.map intD)] ∧ S d = some (lawNet N) ∧ N.Ok ∧ ls.length ≤ 16 ∧ (∀ l ∈ ls, l < N.links.length) ∧ P S (netD K (N.only ls))
theorem sx_law_only (S : Sto) (ds : List D) (Q : Sto → D → Prop) (h : p_law_only K S ds Q) : Sx S (startD N_law_only.length ds) (t_law_only K (p_Network_init K)) { nx := fun S' _ => Q S' .non, rt := Q } := by
  obtain ⟨d, N, b, ls, rfl, hd, ok, hl, hls, hq⟩ := h
  unfold t_law_only
  walk_at "akgo"
  refine ev_net ?_
  walk_at "akgo"
  (refine ev_dget ?_; walk_at "akgo"; refine ⟨_, _, _, _, _, rfl, rfl, hd, (by with_unfolding_all rfl), ?_⟩; walk_at "akgo")
  (refine ev_dget ?_; walk_at "akgo"; refine ⟨_, _, _, _, _, rfl, rfl, hd, (by with_unfolding_all rfl), ?_⟩; walk_at "akgo")
  refine ev_lcA (own_name (by decide)) (S = ·) intD ls (fun l => lkD (N.link l)) (by omega) (evI_seqB (b := b) ?_) ?_ ?_
  · walk_at "akgo"
    exact ⟨rfl, fun _ _ => trivial, rfl⟩
  · rintro l hlm _ rfl
    have hat := link_at (hls l hlm)
    unfold intD
    walk_at "akgo"
    (refine ev_dget ?_; walk_at "akgo"; refine ⟨_, _, _, _, _, rfl, rfl, hd, (by with_unfolding_all rfl), ?_⟩; walk_at "akgo")
    exact rd_ixL (d := lkD (N.link l)) .o (atI_natD (by rw [List.getElem?_map, hat]; rfl)) ⟨rfl, rfl⟩
  · rintro _ rfl
    walk_at "akgo"
    refine ⟨N.only ls, true, true, ?_, ok.only hl hls, hq⟩
    unfold Net.only
    rw [List.map_map]
    rfl
end AK
set_option Elab.async false
set_option linter.all false
set_option maxRecDepth 100000
set_option maxHeartbeats 1000000
namespace AK
local macro_rules | `(tactic| walk_at "akgo") => `(tactic| (repeat (first | with_reducible refine q_seq ?_ | with_reducible refine q_asg ?_ | with_reducible refine q_drop ?_ | with_reducible refine q_ret ?_ | with_reducible refine q_next ?_ | with_reducible refine q_break ?_ | with_reducible refine ev_int ?_ | with_reducible refine ev_str ?_ | with_reducible refine ev_bl ?_ | with_reducible refine ev_non ?_ | with_reducible refine ev_ty ?_ | with_reducible refine ev_cls ?_ | with_reducible refine ev_op ?_ | with_reducible refine ev_un ?_ | with_reducible refine ev_cb ?_ | with_reducible refine evA_cons ?_ | with_reducible refine evA_nil ?_ | with_reducible refine rd_int ?_ | with_reducible refine rd_cmp ?_ | with_reducible refine r1_neg ?_ | with_reducible refine rd_eqI ?_ | with_reducible refine rd_neI ?_ | with_reducible refine rd_eqS ?_ | with_reducible refine rd_neS ?_ | with_reducible refine rd_neB ?_ | with_reducible refine rd_isN ?_ | with_reducible refine rd_notN ?_ | with_reducible refine rd_notB ?_ | with_reducible refine rd_inS ?_ | with_reducible refine rd_ninS ?_ | with_reducible refine evT_test ?_ | with_reducible refine evT_B ?_ | with_reducible refine evT_not ?_ | with_reducible refine evT_yes ?_ | with_reducible refine ev_notV ?_ | with_reducible refine rc_int ?_ | with_reducible refine rc_min2 ?_ | with_reducible refine rc_max2 ?_ | with_reducible refine rc_lenT ?_ | with_reducible refine q_asgG ?_ | with_reducible refine gds_nil ?_ | with_reducible refine gds_name ?_ | with_reducible refine ev_call ?_ | with_reducible refine gd_name ?_ | with_reducible refine ev_tup ?_ | with_reducible refine ev_var (by with_unfolding_all rfl) ?_ | with_reducible refine ⟨_, rfl, ?_⟩ | with_reducible refine gd_tup rfl ?_ | with_reducible refine rc_lenL LV.o ?_)))
open PySem PySem.Spec PyProof.Rows L2
variable {P : Program} {w : World} {K : PySem.W.Frag} {mg : Str → Option Value} {base : Heap}
/-! ### drawn networks -/
def DrawP (S : Sto) (a : Addr) (most : Nat) (P : Sto → D → Prop) : Prop := ∀ (c : Cell) (N : Net) (d : Addr), PoolC c → N.Ok → N.links.length ≤ most → d ≠ a → S d = none → P ((S.put a c).put d (lawNet N)) (.ref d)
def p_law_drawn : Phi := fun S ds P => ∃ (a : Addr) (most : Nat) (c : Cell), ds = [.ref a, .int 5, .int most] ∧ most ≤ 16 ∧ S a = some c ∧ PoolC c ∧ DrawP S a most P
theorem mod_ne {s t n : Nat} (h1 : 1 < n) (hs : s < n) (ht : t < n - 1) : (s + 1 + t) % n < n ∧ s ≠ (s + 1 + t) % n := by
  refine ⟨Nat.mod_lt _ (by omega), fun e => ?_⟩
  rcases Nat.lt_or_ge (s + 1 + t) n with h | h
  · rw [Nat.mod_eq_of_lt h] at e
    omega
  · have e2 : (s + 1 + t) % n = s + 1 + t - n := by
      rw [Nat.mod_eq_sub_mod h, Nat.mod_eq_of_lt (by omega)]
    omega
theorem sx_law_drawn (S : Sto) (ds : List D) (Q : Sto → D → Prop) (h : p_law_drawn S ds Q) : Sx S (startD N_law_drawn.length ds) (t_law_drawn K p_law_take p_law_some_messages) { nx := fun S' _ => Q S' .non, rt := Q } := by
  obtain ⟨a, most, c, rfl, hmost, hS, hc, hq⟩ := h
  unfold t_law_drawn
  rw [s_ABC]
  walk_at "akgo"
  refine ⟨a, 5, c, rfl, by omega, by omega, hS, hc, fun c1 v hc1 hv => ?_⟩
  unfold intD
  walk_at "akgo"
  refine ev_lc (own_name (by decide)) (evI_rng1 ?_)
  walk_at "akgo"
  refine ⟨a, 5, c1, rfl, by omega, by omega, put_same, hc1, fun c2 n0 hc2 hn0 => ?_⟩
  rw [put_put]
  unfold intD
  walk_at "akgo"
  have e1 : (1 : Int) + (n0 : Int) = ((1 + n0 : Nat) : Int) := (Int.natCast_add 1 n0).symm
  rw [e1]
  refine ⟨by omega, by omega, ?_⟩
  rw [rangeD_nat]
  have hlen : ((List.range (1 + n0)).map intD).length = 1 + n0 := by rw [List.length_map, List.length_range]
  refine comp_name (by show ((List.range (1 + n0)).map intD).length ≤ _; omega) (fun (i : Nat) (S' : Sto) (acc : List D) => ∃ (c : Cell) (nodes : List (List Nat)), PoolC c ∧ S' = S.put a c ∧ nodes.length = i ∧ (∀ ms ∈ nodes, ms.length ≤ 4 ∧ ∀ m ∈ ms, 1 ≤ m ∧ m < 2 ^ v) ∧ acc = nodes.map fun ms => seqD true (ms.map msgD)) ⟨c2, [], hc2, rfl, rfl, by simp, rfl⟩ (fun _ _ _ _ _ => trivial) ?_ ?_
  · rintro i d S' acc hi ⟨c3, nodes, hc3, rfl, hnl, hns, rfl⟩ _
    refine evT_yes ⟨fun _ => ?_, fun h => Bool.noConfusion h⟩
    walk_at "akgo"
    refine ⟨by simp, ?_⟩
    walk_at "akgo"
    refine ⟨a, 3, c3, rfl, by omega, by omega, put_same, hc3, fun c4 r hc4 hr => ?_⟩
    rw [put_put]
    have hmost : ∃ mm : Nat, mm ≤ 4 ∧ L2.atI [D.int 1, D.int 2, D.int 4] ((r : Nat) : Int) = some (.int (mm : Nat)) := by
      match r, hr with
      | 0, _ => exact ⟨1, by decide, rfl⟩
      | 1, _ => exact ⟨2, by decide, rfl⟩
      | 2, _ => exact ⟨4, by decide, rfl⟩
    obtain ⟨mm, hmm, hat⟩ := hmost
    refine rd_ixT (d := .int (mm : Nat)) hat ?_
    walk_at "akgo"
    refine ⟨a, v, mm, c4, rfl, by omega, hmm, put_same, hc4, fun c5 ms hc5 h1 h2 => ?_⟩
    rw [put_put]
    refine ⟨c5, nodes ++ [ms], hc5, rfl, by rw [List.length_append, hnl]; rfl, fun z hz => ?_, by rw [List.map_append]; rfl⟩
    rcases List.mem_append.mp hz with h | h
    · exact hns z h
    · have e : z = ms := by simpa using h
      subst e
      exact ⟨by omega, h2⟩
  · rintro S' acc _ ⟨c3, nodes, hc3, rfl, hnl, hns, rfl⟩
    have hnl2 : nodes.length = 1 + n0 := by
      have e : (DIt.items ⟨(List.range (1 + n0)).map intD, fun _ => True⟩).length = 1 + n0 := hlen
      omega
    refine q_seq (q_asg ?_)
    refine ev_sl ?_
    walk_at "akgo"
    refine evO_none (evO_some ?_)
    walk_at "akgo"
    rw [List.length_map]
    walk_at "akgo"
    refine sl_S (tx_small (by simp)) ?_
    rw [cut_take, ABC_take _ (by omega)]
    have hat : ∀ i, i < nodes.length → L2.atI ((List.range nodes.length).map (65 + ·)) ((i : Nat) : Int) = some (65 + i) := fun i hi => atI_natD (by rw [List.getElem?_map, List.getElem?_range hi]; rfl)
    walk_at "akgo"
    refine ev_lstH ?_
    walk_at "akgo"
    refine ⟨by simp, fun f hf => ?_⟩
    have hfa : f ≠ a := fun z => by rw [z, put_same] at hf; cases hf
    rw [put_ne hfa] at hf
    walk_at "akgo"
    refine q_forN (evI_rng1 ?_)
    walk_at "akgo"
    refine ⟨a, most + 1, c3, rfl, by omega, by omega, by rw [put_ne (Ne.symm hfa)]; exact put_same, hc3, fun c4 r hc4 hr => ?_⟩
    walk_at "akgo"
    refine ⟨by omega, by omega, ?_⟩
    rw [rangeD_nat]
    have hlen2 : ((List.range r).map intD).length = r := by rw [List.length_map, List.length_range]
    refine ⟨fun (i : Nat) (S' : Sto) (ρ' : Env) => ∃ (c : Cell) (ls : List (Nat × Nat)), PoolC c ∧ S' = (S.put a c).put f (.lst (ls.map lkD)) ∧ ls.length ≤ i ∧ (∀ l ∈ ls, l.1 < nodes.length ∧ l.2 < nodes.length ∧ l.1 ≠ l.2) ∧ ∃ x y z, ρ' = [some (.ref a), some (.int 5), some (.int most), some (.int v), x, some (.lst (nodes.map fun ms => seqD true (ms.map msgD))), some (.str (tx ((List.range nodes.length).map (65 + ·)))), some (.ref f), y, z], ⟨c4, [], hc4, ?_, Nat.le_refl _, by simp, none, none, none, rfl⟩, fun _ _ _ _ _ => trivial, ?_, ?_⟩
    · rw [put_comm hfa, put_put]
      rfl
    · rintro i d S' ρ' hi ⟨c5, ls, hc5, rfl, hll, hls, x, y, z, rfl⟩
      have hir : i < r := by
        have h1 := (List.getElem?_eq_some_iff.mp hi).1
        have h2 : i < ((List.range r).map intD).length := h1
        omega
      refine q_if ?_
      walk_at "akgo"
      rw [List.length_map]
      walk_at "akgo"
      refine ⟨fun hc => ?_, fun hc => ?_⟩
      · have hn1 : 1 < nodes.length := by
          have := of_decide_eq_true hc
          omega
        walk_at "akgo"
        rw [List.length_map]
        walk_at "akgo"
        refine ⟨a, nodes.length, c5, rfl, by omega, by omega, by rw [put_ne (Ne.symm hfa)]; exact put_same, hc5, fun c6 s hc6 hs => ?_⟩
        unfold intD
        walk_at "akgo"
        rw [List.length_map]
        walk_at "akgo"
        have e2 : (nodes.length : Int) - 1 = ((nodes.length - 1 : Nat) : Int) := by omega
        rw [e2]
        refine ⟨a, nodes.length - 1, c6, rfl, by omega, by omega, put_same, hc6, fun c7 t hc7 ht => ?_⟩
        rw [put_put]
        unfold intD
        walk_at "akgo"
        rw [List.length_map]
        walk_at "akgo"
        refine rd_intC (show (nodes.length : Int) ≠ 0 by omega) ?_
        have e3 : ((s : Int) + 1 + (t : Int)).fmod (nodes.length : Int) = (((s + 1 + t) % nodes.length : Nat) : Int) := fmod_nat (s + 1 + t) nodes.length
        rw [e3]
        obtain ⟨g1, g2⟩ := mod_ne hn1 hs ht
        generalize (s + 1 + t) % nodes.length = rr at g1 g2
        walk_at "akgo"
        refine ev_bm ?_
        walk_at "akgo"
        refine ⟨⟨rfl, _, by rw [put_ne hfa]; exact put_same⟩, ?_⟩
        walk_at "akgo"
        refine rd_ixS (c := 65 + s) (tx_small (by simp; omega)) (hat s hs) ?_
        walk_at "akgo"
        refine rd_ixS (c := 65 + rr) (tx_small (by simp; omega)) (hat rr g1) ?_
        refine rd_addS (by simp [Str.length]) ?_
        walk_at "akgo"
        refine rm_append (l := ls.map lkD) (by rw [put_ne hfa]; exact put_same) (by rw [List.length_map]; omega) ?_
        refine ⟨c7, ls ++ [(s, rr)], hc7, ?_, by rw [List.length_append]; simp; exact hll, fun l hl => ?_, _, _, _, rfl⟩
        · have e4 : ls.map lkD ++ [D.str (⟨#[65 + s]⟩ ++ ⟨#[65 + rr]⟩)] = (ls ++ [(s, rr)]).map lkD := by
            rw [List.map_append]
            congr 1
          rw [e4]
          funext b
          by_cases b1 : b = f
          · rw [b1, put_same, put_same]
          · rw [put_ne b1, put_ne b1]
            by_cases b2 : b = a
            · rw [b2, put_same, put_same]
            · rw [put_ne b2, put_ne b2, put_ne b1, put_ne b2]
        · rcases List.mem_append.mp hl with h | h
          · exact hls l h
          · have e : l = (s, rr) := by simpa using h
            subst e
            exact ⟨hs, g1, g2⟩
      · walk_at "akgo"
        exact ⟨c5, ls, hc5, rfl, by omega, hls, _, _, _, rfl⟩
    · rintro S' ρ' ⟨c5, ls, hc5, rfl, hll, hls, x, y, z, rfl⟩
      have hll2 : ls.length ≤ most := by
        have e : (DIt.items ⟨(List.range r).map intD, fun _ => True⟩).length = r := hlen2
        omega
      refine q_frz (a := f) (l := ls.map lkD) put_same (S.put a c5) ([some (.ref a), some (.int 5), some (.int most), some (.int v), x, some (.lst (nodes.map fun ms => seqD true (ms.map msgD))), some (.str (tx ((List.range nodes.length).map (65 + ·)))), some (.lst (ls.map lkD)), y, z]) rfl (fun i d hi => ?_) ?_ ?_
      · match i, hi with
        | 0, hi => exact .inl hi
        | 1, hi => exact .inl hi
        | 2, hi => exact .inl hi
        | 3, hi => exact .inl hi
        | 4, hi => exact .inl hi
        | 5, hi => exact .inl hi
        | 6, hi => exact .inl hi
        | 7, hi =>
          cases hi
          exact .inr ⟨rfl, rfl⟩
        | 8, hi => exact .inl hi
        | 9, hi => exact .inl hi
        | i + 10, hi => cases hi
      · rw [del_put (by rw [put_ne hfa]; exact hf)]
        exact SLe.refl _
      · walk_at "akgo"
        refine ev_disp ?_
        walk_at "akgo"
        intro d hd
        have hda : d ≠ a := fun z => by rw [z, put_same] at hd; cases hd
        rw [put_ne hda] at hd
        exact hq c5 ⟨v, nodes, ls⟩ d hc5 ⟨by show v ≤ 4; omega, by show 1 ≤ nodes.length; omega, by show nodes.length ≤ 5; omega, fun ms h => (hns ms h).1, fun ms h => (hns ms h).2, by show ls.length ≤ 16; omega, hls⟩ hll2 hda hd
end AK
set_option Elab.async false
set_option linter.all false
set_option maxRecDepth 100000
set_option maxHeartbeats 1000000
namespace AK
local macro_rules | `(tactic| walk_at "akgo") => `(tactic| (repeat (first | with_reducible refine q_seq ?_ | with_reducible refine q_asg ?_ | with_reducible refine q_drop ?_ | with_reducible refine q_ret ?_ | with_reducible refine q_next ?_ | with_reducible refine q_break ?_ | with_reducible refine ev_int ?_ | with_reducible refine ev_str ?_ | with_reducible refine ev_bl ?_ | with_reducible refine ev_non ?_ | with_reducible refine ev_ty ?_ | with_reducible refine ev_cls ?_ | with_reducible refine ev_op ?_ | with_reducible refine ev_un ?_ | with_reducible refine ev_cb ?_ | with_reducible refine evA_cons ?_ | with_reducible refine evA_nil ?_ | with_reducible refine rd_int ?_ | with_reducible refine rd_cmp ?_ | with_reducible refine r1_neg ?_ | with_reducible refine rd_eqI ?_ | with_reducible refine rd_neI ?_ | with_reducible refine rd_eqS ?_ | with_reducible refine rd_neS ?_ | with_reducible refine rd_neB ?_ | with_reducible refine rd_isN ?_ | with_reducible refine rd_notN ?_ | with_reducible refine rd_notB ?_ | with_reducible refine rd_inS ?_ | with_reducible refine rd_ninS ?_ | with_reducible refine evT_test ?_ | with_reducible refine evT_B ?_ | with_reducible refine evT_not ?_ | with_reducible refine evT_yes ?_ | with_reducible refine ev_notV ?_ | with_reducible refine rc_int ?_ | with_reducible refine rc_min2 ?_ | with_reducible refine rc_max2 ?_ | with_reducible refine rc_lenT ?_ | with_reducible refine q_asgG ?_ | with_reducible refine gds_nil ?_ | with_reducible refine gds_name ?_ | with_reducible refine ev_call ?_ | with_reducible refine gd_name ?_ | with_reducible refine ev_tup ?_ | with_reducible refine ev_var (by with_unfolding_all rfl) ?_ | with_reducible refine ⟨_, rfl, ?_⟩ | with_reducible refine gd_tup rfl ?_ | with_reducible refine rc_lenL LV.o ?_)))
open PySem PySem.Spec PyProof.Rows L2
variable {P : Program} {w : World} {K : PySem.W.Frag} {mg : Str → Option Value} {base : Heap}
theorem ul_at : ∀ z < 32, ∀ r < (ul z).length, ∃ j < 5, (ul z)[r]? = some (65 + j) ∧ z.testBit j = true := by decide +kernel
theorem sto2 {S : Sto} {a d : Addr} {c c' : Cell} {e : Cell} (h : d ≠ a) : ((S.put a c).put d e).put a c' = (S.put a c').put d e := by
  rw [put_comm h, put_put]
def p_law_filled : Phi := fun S ds P => ∃ (a : Addr) (c : Cell), ds = [.ref a, .int 5, .int 12] ∧ S a = some c ∧ PoolC c ∧ DrawP S a 12 P
theorem Net.Ok.withLinks {N : Net} (ok : N.Ok) {ls : List (Nat × Nat)} (h16 : ls.length ≤ 16) (h : ∀ l ∈ ls, l.1 < N.nodes.length ∧ l.2 < N.nodes.length ∧ l.1 ≠ l.2) : (Net.mk N.v N.nodes ls).Ok :=
  ⟨ok.v4, ok.n1, ok.n5, ok.ms4, ok.msv, h16, h⟩
theorem sx_law_filled (S : Sto) (ds : List D) (Q : Sto → D → Prop) (h : p_law_filled S ds Q) : Sx S (startD N_law_filled.length ds) (t_law_filled K p_law_drawn p_law_deficient p_law_pick p_law_take) { nx := fun S' _ => Q S' .non, rt := Q } := by
  obtain ⟨a, c, rfl, hS, hc, hq⟩ := h
  unfold t_law_filled
  rw [s_ABC, s_nil, ← ul_zero]
  walk_at "akgo"
  refine rd_intC (show CDivN 12 3 from ⟨by decide, by decide⟩) ?_
  walk_at "akgo"
  refine ⟨a, 4, c, rfl, by decide, hS, hc, fun c1 N0 d hc1 ok0 hl0 hda hd => ?_⟩
  walk_at "akgo"
  refine q_forN (evI_rng1 ?_)
  walk_at "akgo"
  (refine ev_dget ?_; walk_at "akgo"; refine ⟨_, _, _, _, _, rfl, rfl, put_same, (by with_unfolding_all rfl), ?_⟩; walk_at "akgo")
  rw [List.length_map]
  have e0 : (12 : Int) - (N0.links.length : Int) = ((12 - N0.links.length : Nat) : Int) := by omega
  rw [e0]
  refine ⟨by omega, by omega, ?_⟩
  rw [rangeD_nat]
  have hlen : ((List.range (12 - N0.links.length)).map intD).length = 12 - N0.links.length := by rw [List.length_map, List.length_range]
  refine ⟨fun (i : Nat) (S' : Sto) (ρ' : Env) => ∃ (c : Cell) (N : Net), PoolC c ∧ N.Ok ∧ N.links.length ≤ N0.links.length + i ∧ N.links.length ≤ 12 ∧ S' = (S.put a c).put d (lawNet N) ∧ ∃ x y z u v, ρ' = [some (.ref a), some (.int 5), some (.int 12), some (.ref d), x, y, z, u, v], ⟨c1, N0, hc1, ok0, Nat.le_refl _, by omega, rfl, none, none, none, none, none, rfl⟩, fun _ _ _ _ _ => trivial, ?_, ?_⟩
  · rintro i dd S' ρ' hi ⟨c2, N, hc2, ok, hl1, hl2, rfl, x, y, z, u, v, rfl⟩
    have hir : i < 12 - N0.links.length := by
      have h1 := (List.getElem?_eq_some_iff.mp hi).1
      have h2 : i < ((List.range (12 - N0.links.length)).map intD).length := h1
      omega
    have hn : N.nodes.length ≤ 5 := ok.n5
    have p32 : 2 ^ N.n ≤ 32 := Nat.le_trans (Nat.pow_le_pow_right (by decide) ok.n5) (by decide)
    have fin : ∀ {x y z u v : Option D}, Sx ((S.put a c2).put d (lawNet N)) [some (.ref a), some (.int 5), some (.int 12), some (.ref d), x, y, z, u, v] (tRet (tVar 3)) ⟨fun S' _ => Q S' .non, Q, fun _ _ => False, fun _ _ => False⟩ := fun {x y z u v} => by
      walk_at "akgo"
      exact hq c2 N d hc2 ok hl2 hda hd
    walk_at "akgo"
    refine ⟨d, N, rfl, put_same, ok, fun zz z0 z1 _ => ?_, fun _ => ?_⟩
    · walk_at "akgo"
      refine q_ifF ?_
      walk_at "akgo"
      refine ⟨decide_eq_false ?_, ?_⟩
      · rw [ul_zero]
        exact ul_ne zz (by omega) z0
      walk_at "akgo"
      refine ev_sl ?_
      walk_at "akgo"
      refine evO_none (evO_some ?_)
      walk_at "akgo"
      (refine ev_dget ?_; walk_at "akgo"; refine ⟨_, _, _, _, _, rfl, rfl, put_same, (by with_unfolding_all rfl), ?_⟩; walk_at "akgo")
      rw [List.length_map]
      refine sl_S (tx_small (by simp)) ?_
      rw [cut_take, ABC_take _ (by omega)]
      walk_at "akgo"
      refine ev_lcM (own_name (by decide)) ((S.put a c2).put d (lawNet N) = ·) (fun k : Nat => D.str (up k)) (List.range N.nodes.length) (fun k => !zz.testBit k) (fun k => D.str (up k)) (by rw [List.length_range]; omega) (evI_str ?_) ?_ ?_
      · walk_at "akgo"
        refine ⟨?_, fun _ _ => trivial, rfl⟩
        show signsD (tx ((List.range N.nodes.length).map (65 + ·))) = _
        rw [signs_tx, List.map_map]
        rfl
      · rintro k hk _ rfl
        have hk5 := List.mem_range.mp hk
        walk_at "akgo"
        rw [ul_mem zz (by omega) k (by omega)]
        refine ⟨rfl, fun _ => ?_, fun _ => rfl⟩
        walk_at "akgo"
        exact ⟨rfl, rfl⟩
      · rintro _ rfl
        have hol : ∀ k ∈ (List.range N.nodes.length).filter fun k => !zz.testBit k, k < N.nodes.length ∧ zz.testBit k = false := fun k hk => by
          obtain ⟨h1, h2⟩ := List.mem_filter.mp hk
          exact ⟨List.mem_range.mp h1, by simpa using h2⟩
        have hfl : ((List.range N.nodes.length).filter fun k => !zz.testBit k).length ≤ N.nodes.length := Nat.le_trans (List.length_filter_le ..) (by rw [List.length_range]; exact Nat.le_refl _)
        generalize (List.range N.nodes.length).filter (fun k => !zz.testBit k) = oth at hol hfl
        refine q_seq (q_if (evT_not (evT_truth ?_)))
        walk_at "akgo"
        refine ⟨_, .inl ⟨_, .o, rfl⟩, fun hb => ?_, fun hb => ?_⟩
        · walk_at "akgo"
          exact hq c2 N d hc2 ok hl2 hda hd
        · have hne : 1 ≤ oth.length := by
            cases oth with
            | nil => simp at hb
            | cons a l => simp
          walk_at "akgo"
          refine q_dputL ?_
          walk_at "akgo"
          (refine ev_dget ?_; walk_at "akgo"; refine ⟨_, _, _, _, _, rfl, rfl, put_same, (by with_unfolding_all rfl), ?_⟩; walk_at "akgo")
          refine ev_lst ?_
          walk_at "akgo"
          refine ⟨a, oth.map fun k => D.str (up k), c2, rfl, by rw [List.length_map]; exact hne, by rw [List.length_map]; omega, by rw [put_ne (Ne.symm hda)]; exact put_same, hc2, fun c3 i3 dd3 hc3 hd3 => ?_⟩
          rw [sto2 hda]
          rw [List.getElem?_map] at hd3
          cases hk3 : oth[i3]? with
          | none =>
            rw [hk3] at hd3
            cases hd3
          | some k =>
            rw [hk3] at hd3
            cases hd3
            obtain ⟨kn, kb⟩ := hol k (List.mem_of_getElem? hk3)
            walk_at "akgo"
            refine rc_lenS (tx_small (by have := ul_len zz (by omega); omega)) ?_
            rw [tx_len]
            walk_at "akgo"
            refine ⟨a, (ul zz).length, c3, rfl, ul_pos zz (by omega) z0, by have := ul_len zz (by omega); omega, by rw [put_ne (Ne.symm hda)]; exact put_same, hc3, fun c4 r hc4 hr => ?_⟩
            rw [sto2 hda]
            obtain ⟨j, j5, hj, jb⟩ := ul_at zz (by omega) r hr
            refine rd_ixS (c := 65 + j) (tx_small (by have := ul_len zz (by omega); omega)) (atI_natD hj) ?_
            have jn : j < N.nodes.length := by
              rcases Nat.lt_or_ge j N.nodes.length with h | h
              · exact h
              · have z2 : zz < 2 ^ j := Nat.lt_of_lt_of_le z1 (Nat.pow_le_pow_right (by decide) h)
                rw [Nat.testBit_lt_two_pow z2] at jb
                cases jb
            refine rd_addS (by simp [Str.length]) ?_
            walk_at "akgo"
            refine ⟨by simp, ?_⟩
            refine rd_cat (l := N.links.map lkD) .o .o (by rw [List.length_map]; simp; omega) ?_
            walk_at "akgo"
            refine ⟨d, _, _, _, rfl, put_same, ?_⟩
            have el : N.links.map lkD ++ [D.str (tx [65 + k] ++ ⟨#[65 + j]⟩)] = (N.links ++ [(k, j)]).map lkD := by
              rw [List.map_append]
              congr 1
            rw [el, put_put]
            have hkj : k ≠ j := fun e => by
              rw [e, jb] at kb
              cases kb
            refine ⟨c4, ⟨N.v, N.nodes, N.links ++ [(k, j)]⟩, hc4, ok.withLinks (by rw [List.length_append, List.length_singleton]; omega) (fun l hl => ?_), by show (N.links ++ [(k, j)]).length ≤ _; rw [List.length_append, List.length_singleton]; omega, by show (N.links ++ [(k, j)]).length ≤ _; rw [List.length_append, List.length_singleton]; omega, rfl, _, _, _, _, _, rfl⟩
            rcases List.mem_append.mp hl with h | h
            · exact ok.lks l h
            · have e : l = (k, j) := by simpa using h
              subst e
              exact ⟨kn, jn, hkj⟩
    · walk_at "akgo"
      refine q_ifT ?_
      walk_at "akgo"
      refine ⟨decide_eq_true rfl, ?_⟩
      walk_at "akgo"
      exact hq c2 N d hc2 ok hl2 hda hd
  · rintro S' ρ' ⟨c2, N, hc2, ok, hl1, hl2, rfl, x, y, z, u, v, rfl⟩
    walk_at "akgo"
    exact hq c2 N d hc2 ok hl2 hda hd
def p_law_network : Phi := p_law_filled
theorem sx_law_network (S : Sto) (ds : List D) (Q : Sto → D → Prop) (h : p_law_network S ds Q) : Sx S (startD N_law_network.length ds) (t_law_network K p_law_take p_law_drawn p_law_filled) { nx := fun S' _ => Q S' .non, rt := Q } := by
  obtain ⟨a, c, rfl, hS, hc, hq⟩ := h
  unfold t_law_network
  walk_at "akgo"
  refine ⟨a, 5, c, rfl, by decide, by decide, hS, hc, fun c1 kind hc1 hkind => ?_⟩
  unfold intD
  walk_at "akgo"
  refine q_if ?_
  walk_at "akgo"
  refine ⟨fun hb => ?_, fun hb => ?_⟩
  · walk_at "akgo"
    refine ⟨a, 12, c1, rfl, by decide, put_same, hc1, fun c2 N d hc2 ok hl hda hd => ?_⟩
    have hd2 : S d = none := by rw [put_ne hda] at hd; exact hd
    rw [put_put]
    exact hq c2 N d hc2 ok hl hda hd2
  · walk_at "akgo"
    refine ⟨a, c1, rfl, put_same, hc1, fun c2 N d hc2 ok hl hda hd => ?_⟩
    have hd2 : S d = none := by rw [put_ne hda] at hd; exact hd
    rw [put_put]
    have last : ∀ (c : Cell) (N : Net) (x y : Option D), PoolC c → N.Ok → N.links.length ≤ 12 → Sx ((S.put a c).put d (lawNet N)) [some (.ref a), some (.int 5), some (.int 12), some (.int kind), some (.ref d), x, y] (tRet (tVar 4)) ⟨fun S' _ => Q S' .non, Q, fun _ _ => False, fun _ _ => False⟩ := fun c N x y hc ok hl => by
      walk_at "akgo"
      exact hq c N d hc ok hl hda hd2
    have second : ∀ (c : Cell) (N : Net) (x y : Option D), PoolC c → N.Ok → N.links.length ≤ 12 → Sx ((S.put a c).put d (lawNet N)) [some (.ref a), some (.int 5), some (.int 12), some (.int kind), some (.ref d), x, y] (tSeq (tIfS (tAnd (tTest (tOp rEq (tVar 3) (tC (.int 2)))) (tTruth K (tDGet (tVar 4) (tC (.str "links"))))) (tSeq (tAsg (tCall (toSp p_law_take) [] E0 (tCons (tVar 0) (tCons (tCB (rLenD K) (tCons (tDGet (tVar 4) (tC (.str "links"))) tNil)) tNil))) (gName 5)) (tSeq (tAsg (tOp (rIxL K) (tDGet (tVar 4) (tC (.str "links"))) (tVar 5)) (gName 6)) (sDPut (tVar 4) (tC (.str "links")) (tOp rCat (tOp rCat (tSl (rSlL K) (tDGet (tVar 4) (tC (.str "links"))) tNoPart (tPart (tVar 5))) (tLst (tCons (tOp rAddStr (tOp rIxS (tVar 6) (tC (.int 1))) (tOp rIxS (tVar 6) (tC (.int 0)))) tNil))) (tSl (rSlL K) (tDGet (tVar 4) (tC (.str "links"))) (tPart (tOp (rI0 fun i j => .int (i + j)) (tVar 5) (tC (.int 1)))) tNoPart))))) tNext) (tRet (tVar 4))) ⟨fun S' _ => Q S' .non, Q, fun _ _ => False, fun _ _ => False⟩ := fun c N x y hc ok hl => by
      refine q_seq (q_if (evT_and ?_))
      walk_at "akgo"
      refine ⟨fun hb => ?_, fun _ => ⟨fun h => Bool.noConfusion h, fun _ => q_next (last c N x y hc ok hl)⟩⟩
      refine evT_truth ?_
      (refine ev_dget ?_; walk_at "akgo"; refine ⟨_, _, _, _, _, rfl, rfl, put_same, (by with_unfolding_all rfl), ?_⟩; walk_at "akgo")
      refine ⟨_, .inl ⟨_, .o, rfl⟩, fun hb2 => ?_, fun _ => q_next (last c N x y hc ok hl)⟩
      have hne : 1 ≤ N.links.length := by
        cases hln : N.links with
        | nil =>
          rw [hln] at hb2
          simp at hb2
        | cons a l => simp
      walk_at "akgo"
      (refine ev_dget ?_; walk_at "akgo"; refine ⟨_, _, _, _, _, rfl, rfl, put_same, (by with_unfolding_all rfl), ?_⟩; walk_at "akgo")
      rw [List.length_map]
      refine ⟨a, N.links.length, c, rfl, hne, by omega, by rw [put_ne (Ne.symm hda)]; exact put_same, hc, fun c3 r hc3 hr => ?_⟩
      rw [sto2 hda]
      unfold intD
      walk_at "akgo"
      (refine ev_dget ?_; walk_at "akgo"; refine ⟨_, _, _, _, _, rfl, rfl, put_same, (by with_unfolding_all rfl), ?_⟩; walk_at "akgo")
      have hat : N.links[r]? = some N.links[r] := List.getElem?_eq_getElem hr
      generalize hlr : N.links[r] = lr at hat
      refine rd_ixL (l := N.links.map lkD) (d := lkD lr) .o (atI_natD (by rw [List.getElem?_map, hat]; rfl)) ?_
      unfold lkD
      walk_at "akgo"
      refine q_dputL ?_
      walk_at "akgo"
      refine ev_sl ?_
      (refine ev_dget ?_; walk_at "akgo"; refine ⟨_, _, _, _, _, rfl, rfl, put_same, (by with_unfolding_all rfl), ?_⟩; walk_at "akgo")
      refine evO_none (evO_some ?_)
      walk_at "akgo"
      refine sl_L (l := N.links.map lkD) .o ?_
      rw [cutD_take]
      refine ev_lst ?_
      walk_at "akgo"
      refine rd_ixS (c := 65 + lr.2) (tx_small (by simp)) rfl ?_
      walk_at "akgo"
      refine rd_ixS (c := 65 + lr.1) (tx_small (by simp)) rfl ?_
      refine rd_addS (by simp [Str.length]) ?_
      walk_at "akgo"
      refine ⟨by simp, ?_⟩
      refine rd_cat .o .o (by rw [List.length_take, List.length_map]; simp; omega) ?_
      refine ev_sl ?_
      (refine ev_dget ?_; walk_at "akgo"; refine ⟨_, _, _, _, _, rfl, rfl, put_same, (by with_unfolding_all rfl), ?_⟩; walk_at "akgo")
      refine evO_some ?_
      walk_at "akgo"
      refine evO_none ?_
      refine sl_L (l := N.links.map lkD) .o ?_
      have e1 : ((r : Int) + 1) = ((r + 1 : Nat) : Int) := rfl
      rw [e1, cutD_drop]
      refine rd_cat .o .o (by rw [List.length_append, List.length_take, List.length_drop, List.length_map]; simp; omega) ?_
      walk_at "akgo"
      refine ⟨d, _, _, _, rfl, put_same, ?_⟩
      rw [put_put]
      have el : (N.links.map lkD).take r ++ [D.str (⟨#[65 + lr.2]⟩ ++ ⟨#[65 + lr.1]⟩)] ++ (N.links.map lkD).drop (r + 1) = (N.links.take r ++ [(lr.2, lr.1)] ++ N.links.drop (r + 1)).map lkD := by
        rw [List.map_append, List.map_append, List.map_take, List.map_drop]
        congr 1
      rw [el]
      have hll : (N.links.take r ++ [(lr.2, lr.1)] ++ N.links.drop (r + 1)).length ≤ 12 := by
        rw [List.length_append, List.length_append, List.length_take, List.length_drop]
        simp
        omega
      have hm := ok.lks lr (List.mem_of_getElem? hat)
      refine last c3 ⟨N.v, N.nodes, N.links.take r ++ [(lr.2, lr.1)] ++ N.links.drop (r + 1)⟩ _ _ hc3 (ok.withLinks (by omega) fun l hl => ?_) hll
      rcases List.mem_append.mp hl with h | h
      · rcases List.mem_append.mp h with h | h
        · exact ok.lks l (List.mem_of_mem_take h)
        · have e : l = (lr.2, lr.1) := by simpa using h
          subst e
          exact ⟨hm.2.1, hm.1, Ne.symm hm.2.2⟩
      · exact ok.lks l (List.mem_of_mem_drop h)
    walk_at "akgo"
    refine q_if (evT_and ?_)
    walk_at "akgo"
    refine ⟨fun hb => ?_, fun _ => ⟨fun h => Bool.noConfusion h, fun _ => q_next (second c2 N _ _ hc2 ok hl)⟩⟩
    refine evT_truth ?_
    (refine ev_dget ?_; walk_at "akgo"; refine ⟨_, _, _, _, _, rfl, rfl, put_same, (by with_unfolding_all rfl), ?_⟩; walk_at "akgo")
    refine ⟨_, .inl ⟨_, .o, rfl⟩, fun hb2 => ?_, fun _ => q_next (second c2 N _ _ hc2 ok hl)⟩
    have hne : 1 ≤ N.links.length := by
      cases hln : N.links with
      | nil =>
        rw [hln] at hb2
        simp at hb2
      | cons a l => simp
    walk_at "akgo"
    (refine ev_dget ?_; walk_at "akgo"; refine ⟨_, _, _, _, _, rfl, rfl, put_same, (by with_unfolding_all rfl), ?_⟩; walk_at "akgo")
    rw [List.length_map]
    refine ⟨a, N.links.length, c2, rfl, hne, by omega, by rw [put_ne (Ne.symm hda)]; exact put_same, hc2, fun c3 r hc3 hr => ?_⟩
    rw [sto2 hda]
    unfold intD
    walk_at "akgo"
    refine q_dputL ?_
    walk_at "akgo"
    refine ev_sl ?_
    (refine ev_dget ?_; walk_at "akgo"; refine ⟨_, _, _, _, _, rfl, rfl, put_same, (by with_unfolding_all rfl), ?_⟩; walk_at "akgo")
    refine evO_none (evO_some ?_)
    walk_at "akgo"
    refine sl_L (l := N.links.map lkD) .o ?_
    rw [cutD_take]
    refine ev_sl ?_
    (refine ev_dget ?_; walk_at "akgo"; refine ⟨_, _, _, _, _, rfl, rfl, put_same, (by with_unfolding_all rfl), ?_⟩; walk_at "akgo")
    refine evO_some ?_
    walk_at "akgo"
    refine evO_none ?_
    refine sl_L (l := N.links.map lkD) .o ?_
    have e1 : ((r : Int) + 1) = ((r + 1 : Nat) : Int) := rfl
    rw [e1, cutD_drop]
    refine rd_cat .o .o (by rw [List.length_take, List.length_drop, List.length_map]; omega) ?_
    walk_at "akgo"
    refine ⟨d, _, _, _, rfl, put_same, ?_⟩
    rw [put_put]
    have el : (N.links.map lkD).take r ++ (N.links.map lkD).drop (r + 1) = (N.links.take r ++ N.links.drop (r + 1)).map lkD := by
      rw [List.map_append, List.map_take, List.map_drop]
    rw [el]
    have hll : (N.links.take r ++ N.links.drop (r + 1)).length ≤ 12 := by
      rw [List.length_append, List.length_take, List.length_drop]
      omega
    refine second c3 ⟨N.v, N.nodes, N.links.take r ++ N.links.drop (r + 1)⟩ _ _ hc3 (ok.withLinks (by omega) fun l hl => ?_) hll
    rcases List.mem_append.mp hl with h | h
    · exact ok.lks l (List.mem_of_mem_take h)
    · exact ok.lks l (List.mem_of_mem_drop h)
end AK
set_option Elab.async false
set_option linter.all false
set_option maxRecDepth 100000
set_option maxHeartbeats 1000000
namespace AK
local macro_rules | `(tactic| walk_at "akgo") => `(tactic| (repeat (first | with_reducible refine q_seq ?_ | with_reducible refine q_asg ?_ | with_reducible refine q_drop ?_ | with_reducible refine q_ret ?_ | with_reducible refine q_next ?_ | with_reducible refine q_break ?_ | with_reducible refine ev_int ?_ | with_reducible refine ev_str ?_ | with_reducible refine ev_bl ?_ | with_reducible refine ev_non ?_ | with_reducible refine ev_ty ?_ | with_reducible refine ev_cls ?_ | with_reducible refine ev_op ?_ | with_reducible refine ev_un ?_ | with_reducible refine ev_cb ?_ | with_reducible refine evA_cons ?_ | with_reducible refine evA_nil ?_ | with_reducible refine rd_int ?_ | with_reducible refine rd_cmp ?_ | with_reducible refine r1_neg ?_ | with_reducible refine rd_eqI ?_ | with_reducible refine rd_neI ?_ | with_reducible refine rd_eqS ?_ | with_reducible refine rd_neS ?_ | with_reducible refine rd_neB ?_ | with_reducible refine rd_isN ?_ | with_reducible refine rd_notN ?_ | with_reducible refine rd_notB ?_ | with_reducible refine rd_inS ?_ | with_reducible refine rd_ninS ?_ | with_reducible refine evT_test ?_ | with_reducible refine evT_B ?_ | with_reducible refine evT_not ?_ | with_reducible refine evT_yes ?_ | with_reducible refine ev_notV ?_ | with_reducible refine rc_int ?_ | with_reducible refine rc_min2 ?_ | with_reducible refine rc_max2 ?_ | with_reducible refine rc_lenT ?_ | with_reducible refine q_asgG ?_ | with_reducible refine gds_nil ?_ | with_reducible refine gds_name ?_ | with_reducible refine ev_call ?_ | with_reducible refine gd_name ?_ | with_reducible refine ev_tup ?_ | with_reducible refine ev_var (by with_unfolding_all rfl) ?_ | with_reducible refine ⟨_, rfl, ?_⟩ | with_reducible refine gd_tup rfl ?_ | with_reducible refine rc_lenL LV.o ?_)))
open PySem PySem.Spec PyProof.Rows L2
variable {P : Program} {w : World} {K : PySem.W.Frag} {mg : Str → Option Value} {base : Heap}
/-- what is asked of a set of links -/
structure Least (N : Net) (ls : List Nat) : Prop where
  len : ls.length ≤ 16
  lt : ∀ l ∈ ls, l < N.links.length
  good : ∃ G : St → Prop, Good G ∧ G (st0 (N.only ls))
  all : ∀ ts, Run (st0 (N.only ls)) ts → (ts.foldl St.after (st0 (N.only ls))).doneB = true → (ts.map (·.1)).Perm (List.range ls.length)
  min : ∀ l ∈ ls, (N.only (ls.filter fun x => decide (x ≠ l))).feas = false
/-- the plain mathematics that the law leans on -/
structure MathOk : Prop where
  m1 : ∀ N : Net, N.Ok → (enough N (List.range N.links.length) = true ↔ ∀ z, z ≠ 0 → z < 2 ^ N.n → ¬ N.lawDef z)
  m2 : ∀ N : Net, N.Ok → N.feas = enough N (List.range N.links.length)
  m3 : ∀ N : Net, N.Ok → enough N (List.range N.links.length) = true → Least N (redL N)
  m4 : ∀ (N : Net) (costs : List Nat), N.Ok → costs.length = N.links.length → enough N (List.range N.links.length) = true →
    ∃ t, cheapL N costs = some t ∧ Least N t.2 ∧ (redL N).length = t.2.length ∧ t.1 ≤ costOf costs (redL N) ∧ costOf costs t.2 = t.1 ∧ cheapL N (costs.map (· + 1)) = some (t.1 + t.2.length, t.2) ∧
      (∀ l c, N.links.length + 1 ≤ 16 → l.1 < N.nodes.length → l.2 < N.nodes.length → l.1 ≠ l.2 → enough (N.add l) (List.range (N.add l).links.length) = true ∧ ∃ t', cheapL (N.add l) (costs ++ [c]) = some t' ∧ t'.1 ≤ t.1) ∧
      (∀ ws : List Nat, ws.length ≤ N.n → boundL N costs ws ≤ t.1) ∧ boundL N costs [] = 0
theorem sort_range {l : List Nat} {n : Nat} (h : l.Perm (List.range n)) : sortA l = List.range n := by
  have z : (List.range n).Pairwise (· ≤ ·) := List.pairwise_lt_range.imp fun h => Nat.le_of_lt h
  exact List.Perm.eq_of_pairwise (le := (· ≤ ·)) (fun a b _ _ h1 h2 => by omega) (sortA_sorted l) z ((sortA_perm l).trans h)
def p_law_is_least (K : PySem.W.Frag) : Phi := fun S ds P => ∃ (d : Addr) (N : Net) (ls : List Nat), ds = [.ref d, .tup (ls.map intD)] ∧ S d = some (lawNet N) ∧ N.Ok ∧ Least N ls ∧ P S (.bl true)
theorem sx_law_is_least (T : Top K mg) (S : Sto) (ds : List D) (Q : Sto → D → Prop) (h : p_law_is_least K S ds Q) : Sx S (startD N_law_is_least.length ds) (t_law_is_least K (p_law_only K) (p_first_schedule K) (p_is_complete K) (p_is_feasible K)) { nx := fun S' _ => Q S' .non, rt := Q } := by
  obtain ⟨d, N, ls, rfl, hd, ok, least, hq⟩ := h
  obtain ⟨G, good, hG⟩ := least.good
  have hl16 := least.len
  unfold t_law_is_least
  walk_at "akgo"
  refine ⟨d, N, false, ls, rfl, hd, ok, least.len, least.lt, ?_⟩
  walk_at "akgo"
  refine ⟨_, G, rfl, good, hG, fun ts run hGe hdone => ?_⟩
  have perm := least.all ts run hdone
  have hts : ts.length = ls.length := by
    have z := perm.length_eq
    rw [List.length_map, List.length_range] at z
    exact z
  walk_at "akgo"
  refine q_ifF (evT_orF ?_)
  walk_at "akgo"
  refine ⟨rfl, ?_⟩
  walk_at "akgo"
  refine ⟨d, N, false, ls, rfl, hd, ok, least.len, least.lt, ?_⟩
  walk_at "akgo"
  refine ⟨_, ts, G, rfl, by omega, good, hG, run, ?_⟩
  walk_at "akgo"
  refine ⟨by rw [hdone]; rfl, ?_⟩
  walk_at "akgo"
  refine q_ifF ?_
  walk_at "akgo"
  refine ev_lcA (own_name (by decide)) (S = ·) trD ts (fun t => intD t.1) (by omega) (evI_tup ?_) ?_ ?_
  · walk_at "akgo"
    exact ⟨rfl, fun _ _ => trivial, rfl⟩
  · rintro t _ _ rfl
    walk_at "akgo"
    exact rd_ixT (l := [.int t.1, .str (up t.2.1), .int t.2.2]) (d := .int t.1) rfl ⟨rfl, rfl⟩
  · rintro _ rfl
    walk_at "akgo"
    refine rc_sortA (l := ts.map (·.1)) (.inl (by rw [List.map_map]; rfl)) (by rw [List.length_map]; omega) ?_
    rw [sort_range perm]
    refine ev_listRg ?_
    walk_at "akgo"
    rw [List.length_map]
    refine ⟨by omega, ?_⟩
    have e : D.lst ((List.range ls.length).map fun i => D.int (i : Nat)) = .lst (((List.range ls.length).map fun n : Nat => (n : Int)).map D.int) := by
      rw [List.map_map]
      rfl
    rw [e]
    unfold intsD
    rw [intD_map]
    refine rd_neL ?_
    walk_at "akgo"
    refine ⟨by rw [decide_eq_true rfl]; rfl, ?_⟩
    walk_at "akgo"
    refine ev_lcA (own_name (by decide)) (S = ·) intD ls (fun _ => .bl false) (by omega) (evI_tup ?_) ?_ ?_
    · walk_at "akgo"
      exact ⟨rfl, fun _ _ => trivial, rfl⟩
    · rintro l hlm _ rfl
      walk_at "akgo"
      refine ev_lcM (own_name (by decide)) (S = ·) intD ls (fun x => decide (x ≠ l)) intD (by omega) (evI_tup ?_) ?_ ?_
      · walk_at "akgo"
        exact ⟨rfl, fun _ _ => trivial, rfl⟩
      · rintro x _ _ rfl
        unfold intD
        walk_at "akgo"
        refine ⟨?_, fun _ => ?_, fun _ => rfl⟩
        · rw [← decide_not]
          exact decide_eq_decide.mpr (by omega)
        · walk_at "akgo"
          exact ⟨rfl, rfl⟩
      · rintro _ rfl
        walk_at "akgo"
        have hfl : (ls.filter fun x => decide (x ≠ l)).length ≤ 16 := Nat.le_trans (List.length_filter_le ..) hl16
        refine ⟨d, N, true, ls.filter fun x => decide (x ≠ l), rfl, hd, ok, hfl, fun x hx => least.lt x (List.mem_filter.mp hx).1, ?_⟩
        walk_at "akgo"
        refine ⟨_, rfl, ok.only hfl fun x hx => least.lt x (List.mem_filter.mp hx).1, rfl, ?_⟩
        rw [least.min l hlm]
    · rintro _ rfl
      walk_at "akgo"
      refine rc_any (bs := ls.map fun _ => false) (.inl (by rw [List.map_map]; rfl)) ?_
      walk_at "akgo"
      rw [any_mapG]
      have e3 : (ls.any fun _ => false) = false := by simp
      rw [e3]
      exact hq
theorem optD_some (t : Told) : optD (some t) = .tup [.int t.1, .tup (t.2.map intD)] := tlD_eq t
def p_law (K : PySem.W.Frag) : Phi := fun S ds P => ∃ (b : Addr) (script : List Int), ds = [scrD K b script] ∧ script.length ≤ 1000 ∧ P S (.bl true)
theorem s_A : (Str.ofString "A") = tx [65] := by decide +kernel
theorem sx_law (MO : MathOk) (T : Top K mg) (S : Sto) (ds : List D) (Q : Sto → D → Prop) (h : p_law K S ds Q) : Sx S (startD N_law.length ds) (t_law K (p_law_pool K) p_law_network (p_Network_init K) p_law_take (p_reduced K) (p_cheapest K) p_law_deficient (p_helping_links K) (p_law_is_least K) p_law_same (p_with_link K) (p_bound K)) { nx := fun S' _ => Q S' .non, rt := Q } := by
  obtain ⟨b0, script, rfl, hl, hq⟩ := h
  unfold t_law
  rw [s_nil, ← ul_zero, s_ABC, s_A]
  walk_at "akgo"
  refine ⟨b0, script, rfl, hl, fun a c ha hc => ?_⟩
  walk_at "akgo"
  refine ⟨a, c, rfl, put_same, hc, fun c1 N d hc1 ok hl12 hda hd => ?_⟩
  rw [put_ne hda] at hd
  rw [put_put]
  have hle : ∀ c, SLe S ((S.put a c).put d (lawNet N)) := fun c => (SLe.put ha).trans (SLe.put (by rw [put_ne hda]; exact hd))
  have hpa : ∀ c, ((S.put a c).put d (lawNet N)) a = some c := fun c => by rw [put_ne (Ne.symm hda)]; exact put_same
  have hpd : ∀ c, ((S.put a c).put d (lawNet N)) d = some (lawNet N) := fun c => put_same
  have hpp : ∀ c c', ((S.put a c).put d (lawNet N)).put a c' = (S.put a c').put d (lawNet N) := fun c c' => sto2 hda
  have hn5 : N.nodes.length ≤ 5 := ok.n5
  have hn1 : 1 ≤ N.nodes.length := ok.n1
  generalize hSc : (fun c => (S.put a c).put d (lawNet N)) = Sc at hle hpa hpd hpp
  have eSc : ∀ c, (S.put a c).put d (lawNet N) = Sc c := fun c => by rw [← hSc]
  replace hle : ∀ c, SLe S (Sc c) := fun c => eSc c ▸ hle c
  replace hpa : ∀ c, Sc c a = some c := fun c => eSc c ▸ hpa c
  replace hpd : ∀ c, Sc c d = some (lawNet N) := fun c => eSc c ▸ hpd c
  replace hpp : ∀ c c', (Sc c).put a c' = Sc c' := fun c c' => by rw [← eSc c, ← eSc c']; exact hpp c c'
  rw [eSc]
  have hup : ∀ (l : Nat × Nat), ∃ x : D, x = lkD l := fun l => ⟨_, rfl⟩
  have drawM : ∀ (r : Nat), r < 2 → ∃ mm : Nat, 1 ≤ mm ∧ mm ≤ 100 ∧ L2.atI [D.int 4, D.int 100] ((r : Nat) : Int) = some (.int (mm : Nat)) := fun r hr => by
    match r, hr with
    | 0, _ => exact ⟨4, by decide, by decide, rfl⟩
    | 1, _ => exact ⟨100, by decide, by decide, rfl⟩
  walk_at "akgo"
  refine ev_net ?_
  walk_at "akgo"
  (refine ev_dget ?_; walk_at "akgo"; refine ⟨_, _, _, _, _, rfl, rfl, (hpd _), (by with_unfolding_all rfl), ?_⟩; walk_at "akgo")
  (refine ev_dget ?_; walk_at "akgo"; refine ⟨_, _, _, _, _, rfl, rfl, (hpd _), (by with_unfolding_all rfl), ?_⟩; walk_at "akgo")
  (refine ev_dget ?_; walk_at "akgo"; refine ⟨_, _, _, _, _, rfl, rfl, (hpd _), (by with_unfolding_all rfl), ?_⟩; walk_at "akgo")
  refine ⟨N, true, true, rfl, ok, ?_⟩
  walk_at "akgo"
  refine ev_lc (own_name (by decide)) (evI_list ?_)
  (refine ev_dget ?_; walk_at "akgo"; refine ⟨_, _, _, _, _, rfl, rfl, (hpd _), (by with_unfolding_all rfl), ?_⟩; walk_at "akgo")
  refine ⟨_, .o, comp_name (by rw [List.length_map]; omega) (fun (i : Nat) (S' : Sto) (acc : List D) => ∃ (c : Cell) (cs : List Nat), PoolC c ∧ S' = Sc c ∧ cs.length = i ∧ acc = cs.map intD) ⟨c1, [], hc1, rfl, rfl, rfl⟩ (fun _ _ _ _ _ => by exact LV.o) ?_ ?_⟩
  · rintro i dd S' acc hi ⟨c2, cs, hc2, rfl, hcl, rfl⟩ _
    refine evT_yes ⟨fun _ => ?_, fun h => Bool.noConfusion h⟩
    walk_at "akgo"
    refine ⟨by simp, ?_⟩
    walk_at "akgo"
    refine ⟨a, 2, c2, rfl, by omega, by omega, hpa _, hc2, fun c3 r hc3 hr => ?_⟩
    rw [hpp]
    obtain ⟨mm, hm1, hm2, hat⟩ := drawM r hr
    refine rd_ixT (d := .int (mm : Nat)) hat ?_
    walk_at "akgo"
    refine ⟨a, mm, c3, rfl, hm1, by omega, hpa _, hc3, fun c4 x hc4 hx => ?_⟩
    rw [hpp]
    exact ⟨c4, cs ++ [x], hc4, rfl, by rw [List.length_append, hcl]; rfl, by rw [List.map_append]; rfl⟩
  rintro S' acc _ ⟨c2, costs, hc2, rfl, hcl, rfl⟩
  have hcl2 : costs.length = N.links.length := by
    rw [hcl]
    exact List.length_map ..
  have eM : (if (N.nodes.length : Int) - 1 > 1 then (N.nodes.length : Int) - 1 else 1) = ((max 1 (N.nodes.length - 1) : Nat) : Int) := by
    split <;> omega
  walk_at "akgo"
  refine ⟨N, rfl, ok, fun he => ?_, fun he => ?_⟩
  · have least := MO.m3 N ok he
    obtain ⟨t, ht, leastT, hlen, hck, hct, hdear, hadd, hbnd, hbnd0⟩ := MO.m4 N costs ok hcl2 he
    have hr16 := least.len
    have ht16 := leastT.len
    walk_at "akgo"
    refine ⟨N, costs, rfl, ok, hcl2, fun _ => ?_, fun he2 => absurd he (by rw [he2]; decide)⟩
    rw [ht, optD_some]
    have sumE : ∀ (S1 : Sto) (ls : List Nat) (te : TE) (P1 : Sto → D → Prop) (ρ : Env), ρ.length = 15 → ρ[5]? = some (some (intsD costs)) → (∀ l ∈ ls, l < N.links.length) → ls.length ≤ 16 → Ev S1 ρ te (fun S2 x => S2 = S1 ∧ x = .tup (ls.map intD)) → P1 S1 (.int (costOf costs ls : Nat)) → Ev S1 ρ (tCB (rSum K) (tCons (tLc (iTup K te) (gName 4) tYes (tOp (rIxL K) (tVar 5) (tVar 4)) [4]) tNil)) P1 := by
      intro S1 ls te P1 ρ hρ h5 hls hl16 hte hP
      refine ev_cb (evA_cons ?_)
      refine ev_lcA (own_name (by decide)) (S1 = ·) intD ls (fun l => intD (costs[l]?.getD 0)) (by omega) (evI_tup ?_) ?_ ?_
      · refine ev_mono hte ?_
        rintro S2 x ⟨rfl, rfl⟩
        exact ⟨_, rfl, rfl, fun _ _ => trivial, rfl⟩
      · rintro l hlm _ rfl
        have hlt := hls l hlm
        have r5 : ((wipeD ρ [4]).set 4 (some (intD l)))[5]? = some (some (intsD costs)) := by
          rw [List.getElem?_set_ne (by decide)]
          show (ρ.set 4 none)[5]? = _
          rw [List.getElem?_set_ne (by decide)]
          exact h5
        have r4 : ((wipeD ρ [4]).set 4 (some (intD l)))[4]? = some (some (intD l)) := List.getElem?_set_self (by show 4 < (ρ.set 4 none).length; rw [List.length_set]; omega)
        refine gd_name (ev_op (ev_var r5 (ev_var r4 ?_)))
        refine rd_ixL (l := costs.map intD) (d := intD (costs[l]?.getD 0)) .o (atI_natD ?_) ⟨rfl, rfl⟩
        rw [List.getElem?_map, List.getElem?_eq_getElem (by omega)]
        rfl
      · rintro _ rfl
        refine evA_nil ?_
        refine rc_sum (ns := (ls.map fun l => costs[l]?.getD 0).map fun n : Nat => (n : Int)) (.inl (by simp only [List.map_map]; rfl)) ?_
        rw [sum_cast]
        exact hP
    walk_at "akgo"
    refine q_ifF (evT_orF ?_)
    walk_at "akgo"
    refine ⟨d, N, rfl, hpd _, ok, fun z z0 z1 hz => absurd hz ((MO.m1 N ok).mp he z z0 z1), fun _ => ?_⟩
    walk_at "akgo"
    refine ⟨by rw [decide_eq_true (rfl : ut 0 = ut 0)]; rfl, ?_⟩
    walk_at "akgo"
    refine ⟨rfl, ?_⟩
    walk_at "akgo"
    (refine ev_dget ?_; walk_at "akgo"; refine ⟨_, _, _, _, _, rfl, rfl, (hpd _), (by with_unfolding_all rfl), ?_⟩; walk_at "akgo")
    rw [List.length_map, eM]
    refine ⟨a, _, c2, rfl, by omega, by omega, hpa _, hc2, fun c3 lk hc3 hlk => ?_⟩
    rw [hpp]
    walk_at "akgo"
    refine q_ifF ?_
    walk_at "akgo"
    refine ⟨rfl, ?_⟩
    walk_at "akgo"
    refine q_ifF (evT_orF ?_)
    walk_at "akgo"
    refine ⟨d, N, redL N, rfl, hpd _, ok, least, ?_⟩
    walk_at "akgo"
    refine ⟨rfl, ?_⟩
    refine evT_orF ?_
    walk_at "akgo"
    refine rd_ixT (d := .tup (t.2.map intD)) rfl ?_
    walk_at "akgo"
    refine ⟨d, N, t.2, rfl, hpd _, ok, leastT, ?_⟩
    walk_at "akgo"
    refine ⟨rfl, ?_⟩
    walk_at "akgo"
    refine rd_ixT (d := .tup (t.2.map intD)) rfl ?_
    walk_at "akgo"
    refine ⟨by rw [List.length_map, List.length_map, hlen, decide_eq_true rfl]; rfl, ?_⟩
    walk_at "akgo"
    refine q_ifF (evT_orF ?_)
    refine evT_test (ev_op (sumE _ (redL N) _ _ _ rfl rfl least.lt hr16 (ev_var rfl ⟨rfl, rfl⟩) ?_))
    walk_at "akgo"
    refine rd_ixT (d := .int (t.1 : Nat)) rfl ?_
    walk_at "akgo"
    refine ⟨decide_eq_false (by omega), ?_⟩
    refine evT_test (ev_op (sumE _ t.2 _ _ _ rfl rfl leastT.lt ht16 (ev_op (ev_var rfl (ev_int (rd_ixT (d := .tup (t.2.map intD)) rfl ⟨rfl, rfl⟩)))) ?_))
    walk_at "akgo"
    refine rd_ixT (d := .int (t.1 : Nat)) rfl ?_
    walk_at "akgo"
    refine ⟨by rw [hct, decide_eq_true rfl]; rfl, ?_⟩
    walk_at "akgo"
    refine ev_lcA (own_name (by decide)) (Sc c3 = ·) intD costs (fun x => intD (x + 1)) (by omega) (evI_list ?_) ?_ ?_
    · walk_at "akgo"
      exact ⟨_, .o, rfl, fun _ _ => .o, rfl⟩
    · rintro x _ _ rfl
      unfold intD
      walk_at "akgo"
      exact ⟨rfl, rfl⟩
    rintro _ rfl
    walk_at "akgo"
    refine ⟨N, costs.map (· + 1), ?_, ok, by rw [List.length_map]; exact hcl2, fun _ => ?_, fun he2 => absurd he (by rw [he2]; decide)⟩
    · unfold intsD
      rw [List.map_map]
      rfl
    rw [hdear, optD_some]
    walk_at "akgo"
    refine q_ifF ?_
    walk_at "akgo"
    refine rd_ixT (d := .int (t.1 : Nat)) rfl ?_
    walk_at "akgo"
    refine rd_ixT (d := .tup (t.2.map intD)) rfl ?_
    walk_at "akgo"
    refine rd_ixT (d := .tup (t.2.map intD)) rfl ?_
    walk_at "akgo"
    refine ⟨by simp, ?_⟩
    walk_at "akgo"
    refine .inr ⟨(t.1 + t.2.length, t.2), ?_, by show t.2.length ≤ 1000; omega, ?_⟩
    · rw [tlD_eq, List.length_map]
      rfl
    walk_at "akgo"
    refine ⟨rfl, ?_⟩
    have rest : ∀ (c : Cell) (x4 x9 x10 x11 x12 x13 x14 : Option D), PoolC c → Sx (Sc c) [some (scrD K b0 script), some (.ref a), some (.ref d), some (netD K N), x4, some (intsD costs), some (.tup ((redL N).map intD)), some (.tup [.int (t.1 : Nat), .tup (t.2.map intD)]), some (intD lk), x9, x10, x11, x12, x13, x14]
        (tSeq (tAsg (tLc (iStr (tSl rSlS (tC (.str (tx ABC6))) tNoPart (tPart (tCB (rLenD K) (tCons (tDGet (tVar 2) (tC (.str "nodes"))) tNil))))) (gName 13) tYes (tTup (tCons (tVar 13) (tCons (tOp (rI0 fun i j => .int (i + j)) (tC (.int 1)) (tCall (toSp p_law_take) [] E0 (tCons (tVar 1) (tCons (tC (.int 50)) tNil)))) tNil))) [13]) (gName 12)) (tRet (tAndV (tOp (rI0 fun i j => .bl (decide (i ≤ j))) (tCall (toSp (p_bound K)) [] E0 (tCons (tVar 3) (tCons (tVar 5) (tCons (tVar 12) tNil)))) (tOp (rIxT K) (tVar 7) (tC (.int 0)))) (tCall (toSp p_law_same) [] E0 (tCons (tCall (toSp (p_bound K)) [] E0 (tCons (tVar 3) (tCons (tVar 5) (tCons (tLst tNil) tNil)))) (tCons (tC (.int 0)) tNil)))))) ⟨fun S' _ => Q S' .non, Q, fun _ _ => False, fun _ _ => False⟩ := by
      intro c x4 x9 x10 x11 x12 x13 x14 hc
      walk_at "akgo"
      refine ev_lc (own_name (by decide)) (evI_str ?_)
      refine ev_sl ?_
      walk_at "akgo"
      refine evO_none (evO_some ?_)
      walk_at "akgo"
      (refine ev_dget ?_; walk_at "akgo"; refine ⟨_, _, _, _, _, rfl, rfl, (hpd _), (by with_unfolding_all rfl), ?_⟩; walk_at "akgo")
      rw [List.length_map]
      refine sl_S (tx_small (by simp)) ?_
      rw [cut_take, ABC_take _ (by omega)]
      walk_at "akgo"
      have hsl : (signsD (tx ((List.range N.nodes.length).map (65 + ·)))).length = N.nodes.length := by rw [signs_tx, List.length_map, List.length_map, List.length_range]
      refine comp_name (by show (signsD (tx ((List.range N.nodes.length).map (65 + ·)))).length ≤ _; omega) (fun (i : Nat) (S' : Sto) (acc : List D) => ∃ (c : Cell) (ws : List Nat), PoolC c ∧ S' = Sc c ∧ ws.length = i ∧ (∀ x ∈ ws, 1 ≤ x) ∧ acc = ws.zipIdx.map wD) ⟨c, [], hc, rfl, rfl, by simp, rfl⟩ (fun _ _ _ _ _ => trivial) ?_ ?_
      · rintro i dd S' acc hi ⟨c2, ws, hc2, rfl, hwl, hw, rfl⟩ _
        have hin : i < N.nodes.length := by
          have h1 := (List.getElem?_eq_some_iff.mp hi).1
          have h2 : i < (signsD (tx ((List.range N.nodes.length).map (65 + ·)))).length := h1
          omega
        have hd : dd = .str (up i) := by
          have h2 : (signsD (tx ((List.range N.nodes.length).map (65 + ·))))[i]? = some dd := hi
          rw [signs_tx, List.getElem?_map, List.getElem?_map, List.getElem?_range hin] at h2
          exact (Option.some.inj h2).symm
        subst hd
        refine evT_yes ⟨fun _ => ?_, fun h => Bool.noConfusion h⟩
        walk_at "akgo"
        refine ⟨a, 50, c2, rfl, by omega, by omega, hpa _, hc2, fun c3 r hc3 hr => ?_⟩
        rw [hpp]
        unfold intD
        walk_at "akgo"
        refine ⟨by simp, c3, ws ++ [1 + r], hc3, rfl, by rw [List.length_append, hwl]; rfl, fun x hx => ?_, ?_⟩
        · rcases List.mem_append.mp hx with h | h
          · exact hw x h
          · have e : x = 1 + r := by simpa using h
            omega
        · rw [List.zipIdx_append, List.map_append]
          congr 1
          show [D.tup [.str (up i), .int (1 + (r : Int))]] = [wD (1 + r, 0 + ws.length)]
          unfold wD intD
          rw [Nat.zero_add, hwl, Int.natCast_add]
          rfl
      · rintro S' acc _ ⟨c2, ws, hc2, rfl, hwl, hw, rfl⟩
        have hwl2 : ws.length ≤ N.n := by
          have e : (DIt.items ⟨signsD (tx ((List.range N.nodes.length).map (65 + ·))), fun _ => True⟩).length = N.nodes.length := hsl
          unfold Net.n
          omega
        refine q_ret (ev_less (ev_andT ?_))
        walk_at "akgo"
        refine ⟨N, costs, ws, rfl, ok, hcl2, hwl2, hw, ?_⟩
        walk_at "akgo"
        refine rd_ixT (d := .int (t.1 : Nat)) rfl ?_
        walk_at "akgo"
        refine ⟨bl_t (hbnd ws hwl2), ?_⟩
        walk_at "akgo"
        refine ev_lst ?_
        walk_at "akgo"
        refine ⟨by simp, ?_⟩
        walk_at "akgo"
        refine ⟨N, costs, [], rfl, ok, hcl2, Nat.zero_le _, by simp, ?_⟩
        walk_at "akgo"
        exact .inl ⟨_, _, rfl, hbnd0, S, hle _, hq⟩
    walk_at "akgo"
    refine q_if ?_
    walk_at "akgo"
    (refine ev_dget ?_; walk_at "akgo"; refine ⟨_, _, _, _, _, rfl, rfl, (hpd _), (by with_unfolding_all rfl), ?_⟩; walk_at "akgo")
    rw [List.length_map]
    refine ⟨fun hb => ?_, fun hb => ?_⟩
    · have hn2 : 1 < N.nodes.length := by
        have := of_decide_eq_true hb
        omega
      have hlk2 : lk + 1 < N.nodes.length := by omega
      obtain ⟨hen, haddT⟩ : enough (N.add (lk + 1, 0)) (List.range (N.add (lk + 1, 0)).links.length) = true ∧ ∀ c, ∃ t', cheapL (N.add (lk + 1, 0)) (costs ++ [c]) = some t' ∧ t'.1 ≤ t.1 := ⟨(hadd (lk + 1, 0) 0 (by omega) hlk2 (by show 0 < _; omega) (by simp)).1, fun c => (hadd (lk + 1, 0) c (by omega) hlk2 (by show 0 < _; omega) (by simp)).2⟩
      have okA : (N.add (lk + 1, 0)).Ok := ok.add (by omega) hlk2 (by show 0 < _; omega) (by simp)
      have hfeas : (N.add (lk + 1, 0)).feas = true := by rw [MO.m2 _ okA]; exact hen
      unfold intD
      walk_at "akgo"
      have e1 : ((lk : Int) + 1) = ((lk + 1 : Nat) : Int) := rfl
      rw [e1]
      refine rd_ixS (c := 65 + (lk + 1)) (tx_small (by simp)) (ABC_at _ (by omega)) ?_
      walk_at "akgo"
      refine rd_addS (by simp [Str.length]) ?_
      have e2 : D.str (⟨#[65 + (lk + 1)]⟩ ++ tx [65]) = lkD (lk + 1, 0) := rfl
      rw [e2]
      walk_at "akgo"
      refine ev_net ?_
      walk_at "akgo"
      (refine ev_dget ?_; walk_at "akgo"; refine ⟨_, _, _, _, _, rfl, rfl, (hpd _), (by with_unfolding_all rfl), ?_⟩; walk_at "akgo")
      (refine ev_dget ?_; walk_at "akgo"; refine ⟨_, _, _, _, _, rfl, rfl, (hpd _), (by with_unfolding_all rfl), ?_⟩; walk_at "akgo")
      (refine ev_dget ?_; walk_at "akgo"; refine ⟨_, _, _, _, _, rfl, rfl, (hpd _), (by with_unfolding_all rfl), ?_⟩; walk_at "akgo")
      refine rc_list (l := N.links.map lkD) (.inl .o) ?_
      refine ev_lst ?_
      walk_at "akgo"
      refine ⟨by simp, ?_⟩
      refine rd_cat .o .o (by rw [List.length_map]; simp; omega) ?_
      walk_at "akgo"
      refine ⟨N.add (lk + 1, 0), true, true, ?_, okA, ?_⟩
      · unfold Net.add
        rw [List.map_append]
        rfl
      refine q_ifF (evT_orF ?_)
      walk_at "akgo"
      refine ⟨N, (lk + 1, 0), rfl, ok, by omega, hlk2, by show 0 < _; omega, by simp, ?_⟩
      rw [hfeas]
      walk_at "akgo"
      refine ⟨rfl, ?_⟩
      walk_at "akgo"
      refine ev_lst ?_
      walk_at "akgo"
      refine ⟨a, 3, c3, rfl, by omega, by omega, hpa _, hc3, fun c4 x hc4 hx => ?_⟩
      rw [hpp]
      walk_at "akgo"
      refine ⟨by simp, ?_⟩
      refine rd_cat (l := costs.map intD) .o .o (by rw [List.length_map]; simp; omega) ?_
      walk_at "akgo"
      obtain ⟨t', ht', htl⟩ := haddT x
      refine ⟨N.add (lk + 1, 0), costs ++ [x], ?_, okA, ?_, fun _ => ?_, fun he2 => absurd hen (by rw [he2]; decide)⟩
      · unfold intsD
        rw [List.map_append]
        rfl
      · unfold Net.add
        rw [List.length_append, List.length_append, hcl2]
        rfl
      rw [ht', optD_some]
      walk_at "akgo"
      refine rd_ixT (d := .int (t'.1 : Nat)) rfl ?_
      walk_at "akgo"
      refine rd_ixT (d := .int (t.1 : Nat)) rfl ?_
      walk_at "akgo"
      refine ⟨decide_eq_false (by omega), ?_⟩
      refine q_next ?_
      exact rest c4 _ _ _ _ _ _ _ hc4
    · refine q_next ?_
      exact rest c3 _ _ _ _ _ _ _ hc3
  · walk_at "akgo"
    refine ⟨N, costs, rfl, ok, hcl2, fun he2 => absurd he (by rw [he2]; decide), fun _ => ?_⟩
    walk_at "akgo"
    refine q_ifF (evT_orF ?_)
    walk_at "akgo"
    have next : ∀ z, ut z ≠ ut 0 → True := fun _ _ => trivial
    refine ⟨d, N, rfl, hpd _, ok, fun z z0 z1 _ => ?_, fun hno => absurd ((MO.m1 N ok).mpr hno) (by rw [he]; decide)⟩
    have hz32 : z < 64 := by
      have h1 : 2 ^ N.n ≤ 2 ^ 5 := Nat.pow_le_pow_right (by decide) ok.n5
      omega
    have hzne : ut z ≠ ut 0 := by
      rw [ul_zero]
      exact ul_ne z hz32 z0
    walk_at "akgo"
    refine ⟨by rw [decide_eq_false hzne]; rfl, ?_⟩
    walk_at "akgo"
    refine ⟨rfl, ?_⟩
    walk_at "akgo"
    (refine ev_dget ?_; walk_at "akgo"; refine ⟨_, _, _, _, _, rfl, rfl, (hpd _), (by with_unfolding_all rfl), ?_⟩; walk_at "akgo")
    rw [List.length_map, eM]
    refine ⟨a, _, c2, rfl, by omega, by omega, hpa _, hc2, fun c3 lk hc3 hlk => ?_⟩
    rw [hpp]
    walk_at "akgo"
    refine q_ifT ?_
    walk_at "akgo"
    refine ⟨rfl, ?_⟩
    walk_at "akgo"
    refine ⟨N, rfl, ok, by omega, ?_⟩
    have hhl : N.helpL.length ≤ 20 := Nat.le_trans (List.length_filter_le ..) (allL_len _ (by omega))
    refine q_ret (ev_less ?_)
    walk_at "akgo"
    refine ev_lcA (own_name (by decide)) (Sc c3 = ·) lkD N.helpL (fun _ => .bl true) (by omega) (evI_tup ?_) ?_ ?_
    · walk_at "akgo"
      exact ⟨rfl, fun _ _ => trivial, rfl⟩
    · rintro l hlm _ rfl
      obtain ⟨g1, g2⟩ := List.mem_filter.mp hlm
      obtain ⟨l1, l2, l3⟩ := allL_ok _ (by omega) l g1
      have okA : (N.add l).Ok := ok.add (by omega) l1 l2 l3
      have hen : enough (N.add l) (List.range (N.add l).links.length) = true := by rw [← MO.m2 _ okA]; exact g2
      walk_at "akgo"
      refine ev_net ?_
      walk_at "akgo"
      (refine ev_dget ?_; walk_at "akgo"; refine ⟨_, _, _, _, _, rfl, rfl, (hpd _), (by with_unfolding_all rfl), ?_⟩; walk_at "akgo")
      (refine ev_dget ?_; walk_at "akgo"; refine ⟨_, _, _, _, _, rfl, rfl, (hpd _), (by with_unfolding_all rfl), ?_⟩; walk_at "akgo")
      (refine ev_dget ?_; walk_at "akgo"; refine ⟨_, _, _, _, _, rfl, rfl, (hpd _), (by with_unfolding_all rfl), ?_⟩; walk_at "akgo")
      refine rc_list (l := N.links.map lkD) (.inl .o) ?_
      refine ev_lst ?_
      walk_at "akgo"
      refine ⟨by simp, ?_⟩
      refine rd_cat .o .o (by rw [List.length_map]; simp; omega) ?_
      walk_at "akgo"
      refine ⟨N.add l, true, true, ?_, okA, ?_⟩
      · unfold Net.add
        rw [List.map_append]
        rfl
      walk_at "akgo"
      refine ⟨_, rfl, okA, fun _ => ?_, fun he2 => absurd hen (by rw [he2]; decide)⟩
      walk_at "akgo"
      exact ⟨rfl, rfl⟩
    · rintro _ rfl
      walk_at "akgo"
      refine rc_all (bs := N.helpL.map fun _ => true) (.inl (by simp only [List.map_map]; rfl)) ?_
      rw [all_mapG]
      have e : (N.helpL.all fun _ => true) = true := List.all_eq_true.mpr fun _ _ => rfl
      rw [e]
      exact ⟨S, hle _, hq⟩
end AK
set_option Elab.async false
set_option linter.all false
set_option maxRecDepth 100000
set_option maxHeartbeats 4000000
/-! Every def keeps its promise. -/
namespace AK
open PySem PySem.Spec PyProof.Rows L2
variable {P : Program} {w : World} {K : PySem.W.Frag} {mg : Str → Option Value} {base : Heap}
theorem no_fn {k : Nat} {f : Addr} {ps : List Str} : FnC P w K mg base k f ps (fun _ _ _ => False) := by
  have no : ∀ vs H Q E, ¬ toSp (fun _ _ _ => False) vs H Q E := fun vs H Q E h => by
    obtain ⟨_, _, _, _, _, _, _, h, _⟩ := h
    exact h
  exact ⟨fun vs H Q E h => absurd h (no vs H Q E), fun A outer s H args us vs Q E _ _ _ _ h => absurd h (no vs H Q E)⟩
theorem ok_law_pool (T : Top K mg) : FnC P w K mg base 1 (a_law_pool K) ["_law_script"] (p_law_pool K) :=
  mk_law_pool T  (by intro S ds Q h; (repeat (obtain ⟨_, h⟩ := h)); subst_vars; rfl) (fun S ds Q h => sx_law_pool S ds Q h)
theorem ok_take0 (T : Top K mg) : FnC P w K mg base 1 (a_law_take K) ["_law_pool_here", "_law_many"] p_take0 :=
  mk_law_take (j := 0) T no_fn (by intro S ds Q h; (repeat (obtain ⟨_, h⟩ := h)); subst_vars; rfl) (fun S ds Q h => sx_law_take0 S ds Q h)
theorem ok_law_take (T : Top K mg) : FnC P w K mg base 2 (a_law_take K) ["_law_pool_here", "_law_many"] p_law_take :=
  mk_law_take (j := 1) T (ok_take0 T) (by intro S ds Q h; (repeat (obtain ⟨_, h⟩ := h)); subst_vars; rfl) (fun S ds Q h => sx_law_take S ds Q h)
theorem ok_law_parity (T : Top K mg) : FnC P w K mg base 3 (a_law_parity K) ["_law_pool_here", "_law_variables"] p_law_parity :=
  mk_law_parity T (ok_law_take T) (by intro S ds Q h; (repeat (obtain ⟨_, h⟩ := h)); subst_vars; rfl) (fun S ds Q h => sx_law_parity S ds Q h)
theorem ok_law_message (T : Top K mg) : FnC P w K mg base 4 (a_law_message K) ["_law_pool_here", "_law_variables"] p_law_message :=
  mk_law_message T (ok_law_parity T) (ok_law_take T) (by intro S ds Q h; (repeat (obtain ⟨_, h⟩ := h)); subst_vars; rfl) (fun S ds Q h => sx_law_message S ds Q h)
theorem ok_law_some_messages (T : Top K mg) : FnC P w K mg base 5 (a_law_some_messages K) ["_law_pool_here", "_law_variables", "_law_most"] p_law_some_messages :=
  mk_law_some_messages T (ok_law_take T) (ok_law_message T) (by intro S ds Q h; (repeat (obtain ⟨_, h⟩ := h)); subst_vars; rfl) (fun S ds Q h => sx_law_some_messages S ds Q h)
theorem ok_law_drawn (T : Top K mg) : FnC P w K mg base 6 (a_law_drawn K) ["_law_pool_here", "_law_nodes", "_law_links"] p_law_drawn :=
  mk_law_drawn T (ok_law_take T) (ok_law_some_messages T) (by intro S ds Q h; (repeat (obtain ⟨_, h⟩ := h)); subst_vars; rfl) (fun S ds Q h => sx_law_drawn S ds Q h)
theorem ok_law_sets (T : Top K mg) : FnC P w K mg base 1 (a_law_sets K) ["_law_many"] p_law_sets :=
  mk_law_sets T  (by intro S ds Q h; (repeat (obtain ⟨_, h⟩ := h)); subst_vars; rfl) (fun S ds Q h => sx_law_sets S ds Q h)
theorem ok_law_entering (T : Top K mg) : FnC P w K mg base 1 (a_law_entering K) ["_law_network_here", "_law_letters"] p_law_entering :=
  mk_law_entering T  (by intro S ds Q h; (repeat (obtain ⟨_, h⟩ := h)); subst_vars; rfl) (fun S ds Q h => sx_law_entering S ds Q h)
theorem ok_law_messages_of (T : Top K mg) : FnC P w K mg base 1 (a_law_messages_of K) ["_law_network_here", "_law_letters"] p_law_messages_of :=
  mk_law_messages_of T  (by intro S ds Q h; (repeat (obtain ⟨_, h⟩ := h)); subst_vars; rfl) (fun S ds Q h => sx_law_messages_of S ds Q h)
theorem ok_law_sum (T : Top K mg) : FnC P w K mg base 1 (a_law_sum K) ["_law_texts"] p_law_sum :=
  mk_law_sum T  (by intro S ds Q h; (repeat (obtain ⟨_, h⟩ := h)); subst_vars; rfl) (fun S ds Q h => sx_law_sum S ds Q h)
theorem ok_law_derived (T : Top K mg) : FnC P w K mg base 2 (a_law_derived K) ["_law_messages"] p_law_derived :=
  mk_law_derived T (ok_law_sum T) (by intro S ds Q h; (repeat (obtain ⟨_, h⟩ := h)); subst_vars; rfl) (fun S ds Q h => sx_law_derived S ds Q h)
theorem ok_law_rank (T : Top K mg) : FnC P w K mg base 3 (a_law_rank K) ["_law_messages"] p_law_rank :=
  mk_law_rank T (ok_law_derived T) (by intro S ds Q h; (repeat (obtain ⟨_, h⟩ := h)); subst_vars; rfl) (fun S ds Q h => sx_law_rank S ds Q h)
theorem ok_law_demand (T : Top K mg) : FnC P w K mg base 4 (a_law_demand K) ["_law_network_here", "_law_letters"] p_law_demand :=
  mk_law_demand T (ok_law_messages_of T) (ok_law_rank T) (by intro S ds Q h; (repeat (obtain ⟨_, h⟩ := h)); subst_vars; rfl) (fun S ds Q h => sx_law_demand S ds Q h)
theorem ok_law_deficient (T : Top K mg) : FnC P w K mg base 5 (a_law_deficient K) ["_law_network_here"] p_law_deficient :=
  mk_law_deficient T (ok_law_sets T) (ok_law_entering T) (ok_law_demand T) (by intro S ds Q h; (repeat (obtain ⟨_, h⟩ := h)); subst_vars; rfl) (fun S ds Q h => sx_law_deficient S ds Q h)
theorem ok_law_pick (T : Top K mg) : FnC P w K mg base 3 (a_law_pick K) ["_law_pool_here", "_law_rows"] p_law_pick :=
  mk_law_pick T (ok_law_take T) (by intro S ds Q h; (repeat (obtain ⟨_, h⟩ := h)); subst_vars; rfl) (fun S ds Q h => sx_law_pick S ds Q h)
theorem ok_law_filled (T : Top K mg) : FnC P w K mg base 7 (a_law_filled K) ["_law_pool_here", "_law_nodes", "_law_links"] p_law_filled :=
  mk_law_filled T (ok_law_drawn T) (ok_law_deficient T) (ok_law_pick T) (ok_law_take T) (by intro S ds Q h; (repeat (obtain ⟨_, h⟩ := h)); subst_vars; rfl) (fun S ds Q h => sx_law_filled S ds Q h)
theorem ok_law_network (T : Top K mg) : FnC P w K mg base 8 (a_law_network K) ["_law_pool_here", "_law_nodes", "_law_links"] p_law_network :=
  mk_law_network T (ok_law_take T) (ok_law_drawn T) (ok_law_filled T) (by intro S ds Q h; (repeat (obtain ⟨_, h⟩ := h)); subst_vars; rfl) (fun S ds Q h => sx_law_network S ds Q h)
theorem ok_is_ascending (T : Top K mg) : FnC P w K mg base 1 (a_is_ascending K) ["text", "letters"] p_is_ascending :=
  mk_is_ascending T  (by intro S ds Q h; (repeat (obtain ⟨_, h⟩ := h)); subst_vars; rfl) (fun S ds Q h => sx_is_ascending S ds Q h)
theorem ok_is_message (T : Top K mg) : FnC P w K mg base 2 (a_is_message K) ["variables", "text"] p_is_message :=
  mk_is_message T (ok_is_ascending T) (by intro S ds Q h; (repeat (obtain ⟨_, h⟩ := h)); subst_vars; rfl) (fun S ds Q h => sx_is_message S ds Q h)
theorem ok_check_nodes (T : Top K mg) : FnC P w K mg base 3 (a_check_nodes K) ["variables", "nodes"] p_check_nodes :=
  mk_check_nodes T (ok_is_message T) (by intro S ds Q h; (repeat (obtain ⟨_, h⟩ := h)); subst_vars; rfl) (fun S ds Q h => sx_check_nodes S ds Q h)
theorem ok_is_link (T : Top K mg) : FnC P w K mg base 1 (a_is_link K) ["nodes", "text"] p_is_link :=
  mk_is_link T  (by intro S ds Q h; (repeat (obtain ⟨_, h⟩ := h)); subst_vars; rfl) (fun S ds Q h => sx_is_link S ds Q h)
theorem ok_check_links (T : Top K mg) : FnC P w K mg base 2 (a_check_links K) ["nodes", "links"] p_check_links :=
  mk_check_links T (ok_is_link T) (by intro S ds Q h; (repeat (obtain ⟨_, h⟩ := h)); subst_vars; rfl) (fun S ds Q h => sx_check_links S ds Q h)
theorem ok_Network_init (T : Top K mg) : FnC P w K mg base 4 (a_Network_init K) ["self", "variables", "nodes", "links"] (p_Network_init K) :=
  mk_Network_init T (ok_check_nodes T) (ok_check_links T) (by intro S ds Q h; (repeat (obtain ⟨_, h⟩ := h)); subst_vars; rfl) (fun S ds Q h => sx_Network_init T S ds Q h)
theorem ok_Span_left (T : Top K mg) : FnC P w K mg base 1 (a_Span_left K) ["self", "mask"] (p_Span_left K) :=
  mk_Span_left T  (by intro S ds Q h; (repeat (obtain ⟨_, h⟩ := h)); subst_vars; rfl) (fun S ds Q h => sx_Span_left T S ds Q h)
theorem ok_Span_add (T : Top K mg) : FnC P w K mg base 2 (a_Span_add K) ["self", "mask"] (p_Span_add K) :=
  mk_Span_add T (ok_Span_left T) (by intro S ds Q h; (repeat (obtain ⟨_, h⟩ := h)); subst_vars; rfl) (fun S ds Q h => sx_Span_add T S ds Q h)
theorem ok_Span_init (T : Top K mg) : FnC P w K mg base 3 (a_Span_init K) ["self", "masks"] (p_Span_init K) :=
  mk_Span_init T (ok_Span_add T) (by intro S ds Q h; (repeat (obtain ⟨_, h⟩ := h)); subst_vars; rfl) (fun S ds Q h => sx_Span_init T S ds Q h)
theorem ok_State_init (T : Top K mg) : FnC P w K mg base 5 (a_State_init K) ["self", "network"] (p_State_init K) :=
  mk_State_init T (ok_Span_init T) (by intro S ds Q h; (repeat (obtain ⟨_, h⟩ := h)); subst_vars; rfl) (fun S ds Q h => sx_State_init T S ds Q h)
theorem ok_State_sets (T : Top K mg) : FnC P w K mg base 1 (a_State_sets K) ["self"] (p_State_sets K) :=
  mk_State_sets T  (by intro S ds Q h; (repeat (obtain ⟨_, h⟩ := h)); subst_vars; rfl) (fun S ds Q h => sx_State_sets T S ds Q h)
theorem ok_Span_copied (T : Top K mg) : FnC P w K mg base 5 (a_Span_copied K) ["self"] (p_Span_copied K) :=
  mk_Span_copied T (ok_Span_init T) (by intro S ds Q h; (repeat (obtain ⟨_, h⟩ := h)); subst_vars; rfl) (fun S ds Q h => sx_Span_copied T S ds Q h)
theorem ok_mask_of (T : Top K mg) : FnC P w K mg base 1 (a_mask_of K) ["text"] p_mask_of :=
  mk_mask_of T  (by intro S ds Q h; (repeat (obtain ⟨_, h⟩ := h)); subst_vars; rfl) (fun S ds Q h => sx_mask_of S ds Q h)
theorem ok_State_message (T : Top K mg) : FnC P w K mg base 2 (a_State_message K) ["self", "origin", "number"] (p_State_message K) :=
  mk_State_message T (ok_mask_of T) (by intro S ds Q h; (repeat (obtain ⟨_, h⟩ := h)); subst_vars; rfl) (fun S ds Q h => sx_State_message T S ds Q h)
theorem ok_State_messages (T : Top K mg) : FnC P w K mg base 3 (a_State_messages K) ["self", "node"] (p_State_messages K) :=
  mk_State_messages T (ok_State_message T) (by intro S ds Q h; (repeat (obtain ⟨_, h⟩ := h)); subst_vars; rfl) (fun S ds Q h => sx_State_messages T S ds Q h)
theorem ok_State_span (T : Top K mg) : FnC P w K mg base 6 (a_State_span K) ["self", "one"] (p_State_span K) :=
  mk_State_span T (ok_Span_copied T) (ok_State_messages T) (ok_Span_add T) (by intro S ds Q h; (repeat (obtain ⟨_, h⟩ := h)); subst_vars; rfl) (fun S ds Q h => sx_State_span T S ds Q h)
theorem ok_Span_rank (T : Top K mg) : FnC P w K mg base 1 (a_Span_rank K) ["self"] (p_Span_rank K) :=
  mk_Span_rank T  (by intro S ds Q h; (repeat (obtain ⟨_, h⟩ := h)); subst_vars; rfl) (fun S ds Q h => sx_Span_rank T S ds Q h)
theorem ok_State_rank (T : Top K mg) : FnC P w K mg base 7 (a_State_rank K) ["self", "one"] (p_State_rank K) :=
  mk_State_rank T (ok_State_span T) (ok_Span_rank T) (by intro S ds Q h; (repeat (obtain ⟨_, h⟩ := h)); subst_vars; rfl) (fun S ds Q h => sx_State_rank T S ds Q h)
theorem ok_State_demand (T : Top K mg) : FnC P w K mg base 8 (a_State_demand K) ["self", "one"] (p_State_demand K) :=
  mk_State_demand T (ok_State_rank T) (by intro S ds Q h; (repeat (obtain ⟨_, h⟩ := h)); subst_vars; rfl) (fun S ds Q h => sx_State_demand T S ds Q h)
theorem ok_State_entering (T : Top K mg) : FnC P w K mg base 1 (a_State_entering K) ["self", "one"] (p_State_entering K) :=
  mk_State_entering T  (by intro S ds Q h; (repeat (obtain ⟨_, h⟩ := h)); subst_vars; rfl) (fun S ds Q h => sx_State_entering T S ds Q h)
theorem ok_Needs_init (T : Top K mg) : FnC P w K mg base 9 (a_Needs_init K) ["self", "network"] (p_Needs_init K) :=
  mk_Needs_init T (ok_State_init T) (ok_State_sets T) (ok_State_demand T) (ok_State_entering T) (by intro S ds Q h; (repeat (obtain ⟨_, h⟩ := h)); subst_vars; rfl) (fun S ds Q h => sx_Needs_init T S ds Q h)
theorem ok_Needs_is_enough (T : Top K mg) : FnC P w K mg base 1 (a_Needs_is_enough K) ["self", "links"] (p_Needs_is_enough K) :=
  mk_Needs_is_enough T  (by intro S ds Q h; (repeat (obtain ⟨_, h⟩ := h)); subst_vars; rfl) (fun S ds Q h => sx_Needs_is_enough T S ds Q h)
theorem ok_reduced (T : Top K mg) : FnC P w K mg base 11 (a_reduced K) ["network"] (p_reduced K) :=
  mk_reduced T (ok_Needs_init T) (ok_Needs_is_enough T) (by intro S ds Q h; (repeat (obtain ⟨_, h⟩ := h)); subst_vars; rfl) (fun S ds Q h => sx_reduced T S ds Q h)
theorem ok_check_costs (T : Top K mg) : FnC P w K mg base 1 (a_check_costs K) ["network", "costs"] (p_check_costs K) :=
  mk_check_costs T  (by intro S ds Q h; (repeat (obtain ⟨_, h⟩ := h)); subst_vars; rfl) (fun S ds Q h => sx_check_costs T S ds Q h)
theorem ok_Needs_of_node (T : Top K mg) : FnC P w K mg base 1 (a_Needs_of_node K) ["self", "node"] (p_Needs_of_node K) :=
  mk_Needs_of_node T  (by intro S ds Q h; (repeat (obtain ⟨_, h⟩ := h)); subst_vars; rfl) (fun S ds Q h => sx_Needs_of_node T S ds Q h)
theorem ok_chosen (T : Top K mg) : FnC P w K mg base 1 (a_chosen K) ["links", "many"] p_chosen :=
  mk_chosen T  (by intro S ds Q h; (repeat (obtain ⟨_, h⟩ := h)); subst_vars; rfl) (fun S ds Q h => sx_chosen S ds Q h)
theorem ok_least_sets (T : Top K mg) : FnC P w K mg base 2 (a_least_sets K) ["needs"] (p_least_sets K) :=
  mk_least_sets T (ok_Needs_of_node T) (ok_chosen T) (ok_Needs_is_enough T) (by intro S ds Q h; (repeat (obtain ⟨_, h⟩ := h)); subst_vars; rfl) (fun S ds Q h => sx_least_sets T S ds Q h)
theorem ok_cheapest (T : Top K mg) : FnC P w K mg base 11 (a_cheapest K) ["network", "costs"] (p_cheapest K) :=
  mk_cheapest T (ok_check_costs T) (ok_Needs_init T) (ok_Needs_is_enough T) (ok_least_sets T) (by intro S ds Q h; (repeat (obtain ⟨_, h⟩ := h)); subst_vars; rfl) (fun S ds Q h => sx_cheapest T S ds Q h)
theorem ok_Network_node_letters (T : Top K mg) : FnC P w K mg base 1 (a_Network_node_letters K) ["self"] (p_Network_node_letters K) :=
  mk_Network_node_letters T  (by intro S ds Q h; (repeat (obtain ⟨_, h⟩ := h)); subst_vars; rfl) (fun S ds Q h => sx_Network_node_letters T S ds Q h)
theorem ok_Network_made (T : Top K mg) : FnC P w K mg base 6 (a_Network_made K) ["cls", "variables", "nodes", "links"] (p_Network_made K) :=
  mk_Network_made T (ok_Network_init T) (by intro S ds Q h; (repeat (obtain ⟨_, h⟩ := h)); subst_vars; rfl) (fun S ds Q h => sx_Network_made T S ds Q h)
theorem ok_State_slack (T : Top K mg) : FnC P w K mg base 9 (a_State_slack K) ["self", "one"] (p_State_slack K) :=
  mk_State_slack T (ok_State_entering T) (ok_State_demand T) (by intro S ds Q h; (repeat (obtain ⟨_, h⟩ := h)); subst_vars; rfl) (fun S ds Q h => sx_State_slack T S ds Q h)
theorem ok_State_deficient (T : Top K mg) : FnC P w K mg base 10 (a_State_deficient K) ["self"] (p_State_deficient K) :=
  mk_State_deficient T (ok_State_sets T) (ok_State_slack T) (by intro S ds Q h; (repeat (obtain ⟨_, h⟩ := h)); subst_vars; rfl) (fun S ds Q h => sx_State_deficient T S ds Q h)
theorem ok_is_feasible (T : Top K mg) : FnC P w K mg base 11 (a_is_feasible K) ["network"] (p_is_feasible K) :=
  mk_is_feasible T (ok_State_init T) (ok_State_deficient T) (by intro S ds Q h; (repeat (obtain ⟨_, h⟩ := h)); subst_vars; rfl) (fun S ds Q h => sx_is_feasible T S ds Q h)
theorem ok_with_link (T : Top K mg) : FnC P w K mg base 12 (a_with_link K) ["network", "link"] (p_with_link K) :=
  mk_with_link T (ok_is_link T) (ok_Network_made T) (ok_is_feasible T) (by intro S ds Q h; (repeat (obtain ⟨_, h⟩ := h)); subst_vars; rfl) (fun S ds Q h => sx_with_link T S ds Q h)
theorem ok_helping_links (T : Top K mg) : FnC P w K mg base 13 (a_helping_links K) ["network"] (p_helping_links K) :=
  mk_helping_links T (ok_Network_node_letters T) (ok_with_link T) (by intro S ds Q h; (repeat (obtain ⟨_, h⟩ := h)); subst_vars; rfl) (fun S ds Q h => sx_helping_links T S ds Q h)
theorem ok_law_only (T : Top K mg) : FnC P w K mg base 6 (a_law_only K) ["_law_network_here", "_law_links"] (p_law_only K) :=
  mk_law_only T (ok_Network_init T) (by intro S ds Q h; (repeat (obtain ⟨_, h⟩ := h)); subst_vars; rfl) (fun S ds Q h => sx_law_only S ds Q h)
theorem ok_State_is_done (T : Top K mg) : FnC P w K mg base 9 (a_State_is_done K) ["self"] (p_State_is_done K) :=
  mk_State_is_done T (ok_State_demand T) (by intro S ds Q h; (repeat (obtain ⟨_, h⟩ := h)); subst_vars; rfl) (fun S ds Q h => sx_State_is_done T S ds Q h)
theorem ok_State_tight (T : Top K mg) : FnC P w K mg base 10 (a_State_tight K) ["self"] (p_State_tight K) :=
  mk_State_tight T (ok_State_sets T) (ok_State_slack T) (by intro S ds Q h; (repeat (obtain ⟨_, h⟩ := h)); subst_vars; rfl) (fun S ds Q h => sx_State_tight T S ds Q h)
theorem ok_State_largest_without (T : Top K mg) : FnC P w K mg base 11 (a_State_largest_without K) ["self", "node", "other"] (p_State_largest_without K) :=
  mk_State_largest_without T (ok_State_tight T) (by intro S ds Q h; (repeat (obtain ⟨_, h⟩ := h)); subst_vars; rfl) (fun S ds Q h => sx_State_largest_without T S ds Q h)
theorem ok_Span_has (T : Top K mg) : FnC P w K mg base 2 (a_Span_has K) ["self", "mask"] (p_Span_has K) :=
  mk_Span_has T (ok_Span_left T) (by intro S ds Q h; (repeat (obtain ⟨_, h⟩ := h)); subst_vars; rfl) (fun S ds Q h => sx_Span_has T S ds Q h)
theorem ok_State_carried (T : Top K mg) : FnC P w K mg base 12 (a_State_carried K) ["self", "link"] (p_State_carried K) :=
  mk_State_carried T (ok_State_largest_without T) (ok_State_span T) (ok_State_message T) (ok_Span_has T) (by intro S ds Q h; (repeat (obtain ⟨_, h⟩ := h)); subst_vars; rfl) (fun S ds Q h => sx_State_carried T S ds Q h)
theorem ok_State_following (T : Top K mg) : FnC P w K mg base 13 (a_State_following K) ["self"] (p_State_following K) :=
  mk_State_following T (ok_State_deficient T) (ok_State_carried T) (by intro S ds Q h; (repeat (obtain ⟨_, h⟩ := h)); subst_vars; rfl) (fun S ds Q h => sx_State_following T S ds Q h)
theorem ok_State_without (T : Top K mg) : FnC P w K mg base 7 (a_State_without K) ["self", "links"] (p_State_without K) :=
  mk_State_without T (ok_State_init T) (by intro S ds Q h; (repeat (obtain ⟨_, h⟩ := h)); subst_vars; rfl) (fun S ds Q h => sx_State_without T S ds Q h)
theorem ok_State_after (T : Top K mg) : FnC P w K mg base 8 (a_State_after K) ["self", "transmission"] (p_State_after K) :=
  mk_State_after T (ok_State_without T) (by intro S ds Q h; (repeat (obtain ⟨_, h⟩ := h)); subst_vars; rfl) (fun S ds Q h => sx_State_after T S ds Q h)
theorem ok_schedule_from (T : Top K mg) : FnC P w K mg base 14 (a_schedule_from K) ["state"] (p_schedule_from K) :=
  mk_schedule_from T (ok_State_deficient T) (ok_State_is_done T) (ok_State_following T) (ok_State_after T) (by intro S ds Q h; (repeat (obtain ⟨_, h⟩ := h)); subst_vars; rfl) (fun S ds Q h => sx_schedule_from T S ds Q h)
theorem ok_first_schedule (T : Top K mg) : FnC P w K mg base 15 (a_first_schedule K) ["network"] (p_first_schedule K) :=
  mk_first_schedule T (ok_State_init T) (ok_schedule_from T) (by intro S ds Q h; (repeat (obtain ⟨_, h⟩ := h)); subst_vars; rfl) (fun S ds Q h => sx_first_schedule T S ds Q h)
theorem ok_check_link (T : Top K mg) : FnC P w K mg base 1 (a_check_link K) ["network", "number"] (p_check_link K) :=
  mk_check_link T  (by intro S ds Q h; (repeat (obtain ⟨_, h⟩ := h)); subst_vars; rfl) (fun S ds Q h => sx_check_link T S ds Q h)
theorem ok_node_number (T : Top K mg) : FnC P w K mg base 2 (a_node_number K) ["network", "node"] (p_node_number K) :=
  mk_node_number T (ok_Network_node_letters T) (by intro S ds Q h; (repeat (obtain ⟨_, h⟩ := h)); subst_vars; rfl) (fun S ds Q h => sx_node_number T S ds Q h)
theorem ok_check_transmission (T : Top K mg) : FnC P w K mg base 3 (a_check_transmission K) ["network", "transmission"] (p_check_transmission K) :=
  mk_check_transmission T (ok_check_link T) (ok_node_number T) (by intro S ds Q h; (repeat (obtain ⟨_, h⟩ := h)); subst_vars; rfl) (fun S ds Q h => sx_check_transmission T S ds Q h)
theorem ok_checked (T : Top K mg) : FnC P w K mg base 4 (a_checked K) ["network", "transmissions"] (p_checked K) :=
  mk_checked T (ok_check_transmission T) (by intro S ds Q h; (repeat (obtain ⟨_, h⟩ := h)); subst_vars; rfl) (fun S ds Q h => sx_checked T S ds Q h)
theorem ok_State_why_not (T : Top K mg) : FnC P w K mg base 7 (a_State_why_not K) ["self", "transmission"] (p_State_why_not K) :=
  mk_State_why_not T (ok_State_span T) (ok_State_message T) (ok_Span_has T) (by intro S ds Q h; (repeat (obtain ⟨_, h⟩ := h)); subst_vars; rfl) (fun S ds Q h => sx_State_why_not T S ds Q h)
theorem ok_last_state (T : Top K mg) : FnC P w K mg base 9 (a_last_state K) ["network", "transmissions"] (p_last_state K) :=
  mk_last_state T (ok_State_init T) (ok_checked T) (ok_State_why_not T) (ok_State_after T) (by intro S ds Q h; (repeat (obtain ⟨_, h⟩ := h)); subst_vars; rfl) (fun S ds Q h => sx_last_state T S ds Q h)
theorem ok_is_complete (T : Top K mg) : FnC P w K mg base 10 (a_is_complete K) ["network", "transmissions"] (p_is_complete K) :=
  mk_is_complete T (ok_last_state T) (ok_State_is_done T) (by intro S ds Q h; (repeat (obtain ⟨_, h⟩ := h)); subst_vars; rfl) (fun S ds Q h => sx_is_complete T S ds Q h)
theorem ok_law_is_least (T : Top K mg) : FnC P w K mg base 16 (a_law_is_least K) ["_law_network_here", "_law_links"] (p_law_is_least K) :=
  mk_law_is_least T (ok_law_only T) (ok_first_schedule T) (ok_is_complete T) (ok_is_feasible T) (by intro S ds Q h; (repeat (obtain ⟨_, h⟩ := h)); subst_vars; rfl) (fun S ds Q h => sx_law_is_least T S ds Q h)
theorem ok_law_is_integer (T : Top K mg) : FnC P w K mg base 1 (a_law_is_integer K) ["_law_actual"] p_law_is_integer :=
  mk_law_is_integer T  (by intro S ds Q h; (repeat (obtain ⟨_, h⟩ := h)); subst_vars; rfl) (fun S ds Q h => sx_law_is_integer S ds Q h)
theorem ok_same0 (T : Top K mg) : FnC P w K mg base 3 (a_law_same K) ["_law_actual", "_law_due"] p_same0 :=
  mk_law_same (j := 2) T (by decide) no_fn (ok_law_is_integer T) (by intro S ds Q h; (repeat (obtain ⟨_, h⟩ := h)); subst_vars; rfl) (fun S ds Q h => sx_same0 S ds Q h)
theorem ok_same1 (T : Top K mg) : FnC P w K mg base 4 (a_law_same K) ["_law_actual", "_law_due"] p_same1 :=
  mk_law_same (j := 3) T (by decide) (ok_same0 T) (ok_law_is_integer T) (by intro S ds Q h; rcases h with h | h <;> (repeat (obtain ⟨_, h⟩ := h)) <;> subst_vars <;> rfl) (fun S ds Q h => sx_same1 S ds Q h)
theorem ok_law_same (T : Top K mg) : FnC P w K mg base 5 (a_law_same K) ["_law_actual", "_law_due"] p_law_same :=
  mk_law_same (j := 4) T (by decide) (ok_same1 T) (ok_law_is_integer T) (by intro S ds Q h; rcases h with h | h <;> (repeat (obtain ⟨_, h⟩ := h)) <;> subst_vars <;> rfl) (fun S ds Q h => sx_law_same S ds Q h)
theorem ok_set_mask (T : Top K mg) : FnC P w K mg base 2 (a_set_mask K) ["network", "nodes"] (p_set_mask K) :=
  mk_set_mask T (ok_Network_node_letters T) (ok_is_ascending T) (by intro S ds Q h; (repeat (obtain ⟨_, h⟩ := h)); subst_vars; rfl) (fun S ds Q h => sx_set_mask T S ds Q h)
theorem ok_checked_weights (T : Top K mg) : FnC P w K mg base 7 (a_checked_weights K) ["network", "weights"] (p_checked_weights K) :=
  mk_checked_weights T (ok_set_mask T) (ok_State_init T) (ok_State_sets T) (by intro S ds Q h; (repeat (obtain ⟨_, h⟩ := h)); subst_vars; rfl) (fun S ds Q h => sx_checked_weights T S ds Q h)
theorem ok_bound (T : Top K mg) : FnC P w K mg base 9 (a_bound K) ["network", "costs", "weights"] (p_bound K) :=
  mk_bound T (ok_check_costs T) (ok_checked_weights T) (ok_State_init T) (ok_State_demand T) (ok_State_entering T) (by intro S ds Q h; (repeat (obtain ⟨_, h⟩ := h)); subst_vars; rfl) (fun S ds Q h => sx_bound T S ds Q h)
theorem ok_law (MO : MathOk) (T : Top K mg) : FnC P w K mg base 17 (a_law K) ["_law_script"] (p_law K) :=
  mk_law T (ok_law_pool T) (ok_law_network T) (ok_Network_init T) (ok_law_take T) (ok_reduced T) (ok_cheapest T) (ok_law_deficient T) (ok_helping_links T) (ok_law_is_least T) (ok_law_same T) (ok_with_link T) (ok_bound T) (by intro S ds Q h; (repeat (obtain ⟨_, h⟩ := h)); subst_vars; rfl) (fun S ds Q h => sx_law MO T S ds Q h)
end AK
set_option Elab.async false
set_option linter.all false
set_option maxRecDepth 100000
set_option maxHeartbeats 4000000
/-! The plain mathematics: ranks of sets, tight sets, what a schedule keeps. -/
namespace AK
/-! ### masks -/
def Le (X Y : Nat) : Prop := ∀ i, X.testBit i = true → Y.testBit i = true
theorem le_and_l (X Y : Nat) : Le (X &&& Y) X := fun i h => by
  rw [Nat.testBit_and, Bool.and_eq_true] at h
  exact h.1
theorem le_and_r (X Y : Nat) : Le (X &&& Y) Y := fun i h => by
  rw [Nat.testBit_and, Bool.and_eq_true] at h
  exact h.2
theorem le_or_l (X Y : Nat) : Le X (X ||| Y) := fun i h => by rw [Nat.testBit_or, h, Bool.true_or]
theorem le_or_r (X Y : Nat) : Le Y (X ||| Y) := fun i h => by rw [Nat.testBit_or, h, Bool.or_true]
theorem le_one {v X : Nat} (h : X.testBit v = true) : Le (2 ^ v) X := fun i hi => by
  rw [Nat.testBit_two_pow] at hi
  have e := of_decide_eq_true hi
  rw [← e]
  exact h
theorem bit_one (v : Nat) : (2 ^ v).testBit v = true := by rw [Nat.testBit_two_pow]; exact decide_eq_true rfl
theorem bit_pos {X v : Nat} (h : X.testBit v = true) : 1 ≤ X := by
  rcases Nat.eq_zero_or_pos X with e | e
  · rw [e, Nat.zero_testBit] at h
    cases h
  · exact e
theorem bit_lt {X v n : Nat} (h : X.testBit v = true) (hX : X < 2 ^ n) : v < n := by
  rcases Nat.lt_or_ge v n with e | e
  · exact e
  · rw [Nat.testBit_lt_two_pow (Nat.lt_of_lt_of_le hX (Nat.pow_le_pow_right (by decide) e))] at h
    cases h
theorem full_bit {n v : Nat} (h : v < n) : (2 ^ n - 1).testBit v = true := by rw [Nat.testBit_two_pow_sub_one]; exact decide_eq_true h
theorem le_full {n X : Nat} (h : X < 2 ^ n) : Le X (2 ^ n - 1) := fun i hi => full_bit (bit_lt hi h)
def mkB (p : Nat → Bool) (l : List Nat) : Nat := l.foldl (fun acc i => if p i then acc ||| 2 ^ i else acc) 0
theorem mkB_bit (p : Nat → Bool) (i : Nat) : ∀ (l : List Nat) (acc : Nat), (l.foldl (fun acc i => if p i then acc ||| 2 ^ i else acc) acc).testBit i = (acc.testBit i || (decide (i ∈ l) && p i))
  | [], acc => by simp
  | a :: l, acc => by
    rw [List.foldl_cons, mkB_bit p i l]
    by_cases hp : p a = true
    · rw [if_pos hp, Nat.testBit_or, Nat.testBit_two_pow]
      by_cases e : a = i
      · subst e
        simp [hp]
      · have e2 : ¬ i = a := fun z => e z.symm
        simp [e, e2]
    · rw [if_neg hp]
      by_cases e : a = i
      · subst e
        simp [hp]
      · have e2 : ¬ i = a := fun z => e z.symm
        simp [e2]
theorem least_of {p : Nat → Prop} (h : ∃ X, p X) : ∃ X, p X ∧ ∀ Y, Y < X → ¬ p Y := by
  obtain ⟨X, hX⟩ := h
  revert hX
  refine Nat.strongRecOn X fun X ih hX => ?_
  by_cases hY : ∃ Y, Y < X ∧ p Y
  · obtain ⟨Y, h1, h2⟩ := hY
    exact ih Y h1 h2
  · exact ⟨X, hX, fun Y h1 h2 => hY ⟨Y, h1, h2⟩⟩
/-! ### ranks of sets -/
def rr (f : Nat → List Nat) (X : Nat) : Nat := rkM (msIn f X)
theorem rr_le {f : Nat → List Nat} {X Y : Nat} (h : Le X Y) : rr f X ≤ rr f Y := rkM_mono fun m hm => by
  obtain ⟨i, hi, hb, h2⟩ := mem_msIn.mp hm
  exact derL_mem _ _ (mem_msIn.mpr ⟨i, hi, h i hb, h2⟩)
theorem rr_sub (f : Nat → List Nat) (X Y : Nat) : rr f (X ||| Y) + rr f (X &&& Y) ≤ rr f X + rr f Y := by
  have z := rkM_sub (A := msIn f (X &&& Y)) (B := msIn f X) (fun m hm => by
    obtain ⟨i, hi, hb, h2⟩ := mem_msIn.mp hm
    exact derL_mem _ _ (mem_msIn.mpr ⟨i, hi, le_and_l X Y i hb, h2⟩)) (msIn f Y)
  have e1 : rkM (msIn f X ++ msIn f Y) = rr f (X ||| Y) := rkM_set fun m => by
    rw [List.mem_append, mem_msIn, mem_msIn, mem_msIn]
    constructor
    · rintro (⟨i, hi, hb, h2⟩ | ⟨i, hi, hb, h2⟩)
      · exact ⟨i, hi, le_or_l X Y i hb, h2⟩
      · exact ⟨i, hi, le_or_r X Y i hb, h2⟩
    · rintro ⟨i, hi, hb, h2⟩
      rw [Nat.testBit_or, Bool.or_eq_true] at hb
      rcases hb with hb | hb
      · exact .inl ⟨i, hi, hb, h2⟩
      · exact .inr ⟨i, hi, hb, h2⟩
  have e2 : rkM (msIn f (X &&& Y) ++ msIn f Y) = rr f Y := rkM_set fun m => by
    rw [List.mem_append, mem_msIn, mem_msIn]
    constructor
    · rintro (⟨i, hi, hb, h2⟩ | h)
      · exact ⟨i, hi, le_and_r X Y i hb, h2⟩
      · exact h
    · exact .inr
  rw [e1, e2] at z
  show _ + rkM (msIn f (X &&& Y)) ≤ rkM (msIn f X) + _
  omega
theorem filter_sub {α : Type} (u : List α) (a b p q : α → Bool) (h : ∀ l ∈ u, (a l).toNat + (b l).toNat ≤ (p l).toNat + (q l).toNat) : (u.filter a).length + (u.filter b).length ≤ (u.filter p).length + (u.filter q).length := by
  induction u with
  | nil => simp
  | cons x u ih =>
    have i1 := ih fun l hl => h l (List.mem_cons_of_mem _ hl)
    have i2 := h x List.mem_cons_self
    have step : ∀ g : α → Bool, ((x :: u).filter g).length = (g x).toNat + (u.filter g).length := fun g => by
      rw [List.filter_cons]
      cases hg : g x with
      | true => simp [Nat.add_comm]
      | false => simp
    rw [step, step, step, step]
    omega
theorem filter_mono {α : Type} (u : List α) (a p : α → Bool) (h : ∀ l ∈ u, a l = true → p l = true) : (u.filter a).length ≤ (u.filter p).length := by
  have z := filter_sub u a (fun _ => false) p (fun _ => false) fun l hl => by
    cases ha : a l with
    | false => simp
    | true => rw [h l hl ha]; simp
  simpa using z
theorem inX_sub (X Y : Nat) (l : Nat × Nat) : (inX (X ||| Y) l).toNat + (inX (X &&& Y) l).toNat ≤ (inX X l).toNat + (inX Y l).toNat := by
  unfold inX
  rw [Nat.testBit_or, Nat.testBit_or, Nat.testBit_and, Nat.testBit_and]
  cases X.testBit l.2 <;> cases X.testBit l.1 <;> cases Y.testBit l.2 <;> cases Y.testBit l.1 <;> decide
/-! ### a system: ranks and links -/
structure Sys where
  n : Nat
  f : Nat → List Nat
  g : Nat → Nat × Nat
  u : List Nat
def Sys.e (s : Sys) (X : Nat) : Nat := (s.u.filter fun l => inX X (s.g l)).length
def Sys.V (s : Sys) : Nat := 2 ^ s.n - 1
def Sys.sl (s : Sys) (X : Nat) : Int := (s.e X : Int) + rr s.f X - rr s.f s.V
structure Sys.Feas (s : Sys) : Prop where
  n1 : 1 ≤ s.n
  n5 : s.n ≤ 5
  ends : ∀ l ∈ s.u, (s.g l).1 < s.n ∧ (s.g l).2 < s.n ∧ (s.g l).1 ≠ (s.g l).2
  pos : ∀ X, 1 ≤ X → X < 2 ^ s.n → 0 ≤ s.sl X
structure Sys.Tight (s : Sys) (X : Nat) : Prop where
  pos : 1 ≤ X
  lt : X < 2 ^ s.n
  z : s.sl X = 0
theorem Sys.e_sub (s : Sys) (X Y : Nat) : s.e (X ||| Y) + s.e (X &&& Y) ≤ s.e X + s.e Y := filter_sub _ _ _ _ _ fun l _ => inX_sub X Y (s.g l)
theorem Sys.tight_ui {s : Sys} (h : s.Feas) {X Y v : Nat} (hX : s.Tight X) (hY : s.Tight Y) (h1 : X.testBit v = true) (h2 : Y.testBit v = true) : s.Tight (X ||| Y) ∧ s.Tight (X &&& Y) ∧ rr s.f (X ||| Y) + rr s.f (X &&& Y) = rr s.f X + rr s.f Y := by
  have o1 : 1 ≤ X ||| Y := bit_pos (le_or_l X Y v h1)
  have o2 : X ||| Y < 2 ^ s.n := Nat.or_lt_two_pow hX.lt hY.lt
  have a1 : 1 ≤ X &&& Y := bit_pos (v := v) (by rw [Nat.testBit_and, h1, h2]; rfl)
  have a2 : X &&& Y < 2 ^ s.n := Nat.lt_of_le_of_lt Nat.and_le_left hX.lt
  have p1 := h.pos _ o1 o2
  have p2 := h.pos _ a1 a2
  have e1 := s.e_sub X Y
  have r1 := rr_sub s.f X Y
  have z1 := hX.z
  have z2 := hY.z
  unfold Sys.sl at p1 p2 z1 z2
  refine ⟨⟨o1, o2, ?_⟩, ⟨a1, a2, ?_⟩, ?_⟩
  · unfold Sys.sl
    omega
  · unfold Sys.sl
    omega
  · omega
theorem Sys.e_full {s : Sys} (h : s.Feas) : s.e s.V = 0 := by
  unfold Sys.e
  rw [List.length_eq_zero_iff, List.filter_eq_nil_iff]
  intro l hl hc
  unfold inX at hc
  rw [Bool.and_eq_true] at hc
  have := hc.2
  unfold Sys.V at this
  rw [full_bit (h.ends l hl).1] at this
  cases this
theorem Sys.V_pos {s : Sys} (h : s.Feas) : 1 ≤ s.V ∧ s.V < 2 ^ s.n := by
  have h1 : 2 ^ 1 ≤ 2 ^ s.n := Nat.pow_le_pow_right (by decide) h.n1
  unfold Sys.V
  omega
theorem Sys.full_tight {s : Sys} (h : s.Feas) : s.Tight s.V := by
  obtain ⟨h1, h2⟩ := Sys.V_pos h
  refine ⟨h1, h2, ?_⟩
  unfold Sys.sl
  rw [Sys.e_full h]
  omega
/-- a link that can carry -/
theorem Sys.carry {s : Sys} (h : s.Feas) (h1 : ∀ v, v < s.n → s.sl (2 ^ v) = 0) (hv : ∃ v, v < s.n ∧ rr s.f (2 ^ v) < rr s.f s.V) :
    ∃ l ∈ s.u, ∀ Z, s.Tight Z → Z.testBit (s.g l).2 = true → Z.testBit (s.g l).1 = false → ∃ m ∈ s.f (s.g l).1, m ∉ derL (msIn s.f Z) := by
  obtain ⟨X, ⟨hX, v, hvX, hvr⟩, hmin⟩ := least_of (p := fun X => s.Tight X ∧ ∃ v, X.testBit v = true ∧ rr s.f (2 ^ v) < rr s.f X) (by
    obtain ⟨v, hvn, hvr⟩ := hv
    exact ⟨s.V, Sys.full_tight h, v, full_bit hvn, hvr⟩)
  have hvn := bit_lt hvX hX.lt
  -- the nodes of X within the span of v
  let p : Nat → Bool := fun w => X.testBit w && decide (rr s.f (2 ^ v ||| 2 ^ w) = rr s.f (2 ^ v))
  let Y := mkB p (List.range 5)
  have hY : ∀ i, Y.testBit i = (decide (i < 5) && p i) := fun i => by
    have z := mkB_bit p i (List.range 5) 0
    rw [Nat.zero_testBit, Bool.false_or] at z
    show (mkB p (List.range 5)).testBit i = _
    rw [show (mkB p (List.range 5)).testBit i = _ from z]
    simp
  have hYX : Le Y X := fun i hi => by
    rw [hY, Bool.and_eq_true] at hi
    exact (Bool.and_eq_true _ _ |>.mp hi.2).1
  have hYlt : Y < 2 ^ s.n := by
    have e : Y = Y &&& X := Nat.eq_of_testBit_eq fun i => by
      rw [Nat.testBit_and]
      cases hb : Y.testBit i with
      | false => rfl
      | true => rw [hYX i hb]; rfl
    rw [e]
    exact Nat.lt_of_le_of_lt Nat.and_le_right hX.lt
  have hvY : Y.testBit v = true := by
    rw [hY]
    have hv5 : v < 5 := by have := h.n5; omega
    have e : rr s.f (2 ^ v ||| 2 ^ v) = rr s.f (2 ^ v) := by rw [Nat.or_self]
    show (decide (v < 5) && (X.testBit v && decide (rr s.f (2 ^ v ||| 2 ^ v) = rr s.f (2 ^ v)))) = true
    rw [decide_eq_true hv5, hvX, decide_eq_true e]
    rfl
  have spanOf : ∀ w, rr s.f (2 ^ v ||| 2 ^ w) = rr s.f (2 ^ v) → ∀ m ∈ msIn s.f (2 ^ w), m ∈ derL (msIn s.f (2 ^ v)) := by
    intro w hw m hm
    by_cases hin : m ∈ derL (msIn s.f (2 ^ v))
    · exact hin
    · have z1 := rkM_snoc (msIn s.f (2 ^ v)) m
      rw [if_neg hin] at z1
      have z2 : rkM (msIn s.f (2 ^ v) ++ [m]) ≤ rr s.f (2 ^ v ||| 2 ^ w) := rkM_mono fun x hx => by
        rcases List.mem_append.mp hx with h | h
        · obtain ⟨i, hi, hb, h2⟩ := mem_msIn.mp h
          exact derL_mem _ _ (mem_msIn.mpr ⟨i, hi, le_or_l _ _ i hb, h2⟩)
        · have e : x = m := by simpa using h
          subst e
          obtain ⟨i, hi, hb, h2⟩ := mem_msIn.mp hm
          exact derL_mem _ _ (mem_msIn.mpr ⟨i, hi, le_or_r _ _ i hb, h2⟩)
      rw [hw] at z2
      unfold rr at z2
      omega
  have hYr : rr s.f Y = rr s.f (2 ^ v) := by
    refine Nat.le_antisymm (rkM_mono fun m hm => ?_) (rr_le (le_one hvY))
    obtain ⟨i, hi, hb, h2⟩ := mem_msIn.mp hm
    rw [hY, Bool.and_eq_true] at hb
    have hw := of_decide_eq_true (Bool.and_eq_true _ _ |>.mp hb.2).2
    exact spanOf i hw m (mem_msIn.mpr ⟨i, hi, bit_one i, h2⟩)
  have heXY : s.e X < s.e Y := by
    have a := h.pos Y (bit_pos hvY) hYlt
    have b := hX.z
    unfold Sys.sl at a b
    rw [hYr] at a
    omega
  obtain ⟨l, hl, hlY, hlX⟩ : ∃ l ∈ s.u, inX Y (s.g l) = true ∧ inX X (s.g l) = false := by
    by_cases hh : ∀ l ∈ s.u, inX Y (s.g l) = true → inX X (s.g l) = true
    · have z := filter_mono s.u _ _ hh
      unfold Sys.e at heXY
      omega
    · simp only [Classical.not_forall] at hh
      obtain ⟨l, hl, a, b⟩ := hh
      exact ⟨l, hl, a, by simpa using b⟩
  refine ⟨l, hl, fun Z hZ hr hs => ?_⟩
  generalize hse : (s.g l).1 = sd at *
  generalize hre : (s.g l).2 = rv at *
  unfold inX at hlY hlX
  rw [hse, hre] at hlY hlX
  rw [Bool.and_eq_true] at hlY
  have hrY := hlY.1
  have hsY : Y.testBit sd = false := by simpa using hlY.2
  have hrX := hYX _ hrY
  rw [hrX, Bool.true_and] at hlX
  have hsX : X.testBit sd = true := by simpa using hlX
  have hsn := bit_lt hsX hX.lt
  have hs5 : sd < 5 := by have := h.n5; omega
  by_cases hno : ∃ m ∈ s.f sd, m ∉ derL (msIn s.f Z)
  · exact hno
  · exfalso
    have hin : ∀ m ∈ s.f sd, m ∈ derL (msIn s.f Z) := fun m hm => by
      by_cases h3 : m ∈ derL (msIn s.f Z)
      · exact h3
      · exact absurd ⟨m, hm, h3⟩ hno
    have hZs : rr s.f (Z ||| 2 ^ sd) = rr s.f Z := by
      refine Nat.le_antisymm (rkM_mono fun m hm => ?_) (rr_le (le_or_l _ _))
      obtain ⟨i, hi, hb, h2⟩ := mem_msIn.mp hm
      rw [Nat.testBit_or, Bool.or_eq_true] at hb
      rcases hb with hb | hb
      · exact derL_mem _ _ (mem_msIn.mpr ⟨i, hi, hb, h2⟩)
      · rw [Nat.testBit_two_pow] at hb
        have e := of_decide_eq_true hb
        subst e
        exact hin m h2
    obtain ⟨tU, tI, mod⟩ := Sys.tight_ui h hX hZ hrX hr
    have hWlt : X &&& Z < X := by
      refine Nat.lt_of_le_of_ne Nat.and_le_left fun e => ?_
      have z : (X &&& Z).testBit sd = true := by rw [e]; exact hsX
      rw [Nat.testBit_and, hs, Bool.and_false] at z
      cases z
    have hrW : (X &&& Z).testBit rv = true := by rw [Nat.testBit_and, hrX, hr]; rfl
    have hWr : rr s.f (2 ^ rv) = rr s.f (X &&& Z) := by
      refine Nat.le_antisymm (rr_le (le_one hrW)) ?_
      rcases Nat.lt_or_ge (rr s.f (2 ^ rv)) (rr s.f (X &&& Z)) with h3 | h3
      · exact absurd ⟨tI, rv, hrW, h3⟩ (hmin _ hWlt)
      · exact h3
    have s1 := rr_sub s.f X (Z ||| 2 ^ sd)
    have s2 : rr s.f (X ||| Z) ≤ rr s.f (X ||| (Z ||| 2 ^ sd)) := rr_le fun i hi => by
      rw [Nat.testBit_or, Bool.or_eq_true] at hi
      rw [Nat.testBit_or, Nat.testBit_or]
      rcases hi with hi | hi <;> rw [hi] <;> simp
    have s3 : rr s.f (2 ^ rv ||| 2 ^ sd) ≤ rr s.f (X &&& (Z ||| 2 ^ sd)) := rr_le fun i hi => by
      rw [Nat.testBit_or, Bool.or_eq_true, Nat.testBit_two_pow, Nat.testBit_two_pow] at hi
      rw [Nat.testBit_and, Nat.testBit_or]
      rcases hi with hi | hi
      · have e := of_decide_eq_true hi
        subst e
        rw [hrX, hr]
        rfl
      · have e := of_decide_eq_true hi
        subst e
        rw [hsX, bit_one, Bool.or_true]
        rfl
    rw [hZs] at s1
    have s4 : rr s.f (2 ^ rv ||| 2 ^ sd) ≤ rr s.f (2 ^ rv) := by omega
    have hry : rr s.f (2 ^ v ||| 2 ^ rv) = rr s.f (2 ^ v) := by
      rw [hY, Bool.and_eq_true] at hrY
      exact of_decide_eq_true (Bool.and_eq_true _ _ |>.mp hrY.2).2
    have s5 := rr_sub s.f (2 ^ v ||| 2 ^ rv) (2 ^ rv ||| 2 ^ sd)
    have s6 : rr s.f (2 ^ rv) ≤ rr s.f ((2 ^ v ||| 2 ^ rv) &&& (2 ^ rv ||| 2 ^ sd)) := rr_le (le_one (by
      rw [Nat.testBit_and, Nat.testBit_or, Nat.testBit_or, bit_one]
      simp))
    have s7 : rr s.f (2 ^ v ||| 2 ^ sd) ≤ rr s.f ((2 ^ v ||| 2 ^ rv) ||| (2 ^ rv ||| 2 ^ sd)) := rr_le fun i hi => by
      rw [Nat.testBit_or, Bool.or_eq_true] at hi
      rw [Nat.testBit_or, Nat.testBit_or, Nat.testBit_or]
      rcases hi with hi | hi <;> rw [hi] <;> simp
    have s8 : rr s.f (2 ^ v ||| 2 ^ sd) = rr s.f (2 ^ v) := Nat.le_antisymm (by omega) (rr_le (le_or_l _ _))
    have z : Y.testBit sd = true := by
      rw [hY]
      show (decide (sd < 5) && (X.testBit sd && decide (rr s.f (2 ^ v ||| 2 ^ sd) = rr s.f (2 ^ v)))) = true
      rw [decide_eq_true hs5, hsX, decide_eq_true s8]
      rfl
    rw [hsY] at z
    cases z
end AK
set_option Elab.async false
set_option linter.all false
set_option maxRecDepth 100000
set_option maxHeartbeats 4000000
/-! The mathematics of states. -/
namespace AK
def St.sys (st : St) : Sys := ⟨st.n, st.ms, st.net.link, st.unused⟩
theorem St.Ok.ms16 {st : St} (ok : st.Ok) (i : Nat) : ∀ m ∈ st.ms i, m < 16 := fun m hm => by
  unfold St.ms at hm
  obtain ⟨q, hq, rfl⟩ := List.mem_map.mp hm
  cases e : st.had[i]? with
  | none =>
    rw [e] at hq
    cases hq
  | some row =>
    rw [e] at hq
    have hrow := List.mem_of_getElem? e
    obtain ⟨ms, h1, h2⟩ := ok.hq row hrow q hq
    obtain ⟨a, ha⟩ : ∃ a, ms[q.2]? = some a := ⟨ms[q.2], List.getElem?_eq_getElem h2⟩
    have em : st.net.msg q = a := by
      unfold Net.msg
      rw [h1]
      show (ms[q.2]?).getD 0 = a
      rw [ha]
      rfl
    rw [em]
    exact pow_16 ok.net.v4 (ok.net.msv ms (List.mem_of_getElem? h1) a (List.mem_of_getElem? ha)).2
theorem rk_rr {st : St} (ok : st.Ok) (X : Nat) : st.rk X = rr st.ms X := (rowsOf_ok st.ms X ok.ms16).len
theorem left_iff {st : St} (ok : st.Ok) (X m : Nat) (hm : m < 16) : left (st.rows X) m = 0 ↔ m ∈ derL (msIn st.ms X) := (rowsOf_ok st.ms X ok.ms16).mem m hm
theorem slack_sl {st : St} (ok : st.Ok) (X : Nat) : st.slack X = st.sys.sl X := by
  unfold St.slack St.dem Sys.sl Sys.e Sys.V
  rw [rk_rr ok, rk_rr ok]
  show (((st.unused.filter fun l => inX X (st.net.link l)).length : Nat) : Int) - ((rr st.ms (2 ^ st.n - 1) : Int) - rr st.ms X) = (((st.unused.filter fun l => inX X (st.net.link l)).length : Nat) : Int) + rr st.ms X - rr st.ms (2 ^ st.n - 1)
  omega
theorem St.Ok.mem_sets {st : St} (ok : st.Ok) {X : Nat} : X ∈ setsL st.n ↔ 1 ≤ X ∧ X < 2 ^ st.n := ⟨fun h => ok.lt h, fun h => setsL_mem st.n (by have := ok.n5; omega) X h.2 h.1⟩
theorem def_iff {st : St} (ok : st.Ok) : st.defL = [] ↔ ∀ X, 1 ≤ X → X < 2 ^ st.n → 0 ≤ st.sys.sl X := by
  unfold St.defL
  rw [List.filter_eq_nil_iff]
  constructor
  · intro h X h1 h2
    have z := h X (ok.mem_sets.mpr ⟨h1, h2⟩)
    rw [slack_sl ok] at z
    have z2 : ¬ st.sys.sl X < 0 := by simpa using z
    omega
  · intro h X hX
    obtain ⟨h1, h2⟩ := ok.mem_sets.mp hX
    have z := h X h1 h2
    rw [slack_sl ok]
    simp
    omega
theorem tight_iff {st : St} (ok : st.Ok) {X : Nat} : X ∈ st.tightL ↔ st.sys.Tight X := by
  unfold St.tightL
  rw [List.mem_filter, ok.mem_sets, slack_sl ok]
  exact ⟨fun h => ⟨h.1.1, h.1.2, of_decide_eq_true h.2⟩, fun h => ⟨⟨h.pos, h.lt⟩, decide_eq_true h.z⟩⟩
/-- what a schedule keeps -/
structure GG (st : St) : Prop where
  ok : st.Ok
  nd : st.unused.Nodup
  pos : ∀ X, 1 ≤ X → X < 2 ^ st.n → 0 ≤ st.sys.sl X
  one : ∀ v, v < st.n → st.sys.sl (2 ^ v) = 0
theorem GG.feas {st : St} (h : GG st) : st.sys.Feas := ⟨h.ok.n1, h.ok.n5, fun l hl => h.ok.link hl, h.pos⟩
theorem GG.one_tight {st : St} (h : GG st) {v : Nat} (hv : v < st.n) : st.sys.Tight (2 ^ v) := ⟨Nat.two_pow_pos v, Nat.pow_lt_pow_right (by decide) hv, h.one v hv⟩
theorem lw_fold {s : Sys} (hs : s.Feas) (a b : Nat) : ∀ (T : List Nat) (f : Nat), (∀ X ∈ T, s.Tight X) → (f = 0 ∨ (s.Tight f ∧ f.testBit a = true ∧ f.testBit b = false)) →
    (T.foldl (lwF a b) f = 0 ∨ (s.Tight (T.foldl (lwF a b) f) ∧ (T.foldl (lwF a b) f).testBit a = true ∧ (T.foldl (lwF a b) f).testBit b = false)) ∧ Le f (T.foldl (lwF a b) f) ∧ ∀ X ∈ T, X.testBit a = true → X.testBit b = false → Le X (T.foldl (lwF a b) f)
  | [], f, _, hf => ⟨hf, fun _ h => h, fun X h => by cases h⟩
  | X :: T, f, hT, hf => by
    have hX := hT X List.mem_cons_self
    have hstep : (lwF a b f X = 0 ∨ (s.Tight (lwF a b f X) ∧ (lwF a b f X).testBit a = true ∧ (lwF a b f X).testBit b = false)) ∧ Le f (lwF a b f X) ∧ (X.testBit a = true → X.testBit b = false → Le X (lwF a b f X)) := by
      unfold lwF
      by_cases hc : (X.testBit a && !X.testBit b) = true
      · rw [if_pos hc]
        rw [Bool.and_eq_true] at hc
        have hb : X.testBit b = false := by simpa using hc.2
        refine ⟨.inr ?_, le_or_l _ _, fun _ _ => le_or_r _ _⟩
        rcases hf with hf | ⟨h1, h2, h3⟩
        · subst hf
          rw [Nat.zero_or]
          exact ⟨hX, hc.1, hb⟩
        · refine ⟨(Sys.tight_ui hs h1 hX h2 hc.1).1, le_or_l _ _ _ h2, ?_⟩
          rw [Nat.testBit_or, h3, hb]
          rfl
      · rw [if_neg hc]
        refine ⟨hf, fun _ h => h, fun h1 h2 => absurd ?_ hc⟩
        rw [h1, h2]
        rfl
    obtain ⟨i1, i2, i3⟩ := lw_fold hs a b T (lwF a b f X) (fun Y hY => hT Y (List.mem_cons_of_mem _ hY)) hstep.1
    rw [List.foldl_cons]
    refine ⟨i1, fun i hi => i2 i (hstep.2.1 i hi), fun Y hY h1 h2 => ?_⟩
    rcases List.mem_cons.mp hY with e | e
    · subst e
      exact fun i hi => i2 i (hstep.2.2 h1 h2 i hi)
    · exact i3 Y e h1 h2
theorem GG.lw {st : St} (h : GG st) {a b : Nat} (ha : a < st.n) (hab : a ≠ b) : st.sys.Tight (st.lw a b) ∧ (st.lw a b).testBit a = true ∧ (st.lw a b).testBit b = false ∧ ∀ X, st.sys.Tight X → X.testBit a = true → X.testBit b = false → Le X (st.lw a b) := by
  obtain ⟨h1, h2, h3⟩ := lw_fold h.feas a b st.tightL 0 (fun X hX => (tight_iff h.ok).mp hX) (.inl rfl)
  have ho : (2 ^ a).testBit b = false := by
    rw [Nat.testBit_two_pow]
    exact decide_eq_false hab
  have hm := h3 (2 ^ a) ((tight_iff h.ok).mpr (h.one_tight ha)) (bit_one a) ho a (bit_one a)
  rcases h1 with h1 | h1
  · rw [h1, Nat.zero_testBit] at hm
    cases hm
  · exact ⟨h1.1, h1.2.1, h1.2.2, fun X hX x1 x2 => h3 X ((tight_iff h.ok).mpr hX) x1 x2⟩
theorem or_bit {Z r : Nat} (h : Z.testBit r = true) : Z ||| 2 ^ r = Z := Nat.eq_of_testBit_eq fun i => by
  rw [Nat.testBit_or, Nat.testBit_two_pow]
  by_cases e : r = i
  · subst e
    rw [h]
    rfl
  · rw [decide_eq_false e, Bool.or_false]
theorem row_ms {st : St} (s : Nat) : st.ms s = (st.row s).map st.net.msg := rfl
theorem row16 {st : St} (ok : st.Ok) {s : Nat} {q : Nat × Nat} (hq : q ∈ st.row s) : st.net.msg q < 16 := ok.ms16 s _ (List.mem_map_of_mem (f := st.net.msg) hq)
theorem okQ_iff {st : St} (h : GG st) {l : Nat} (hl : l ∈ st.unused) {q : Nat × Nat} (hq : q ∈ st.row (st.net.link l).1) : st.okQ l q = true ↔ st.net.msg q ∉ derL (msIn st.ms (st.lw (st.net.link l).2 (st.net.link l).1)) := by
  obtain ⟨k1, k2, k3⟩ := h.ok.link hl
  obtain ⟨_, w2, _, _⟩ := h.lw k2 (Ne.symm k3)
  unfold St.okQ
  rw [or_bit w2, decide_eq_true_eq, ne_eq, left_iff h.ok _ _ (row16 h.ok hq)]
theorem nodup_cons_filter {l : Nat} : ∀ {u : List Nat}, u.Nodup → l ∈ u → (l :: u.filter fun x => decide (x ≠ l)).Perm u
  | [], _, h => by cases h
  | a :: u, nd, h => by
    obtain ⟨n1, n2⟩ := List.nodup_cons.mp nd
    by_cases e : a = l
    · subst e
      have ef : (u.filter fun x => decide (x ≠ a)) = u := List.filter_eq_self.mpr fun x hx => decide_eq_true fun z => n1 (z ▸ hx)
      rw [List.filter_cons, if_neg (by simp), ef]
    · have hl : l ∈ u := by
        rcases List.mem_cons.mp h with z | z
        · exact absurd z.symm e
        · exact z
      have ih := nodup_cons_filter n2 hl
      have hb : decide (a ≠ l) = true := decide_eq_true e
      rw [List.filter_cons, if_pos hb]
      exact (List.Perm.swap _ _ _).trans (ih.cons a)
theorem filter_one {l : Nat} {u : List Nat} (nd : u.Nodup) (h : l ∈ u) (p : Nat → Bool) : (u.filter p).length = ((u.filter fun x => decide (x ≠ l)).filter p).length + (p l).toNat := by
  have z := ((nodup_cons_filter nd h).filter p).length_eq
  rw [List.filter_cons] at z
  cases hp : p l with
  | true =>
    rw [hp, if_pos rfl, List.length_cons] at z
    simp only [Bool.toNat_true]
    omega
  | false =>
    rw [hp, if_neg (by decide)] at z
    simp only [Bool.toNat_false]
    omega
theorem after_n (st : St) (t : Tr) : (st.after t).n = st.n := List.length_set
theorem after_ms {st : St} {t : Tr} (hr : (st.net.link t.1).2 < st.n) (i : Nat) : (st.after t).ms i = if i = (st.net.link t.1).2 then st.ms i ++ [st.net.msg t.2] else st.ms i := by
  have hr' : (st.net.link t.1).2 < st.had.length := hr
  unfold St.ms St.after
  show ((st.had.set (st.net.link t.1).2 (st.row (st.net.link t.1).2 ++ [t.2]))[i]?.getD []).map st.net.msg = _
  by_cases e : i = (st.net.link t.1).2
  · rw [if_pos e, e, List.getElem?_set_self hr']
    show (st.row (st.net.link t.1).2 ++ [t.2]).map st.net.msg = _
    rw [List.map_append]
    rfl
  · rw [if_neg e, List.getElem?_set_ne (Ne.symm e)]
theorem after_mem {st : St} {t : Tr} (hr : (st.net.link t.1).2 < st.n) (h5 : (st.net.link t.1).2 < 5) (X m : Nat) : m ∈ msIn (st.after t).ms X ↔ m ∈ msIn st.ms X ∨ (X.testBit (st.net.link t.1).2 = true ∧ m = st.net.msg t.2) := by
  rw [mem_msIn, mem_msIn]
  constructor
  · rintro ⟨i, hi, hb, h⟩
    rw [after_ms hr] at h
    split at h
    · rename_i e
      subst e
      rcases List.mem_append.mp h with h | h
      · exact .inl ⟨_, hi, hb, h⟩
      · exact .inr ⟨hb, by simpa using h⟩
    · exact .inl ⟨i, hi, hb, h⟩
  · rintro (⟨i, hi, hb, h⟩ | ⟨hb, rfl⟩)
    · refine ⟨i, hi, hb, ?_⟩
      rw [after_ms hr]
      split
      · exact List.mem_append_left _ h
      · exact h
    · refine ⟨_, h5, hb, ?_⟩
      rw [after_ms hr, if_pos rfl]
      exact List.mem_append_right _ (by simp)
theorem after_rr {st : St} {t : Tr} (hr : (st.net.link t.1).2 < st.n) (h5 : (st.net.link t.1).2 < 5) (X : Nat) : rr (st.after t).ms X = rr st.ms X + (if X.testBit (st.net.link t.1).2 = true ∧ st.net.msg t.2 ∉ derL (msIn st.ms X) then 1 else 0) := by
  by_cases hb : X.testBit (st.net.link t.1).2 = true
  · have e : rr (st.after t).ms X = rkM (msIn st.ms X ++ [st.net.msg t.2]) := rkM_set fun m => by
      rw [after_mem hr h5, List.mem_append]
      refine or_congr Iff.rfl ⟨fun h => by rw [h.2]; simp, fun h => ⟨hb, by simpa using h⟩⟩
    rw [e, rkM_snoc]
    show rr st.ms X + _ = _
    by_cases hm : st.net.msg t.2 ∈ derL (msIn st.ms X)
    · rw [if_pos hm, if_neg fun z => z.2 hm]
    · rw [if_neg hm, if_pos ⟨hb, hm⟩]
  · rw [if_neg fun z => hb z.1, Nat.add_zero]
    exact rkM_set fun m => by
      rw [after_mem hr h5]
      exact ⟨fun h => h.elim id fun z => absurd z.1 hb, .inl⟩
theorem GG.step {st : St} {t : Tr} (h : GG st) (c : Carry st t) : GG (st.after t) := by
  obtain ⟨c1, c2, c3⟩ := c
  obtain ⟨k1, k2, k3⟩ := h.ok.link c1
  have h5 : (st.net.link t.1).2 < 5 := by have := h.ok.n5; omega
  have hs5 : (st.net.link t.1).1 < 5 := by have := h.ok.n5; omega
  obtain ⟨w1, w2, w3, w4⟩ := h.lw k2 (Ne.symm k3)
  have hmZ := (okQ_iff h c1 c2).mp c3
  have hE : ∀ X, st.sys.e X = (st.after t).sys.e X + (inX X (st.net.link t.1)).toNat := fun X => filter_one h.nd c1 fun l => inX X (st.net.link l)
  have hV : rr (st.after t).ms (st.after t).sys.V = rr st.ms st.sys.V := by
    have eV : (st.after t).sys.V = st.sys.V := by
      show 2 ^ (st.after t).n - 1 = 2 ^ st.n - 1
      rw [after_n]
    have hin : st.net.msg t.2 ∈ derL (msIn st.ms st.sys.V) := derL_mem _ _ (mem_msIn.mpr ⟨_, hs5, full_bit k1, List.mem_map_of_mem (f := st.net.msg) c2⟩)
    have e := after_rr (st := st) (t := t) k2 h5 st.sys.V
    rw [if_neg fun z => z.2 hin] at e
    rw [eV]
    exact e
  have hR : ∀ X, rr (st.after t).ms X = rr st.ms X + (if X.testBit (st.net.link t.1).2 = true ∧ st.net.msg t.2 ∉ derL (msIn st.ms X) then 1 else 0) := after_rr k2 h5
  have up : ∀ X, st.sys.Tight X → X.testBit (st.net.link t.1).2 = true → X.testBit (st.net.link t.1).1 = false → rr (st.after t).ms X = rr st.ms X + 1 := fun X hX x1 x2 => by
    have hno : st.net.msg t.2 ∉ derL (msIn st.ms X) := fun z => hmZ (derL_sub (subL _) (fun m hm => by
      obtain ⟨i, hi, hb, hm2⟩ := mem_msIn.mp hm
      exact derL_mem _ _ (mem_msIn.mpr ⟨i, hi, w4 X hX x1 x2 i hb, hm2⟩)) _ z)
    have e := hR X
    rw [if_pos ⟨x1, hno⟩] at e
    exact e
  have hsl : ∀ X, (st.after t).sys.sl X = ((st.after t).sys.e X : Int) + rr (st.after t).ms X - rr st.ms st.sys.V := fun X => by
    show ((st.after t).sys.e X : Int) + rr (st.after t).ms X - rr (st.after t).ms (st.after t).sys.V = _
    rw [hV]
  have hsl0 : ∀ X, st.sys.sl X = (st.sys.e X : Int) + rr st.ms X - rr st.ms st.sys.V := fun X => rfl
  refine ⟨after_ok h.ok c1 c2, h.nd.filter _, fun X x1 x2 => ?_, fun v hv => ?_⟩
  · rw [after_n] at x2
    have p := h.pos X x1 x2
    have e := hE X
    rw [hsl]
    rw [hsl0] at p
    cases hin : inX X (st.net.link t.1) with
    | false =>
      rw [hin] at e
      simp only [Bool.toNat_false, Nat.add_zero] at e
      have := hR X
      omega
    | true =>
      rw [hin] at e
      simp only [Bool.toNat_true] at e
      unfold inX at hin
      rw [Bool.and_eq_true] at hin
      have hb : X.testBit (st.net.link t.1).1 = false := by simpa using hin.2
      by_cases hz : st.sys.sl X = 0
      · have := up X ⟨x1, x2, hz⟩ hin.1 hb
        rw [hsl0] at hz
        omega
      · rw [hsl0] at hz
        have := hR X
        omega
  · rw [after_n] at hv
    have p := h.one v hv
    have e := hE (2 ^ v)
    rw [hsl]
    have p2 := p
    rw [hsl0] at p
    by_cases hvr : v = (st.net.link t.1).2
    · have b1 : (2 ^ v).testBit (st.net.link t.1).2 = true := by rw [hvr]; exact bit_one _
      have b2 : (2 ^ v).testBit (st.net.link t.1).1 = false := by
        rw [Nat.testBit_two_pow]
        exact decide_eq_false fun z => k3 (z.symm.trans hvr)
      have hin : inX (2 ^ v) (st.net.link t.1) = true := by
        unfold inX
        rw [b1, b2]
        rfl
      rw [hin] at e
      simp only [Bool.toNat_true] at e
      have := up (2 ^ v) (h.one_tight hv) b1 b2
      omega
    · have b1 : (2 ^ v).testBit (st.net.link t.1).2 = false := by
        rw [Nat.testBit_two_pow]
        exact decide_eq_false hvr
      have hin : inX (2 ^ v) (st.net.link t.1) = false := by
        unfold inX
        rw [b1]
        rfl
      rw [hin] at e
      simp only [Bool.toNat_false, Nat.add_zero] at e
      have z := hR (2 ^ v)
      rw [if_neg fun z => by rw [b1] at z; cases z.1] at z
      omega
theorem done_iff {st : St} (ok : st.Ok) : st.doneB = true ↔ ∀ v, v < st.n → st.dem (2 ^ v) = 0 := by
  unfold St.doneB
  rw [List.all_eq_true]
  exact ⟨fun h v hv => of_decide_eq_true (h v (List.mem_range.mpr hv)), fun h v hv => decide_eq_true (h v (List.mem_range.mp hv))⟩
theorem goodGG : Good GG where
  ok := fun st h => h.ok
  def_ := fun st h => (def_iff h.ok).mpr h.pos
  more := fun st h hd => by
    have hv : ∃ v, v < st.n ∧ rr st.ms (2 ^ v) < rr st.ms st.sys.V := by
      by_cases hh : ∃ v, v < st.n ∧ rr st.ms (2 ^ v) < rr st.ms st.sys.V
      · exact hh
      · exfalso
        have z : st.doneB = true := (done_iff h.ok).mpr fun v hv => by
          unfold St.dem
          rw [rk_rr h.ok, rk_rr h.ok]
          have h1 : rr st.ms (2 ^ v) ≤ rr st.ms st.sys.V := rr_le (le_full (Nat.pow_lt_pow_right (by decide) hv))
          have h2 : ¬ rr st.ms (2 ^ v) < rr st.ms st.sys.V := fun z => hh ⟨v, hv, z⟩
          show (rr st.ms st.sys.V : Int) - rr st.ms (2 ^ v) = 0
          omega
        rw [hd] at z
        cases z
    obtain ⟨l, hl, hZ⟩ := Sys.carry h.feas h.one hv
    have hl' : l ∈ st.unused := hl
    obtain ⟨k1, k2, k3⟩ := h.ok.link hl'
    obtain ⟨w1, w2, w3, w4⟩ := h.lw k2 (Ne.symm k3)
    obtain ⟨m, hm, hno⟩ := hZ _ w1 w2 w3
    have hm' : m ∈ st.ms (st.net.link l).1 := hm
    rw [row_ms] at hm'
    obtain ⟨q, hq, rfl⟩ := List.mem_map.mp hm'
    exact ⟨(l, q), hl', hq, (okQ_iff h hl' hq).mpr hno⟩
  new := fun st t h c => by
    obtain ⟨c1, c2, c3⟩ := c
    obtain ⟨k1, k2, k3⟩ := h.ok.link c1
    obtain ⟨w1, w2, w3, w4⟩ := h.lw k2 (Ne.symm k3)
    have hno := (okQ_iff h c1 c2).mp c3
    intro z
    rw [left_iff h.ok _ _ (row16 h.ok c2)] at z
    refine hno (derL_sub (subL _) (fun m hm => ?_) _ z)
    obtain ⟨i, hi, hb, hm2⟩ := mem_msIn.mp hm
    exact derL_mem _ _ (mem_msIn.mpr ⟨i, hi, le_one w2 i hb, hm2⟩)
  step := fun st t h c => h.step c
theorem GG.run {st : St} (h : GG st) : ∀ (ts : List Tr), Run st ts → GG (ts.foldl St.after st) ∧ (ts.map (·.1) ++ (ts.foldl St.after st).unused).Perm st.unused := by
  intro ts
  induction ts generalizing st with
  | nil => exact fun _ => ⟨h, .refl _⟩
  | cons t ts ih =>
    intro run
    have c : Carry st t := run 0 t rfl
    obtain ⟨i1, i2⟩ := ih (h.step c) fun i s hs => run (i + 1) s hs
    refine ⟨i1, ?_⟩
    exact (i2.cons t.1).trans (nodup_cons_filter h.nd c.1)
theorem GG.done {st : St} (h : GG st) (hd : st.doneB = true) : st.unused = [] := by
  cases hu : st.unused with
  | nil => rfl
  | cons l u =>
    exfalso
    have hl : l ∈ st.unused := by rw [hu]; exact List.mem_cons_self
    obtain ⟨k1, k2, k3⟩ := h.ok.link hl
    have z1 := (done_iff h.ok).mp hd _ k2
    have z2 := h.one _ k2
    have hin : inX (2 ^ (st.net.link l).2) (st.net.link l) = true := by
      unfold inX
      rw [bit_one, Nat.testBit_two_pow, decide_eq_false (Ne.symm k3)]
      rfl
    have he : 1 ≤ st.sys.e (2 ^ (st.net.link l).2) := List.length_pos_of_mem (List.mem_filter.mpr ⟨hl, hin⟩)
    unfold St.dem at z1
    rw [rk_rr h.ok, rk_rr h.ok] at z1
    have e2 : st.sys.sl (2 ^ (st.net.link l).2) = (st.sys.e (2 ^ (st.net.link l).2) : Int) + rr st.ms (2 ^ (st.net.link l).2) - rr st.ms (2 ^ st.n - 1) := rfl
    omega
end AK
set_option Elab.async false
set_option linter.all false
set_option maxRecDepth 100000
set_option maxHeartbeats 4000000
/-! The mathematics of networks: links that are enough. -/
namespace AK
def Net.r (N : Net) (X : Nat) : Nat := rr (st0 N).ms X
def Net.V (N : Net) : Nat := 2 ^ N.n - 1
def inL (N : Net) (ls : List Nat) (X : Nat) : Nat := (ls.filter fun l => inX X (N.link l)).length
theorem dem_r {N : Net} (ok : N.Ok) (X : Nat) : N.dem X = (N.r N.V : Int) - N.r X := by
  unfold Net.dem St.dem
  rw [rk_rr (st0_ok ok), rk_rr (st0_ok ok), st0_n]
  rfl
theorem ent_inL (N : Net) (X : Nat) : (N.ent X).length = inL N (List.range N.links.length) X := rfl
theorem range_filter (L : List (Nat × Nat)) (q : Nat × Nat → Bool) (d : Nat × Nat) : ((List.range L.length).filter fun i => q ((L[i]?).getD d)).length = (L.filter q).length := by
  have e : L = (List.range L.length).map fun i => (L[i]?).getD d := by
    refine List.ext_getElem? fun i => ?_
    rw [List.getElem?_map]
    by_cases h : i < L.length
    · rw [List.getElem?_range h]
      show L[i]? = some ((L[i]?).getD d)
      rw [List.getElem?_eq_getElem h]
      rfl
    · rw [List.getElem?_eq_none (by omega), List.getElem?_eq_none (by rw [List.length_range]; omega)]
      rfl
  conv => rhs; rw [e, List.filter_map, List.length_map]
  rfl
theorem ms_only (N : Net) (ls : List Nat) : (st0 (N.only ls)).ms = (st0 N).ms := rfl
theorem n_only (N : Net) (ls : List Nat) : (N.only ls).n = N.n := rfl
theorem e_only (N : Net) (ls : List Nat) (X : Nat) : (st0 (N.only ls)).sys.e X = inL N ls X := by
  have z := range_filter (ls.map N.link) (inX X) (0, 0)
  show ((List.range (ls.map N.link).length).filter fun i => inX X (((ls.map N.link)[i]?).getD (0, 0))).length = _
  rw [z, List.filter_map, List.length_map]
  rfl
theorem sl_only (N : Net) (ls : List Nat) (X : Nat) : (st0 (N.only ls)).sys.sl X = (inL N ls X : Int) + N.r X - N.r N.V := by
  unfold Sys.sl
  rw [e_only]
  have e : (st0 (N.only ls)).sys.V = N.V := by
    show 2 ^ (st0 (N.only ls)).n - 1 = _
    rw [st0_n]
    rfl
  rw [e]
  rfl
/-- the links ls are enough -/
def Enough (N : Net) (ls : List Nat) : Prop := ∀ X, 1 ≤ X → X < 2 ^ N.n → N.dem X ≤ inL N ls X
theorem Net.Ok.mem_sets {N : Net} (ok : N.Ok) {X : Nat} : X ∈ setsL N.n ↔ 1 ≤ X ∧ X < 2 ^ N.n := by
  have z := (st0_ok ok).mem_sets (X := X)
  rw [st0_n] at z
  exact z
theorem sub_perm {ls : List Nat} {n : Nat} (nd : ls.Nodup) (lt : ∀ l ∈ ls, l < n) : ((List.range n).filter fun x => decide (x ∈ ls)).Perm ls := by
  refine (List.perm_ext_iff_of_nodup (List.nodup_range.filter _) nd).mpr fun a => ?_
  rw [List.mem_filter, List.mem_range, decide_eq_true_eq]
  exact ⟨fun h => h.2, fun h => ⟨lt a h, h⟩⟩
theorem ent_mem {N : Net} {ls : List Nat} (nd : ls.Nodup) (lt : ∀ l ∈ ls, l < N.links.length) (X : Nat) : ((N.ent X).filter fun x => decide (x ∈ ls)).length = inL N ls X := by
  have e : (N.ent X).filter (fun x => decide (x ∈ ls)) = ((List.range N.links.length).filter fun x => decide (x ∈ ls)).filter fun l => inX X (N.link l) := by
    show ((List.range N.links.length).filter fun l => inX X (N.link l)).filter (fun x => decide (x ∈ ls)) = _
    rw [List.filter_filter, List.filter_filter]
    exact List.filter_congr fun x _ => Bool.and_comm _ _
  rw [e]
  exact ((sub_perm nd lt).filter _).length_eq
theorem enough_iff {N : Net} (ok : N.Ok) {ls : List Nat} (nd : ls.Nodup) (lt : ∀ l ∈ ls, l < N.links.length) : enough N ls = true ↔ Enough N ls := by
  unfold enough
  rw [List.all_eq_true]
  constructor
  · intro h X h1 h2
    have z := of_decide_eq_true (h X (ok.mem_sets.mpr ⟨h1, h2⟩))
    rw [ent_mem nd lt] at z
    exact z
  · intro h X hX
    obtain ⟨h1, h2⟩ := ok.mem_sets.mp hX
    refine decide_eq_true ?_
    rw [ent_mem nd lt]
    exact h X h1 h2
theorem range_lt (n : Nat) : ∀ l ∈ List.range n, l < n := fun l h => List.mem_range.mp h
theorem enough_range {N : Net} (ok : N.Ok) : enough N (List.range N.links.length) = true ↔ Enough N (List.range N.links.length) := enough_iff ok List.nodup_range (range_lt _)
theorem feas_only {N : Net} (ok : N.Ok) {ls : List Nat} (h16 : ls.length ≤ 16) (lt : ∀ l ∈ ls, l < N.links.length) : (N.only ls).feas = true ↔ Enough N ls := by
  have okM := st0_ok (ok.only h16 lt)
  unfold Net.feas
  rw [decide_eq_true_eq, def_iff okM]
  have en : (st0 (N.only ls)).n = N.n := by rw [st0_n]; rfl
  rw [en]
  constructor
  · intro h X h1 h2
    have z := h X h1 h2
    rw [sl_only] at z
    rw [dem_r ok]
    omega
  · intro h X h1 h2
    have z := h X h1 h2
    rw [dem_r ok] at z
    rw [sl_only]
    omega
theorem m2_ {N : Net} (ok : N.Ok) : N.feas = enough N (List.range N.links.length) := by
  have h1 : N.feas = true ↔ enough N (List.range N.links.length) = true := by
    rw [enough_range ok]
    unfold Net.feas
    rw [decide_eq_true_eq, def_iff (st0_ok ok), st0_n]
    have esl : ∀ X, (st0 N).sys.sl X = (inL N (List.range N.links.length) X : Int) - N.dem X := fun X => by
      rw [dem_r ok]
      have eV : (st0 N).sys.V = N.V := by
        show 2 ^ (st0 N).n - 1 = _
        rw [st0_n]
        rfl
      unfold Sys.sl
      rw [eV]
      show (((st0 N).sys.e X : Int) + N.r X - N.r N.V) = (inL N (List.range N.links.length) X : Int) - ((N.r N.V : Int) - N.r X)
      have e2 : (st0 N).sys.e X = inL N (List.range N.links.length) X := rfl
      rw [e2]
      omega
    constructor
    · intro h X h1 h2
      have z := h X h1 h2
      rw [esl] at z
      omega
    · intro h X h1 h2
      have z := h X h1 h2
      rw [esl]
      omega
  cases h2 : N.feas with
  | true => exact (h1.mp h2).symm
  | false =>
    cases h3 : enough N (List.range N.links.length) with
    | true => rw [h1.mpr h3] at h2; cases h2
    | false => rfl
/-! ### the law's demand -/
theorem ms_msF {N : Net} (k : Nat) (hk : k < N.n) : (st0 N).ms k = N.msF k := by
  obtain ⟨ms, hms⟩ : ∃ ms, N.nodes[k]? = some ms := ⟨N.nodes[k]'hk, List.getElem?_eq_getElem hk⟩
  have h1 : (st0 N).had[k]? = some (row0 (ms, k)) := by
    show (N.nodes.zipIdx.map row0)[k]? = _
    rw [List.getElem?_map, List.getElem?_zipIdx, hms]
    simp
  unfold St.ms Net.msF
  rw [h1, hms]
  show (row0 (ms, k)).map N.msg = ms
  unfold row0
  rw [List.map_map]
  refine List.ext_getElem? fun i => ?_
  rw [List.getElem?_map]
  by_cases h : i < ms.length
  · rw [List.getElem?_range h]
    show some (N.msg (k, i)) = _
    unfold Net.msg
    rw [hms]
    show some ((ms[i]?).getD 0) = _
    rw [List.getElem?_eq_getElem h]
    rfl
  · rw [List.getElem?_eq_none (by rw [List.length_range]; show ms.length ≤ i; omega), List.getElem?_eq_none (by omega)]
    rfl
theorem ms_none {N : Net} (k : Nat) (hk : N.n ≤ k) : (st0 N).ms k = [] := by
  have h1 : (st0 N).had[k]? = none := List.getElem?_eq_none (by
    have := st0_n N
    unfold St.n at this
    omega)
  unfold St.ms
  rw [h1]
  rfl
theorem law_r {N : Net} (ok : N.Ok) (z : Nat) : rkM (N.msIn z) = N.r z := rkM_set fun m => by
  have h5 : N.n ≤ 5 := ok.n5
  unfold Net.msIn
  rw [List.mem_flatMap, mem_msIn]
  constructor
  · rintro ⟨k, hk, h⟩
    have hk' := List.mem_range.mp hk
    split at h
    · rename_i hb
      exact ⟨k, by omega, hb, by rw [ms_msF k hk']; exact h⟩
    · cases h
  · rintro ⟨k, hk, hb, h⟩
    rcases Nat.lt_or_ge k N.n with h2 | h2
    · exact ⟨k, List.mem_range.mpr h2, by rw [if_pos hb, ← ms_msF k h2]; exact h⟩
    · rw [ms_none k h2] at h
      cases h
theorem r_63 {N : Net} (ok : N.Ok) : N.r 63 = N.r N.V := by
  have h5 : N.n ≤ 5 := ok.n5
  refine rkM_set fun m => ?_
  rw [mem_msIn, mem_msIn]
  constructor
  · rintro ⟨k, hk, hb, h⟩
    rcases Nat.lt_or_ge k N.n with h2 | h2
    · exact ⟨k, hk, full_bit h2, h⟩
    · rw [ms_none k h2] at h
      cases h
  · rintro ⟨k, hk, hb, h⟩
    have e : (63 : Nat) = 2 ^ 6 - 1 := rfl
    exact ⟨k, hk, by rw [e]; exact full_bit (by omega), h⟩
theorem lawDem_dem {N : Net} (ok : N.Ok) (z : Nat) : N.lawDem z = N.dem z := by
  unfold Net.lawDem
  rw [law_r ok, law_r ok, r_63 ok, dem_r ok]
theorem m1_ {N : Net} (ok : N.Ok) : enough N (List.range N.links.length) = true ↔ ∀ z, z ≠ 0 → z < 2 ^ N.n → ¬ N.lawDef z := by
  rw [enough_range ok]
  have e : ∀ z, (N.lawEnt z).length = inL N (List.range N.links.length) z := fun z => rfl
  constructor
  · intro h z z0 z1 hd
    have a := h z (by omega) z1
    have b : ((N.lawEnt z).length : Int) < N.lawDem z := hd
    rw [lawDem_dem ok, e] at b
    omega
  · intro h z z0 z1
    have a := h z (by omega) z1
    have b : ¬ ((N.lawEnt z).length : Int) < N.lawDem z := a
    rw [lawDem_dem ok, e] at b
    omega
/-! ### least sets of links -/
structure Exact (N : Net) (ls : List Nat) : Prop where
  nd : ls.Nodup
  lt : ∀ l ∈ ls, l < N.links.length
  en : Enough N ls
  one : ∀ v, v < N.n → N.dem (2 ^ v) = inL N ls (2 ^ v)
theorem Exact.len {N : Net} (ok : N.Ok) {ls : List Nat} (h : Exact N ls) : ls.length ≤ 16 := Nat.le_trans (nodup_lt _ _ h.nd h.lt) ok.l16
theorem link_ok {N : Net} (ok : N.Ok) {l : Nat} (h : l < N.links.length) : (N.link l).1 < N.n ∧ (N.link l).2 < N.n ∧ (N.link l).1 ≠ (N.link l).2 := ok.lks _ (List.mem_of_getElem? (link_at h))
theorem inX_two {v : Nat} {l : Nat × Nat} (h : l.1 ≠ l.2) : inX (2 ^ v) l = decide (l.2 = v) := by
  unfold inX
  rw [Nat.testBit_two_pow, Nat.testBit_two_pow]
  by_cases e : v = l.2
  · subst e
    rw [decide_eq_true rfl, decide_eq_false (Ne.symm h)]
    rfl
  · rw [decide_eq_false e, decide_eq_false (Ne.symm e)]
    rfl
theorem Exact.least {N : Net} (ok : N.Ok) {ls : List Nat} (h : Exact N ls) : Least N ls := by
  have h16 := h.len ok
  have okM := ok.only h16 h.lt
  have en : (st0 (N.only ls)).n = N.n := by rw [st0_n]; rfl
  have g : GG (st0 (N.only ls)) := by
    refine ⟨st0_ok okM, List.nodup_range, fun X h1 h2 => ?_, fun v hv => ?_⟩
    · rw [en] at h2
      have z := h.en X h1 h2
      rw [dem_r ok] at z
      rw [sl_only]
      omega
    · rw [en] at hv
      have z := h.one v hv
      rw [dem_r ok] at z
      rw [sl_only]
      omega
  refine ⟨h16, h.lt, ⟨GG, goodGG, g⟩, fun ts run hd => ?_, fun l hl => ?_⟩
  · obtain ⟨g2, pm⟩ := g.run ts run
    rw [g2.done hd, List.append_nil] at pm
    have e : (st0 (N.only ls)).unused = List.range ls.length := by
      show List.range (ls.map N.link).length = _
      rw [List.length_map]
    rw [e] at pm
    exact pm
  · have hfl : (ls.filter fun x => decide (x ≠ l)).length ≤ 16 := Nat.le_trans (List.length_filter_le ..) h16
    obtain ⟨k1, k2, k3⟩ := link_ok ok (h.lt l hl)
    cases hf : (N.only (ls.filter fun x => decide (x ≠ l))).feas with
    | false => rfl
    | true =>
      exfalso
      have z := (feas_only ok hfl fun x hx => h.lt x (List.mem_filter.mp hx).1).mp hf (2 ^ (N.link l).2) (Nat.two_pow_pos _) (Nat.pow_lt_pow_right (by decide) k2)
      have z1 := h.one _ k2
      have z2 := filter_one h.nd hl fun l => inX (2 ^ (N.link l).2) (N.link l)
      have z3 : inL N ls (2 ^ (N.link l).2) = inL N (ls.filter fun x => decide (x ≠ l)) (2 ^ (N.link l).2) + (inX (2 ^ (N.link l).2) (N.link l)).toNat := filter_one h.nd hl fun x => inX (2 ^ (N.link l).2) (N.link x)
      rw [inX_two k3, decide_eq_true rfl] at z3
      simp only [Bool.toNat_true] at z3
      omega
end AK
set_option Elab.async false
set_option linter.all false
set_option maxRecDepth 100000
set_option maxHeartbeats 4000000
/-! The mathematics of networks: what reduced keeps, rows, costs. -/
namespace AK
/-! ### reduced -/
theorem enough_mono {N : Net} {ls ls' : List Nat} (h : ∀ x ∈ ls, x ∈ ls') (e : enough N ls = true) : enough N ls' = true := by
  unfold enough at e ⊢
  rw [List.all_eq_true] at e ⊢
  intro X hX
  have z := of_decide_eq_true (e X hX)
  have z2 := filter_mono (N.ent X) (fun x => decide (x ∈ ls)) (fun x => decide (x ∈ ls')) fun l _ hl => decide_eq_true (h l (of_decide_eq_true hl))
  exact decide_eq_true (by omega)
theorem red_spec (N : Net) : ∀ (todo kept : List Nat), enough N kept = true → (todo.foldl (redF N) kept).Sublist kept ∧ enough N (todo.foldl (redF N) kept) = true ∧ ∀ l ∈ todo, l ∈ todo.foldl (redF N) kept → enough N ((todo.foldl (redF N) kept).filter fun x => decide (x ≠ l)) = false
  | [], kept, h => ⟨List.Sublist.refl _, h, fun l hl => by cases hl⟩
  | a :: todo, kept, h => by
    rw [List.foldl_cons]
    by_cases hc : enough N (kept.filter fun x => decide (x ≠ a)) = true
    · have e : redF N kept a = kept.filter fun x => decide (x ≠ a) := if_pos hc
      rw [e]
      obtain ⟨i1, i2, i3⟩ := red_spec N todo _ hc
      refine ⟨i1.trans List.filter_sublist, i2, fun l hl hK => ?_⟩
      rcases List.mem_cons.mp hl with z | z
      · subst z
        have := of_decide_eq_true (List.mem_filter.mp (i1.mem hK)).2
        exact absurd rfl this
      · exact i3 l z hK
    · have e : redF N kept a = kept := if_neg hc
      rw [e]
      obtain ⟨i1, i2, i3⟩ := red_spec N todo kept h
      refine ⟨i1, i2, fun l hl hK => ?_⟩
      rcases List.mem_cons.mp hl with z | z
      · subst z
        cases hf : enough N ((todo.foldl (redF N) kept).filter fun x => decide (x ≠ l)) with
        | false => rfl
        | true =>
          refine absurd (enough_mono (fun x hx => ?_) hf) hc
          obtain ⟨x1, x2⟩ := List.mem_filter.mp hx
          exact List.mem_filter.mpr ⟨i1.mem x1, x2⟩
      · exact i3 l z hK
theorem redL_exact {N : Net} (ok : N.Ok) (he : enough N (List.range N.links.length) = true) : Exact N (redL N) ∧ (redL N).Sublist (List.range N.links.length) := by
  obtain ⟨s1, s2, s3⟩ := red_spec N (List.range N.links.length) (List.range N.links.length) he
  have hK : (List.range N.links.length).foldl (redF N) (List.range N.links.length) = redL N := rfl
  rw [hK] at s1 s2 s3
  generalize redL N = K at s1 s2 s3
  have nd : K.Nodup := s1.nodup List.nodup_range
  have lt : ∀ l ∈ K, l < N.links.length := fun l hl => List.mem_range.mp (s1.mem hl)
  have en := (enough_iff ok nd lt).mp s2
  have h16 : K.length ≤ 16 := Nat.le_trans (nodup_lt _ _ nd lt) ok.l16
  have okM := ok.only h16 lt
  have eN : (st0 (N.only K)).n = N.n := by rw [st0_n]; rfl
  have sl : ∀ X, (st0 (N.only K)).sys.sl X = (inL N K X : Int) - N.dem X := fun X => by
    rw [sl_only, dem_r ok]
    omega
  have fs : (st0 (N.only K)).sys.Feas := ⟨(st0_ok okM).n1, (st0_ok okM).n5, fun l hl => (st0_ok okM).link hl, fun X h1 h2 => by
    have z := en X h1 (by rw [← eN]; exact h2)
    rw [sl]
    omega⟩
  refine ⟨⟨nd, lt, en, fun v hv => ?_⟩, s1⟩
  have low := en (2 ^ v) (Nat.two_pow_pos v) (Nat.pow_lt_pow_right (by decide) hv)
  have each : ∀ l ∈ K, ∃ X, (st0 (N.only K)).sys.Tight X ∧ inX X (N.link l) = true := fun l hl => by
    have hf := s3 l (s1.mem hl) hl
    have hno : ¬ Enough N (K.filter fun x => decide (x ≠ l)) := fun z => by
      rw [(enough_iff ok (nd.filter _) fun x hx => lt x (List.mem_filter.mp hx).1).mpr z] at hf
      cases hf
    unfold Enough at hno
    simp only [Classical.not_forall] at hno
    obtain ⟨X, h1, h2, h3⟩ := hno
    have z := en X h1 h2
    have z3 : inL N K X = inL N (K.filter fun x => decide (x ≠ l)) X + (inX X (N.link l)).toNat := filter_one nd hl fun x => inX X (N.link x)
    cases hin : inX X (N.link l) with
    | false =>
      rw [hin] at z3
      simp only [Bool.toNat_false] at z3
      omega
    | true =>
      rw [hin] at z3
      simp only [Bool.toNat_true] at z3
      refine ⟨X, ⟨h1, ?_, ?_⟩, hin⟩
      · show X < 2 ^ (st0 (N.only K)).n
        rw [eN]
        exact h2
      · rw [sl]
        omega
  have all : ∀ E : List Nat, (∀ l ∈ E, l ∈ K ∧ (N.link l).2 = v) → ∃ T, (st0 (N.only K)).sys.Tight T ∧ T.testBit v = true ∧ ∀ l ∈ E, T.testBit (N.link l).1 = false := by
    intro E
    induction E with
    | nil =>
      intro _
      refine ⟨_, Sys.full_tight fs, ?_, by simp⟩
      show (2 ^ (st0 (N.only K)).n - 1).testBit v = true
      rw [eN]
      exact full_bit hv
    | cons l E ih =>
      intro hE
      obtain ⟨T, t1, t2, t3⟩ := ih fun x hx => hE x (List.mem_cons_of_mem _ hx)
      obtain ⟨e1, e2⟩ := hE l List.mem_cons_self
      obtain ⟨X, x1, x2⟩ := each l e1
      unfold inX at x2
      rw [Bool.and_eq_true, e2] at x2
      refine ⟨T &&& X, (Sys.tight_ui fs t1 x1 t2 x2.1).2.1, by rw [Nat.testBit_and, t2, x2.1]; rfl, fun y hy => ?_⟩
      rw [Nat.testBit_and]
      rcases List.mem_cons.mp hy with z | z
      · subst z
        have : X.testBit (N.link y).1 = false := by simpa using x2.2
        rw [this, Bool.and_false]
      · rw [t3 y z, Bool.false_and]
  obtain ⟨T, t1, t2, t3⟩ := all (K.filter fun l => inX (2 ^ v) (N.link l)) fun l hl => by
    obtain ⟨l1, l2⟩ := List.mem_filter.mp hl
    exact ⟨l1, inX_one l2⟩
  have up : inL N K (2 ^ v) ≤ inL N K T := filter_mono K _ _ fun l hl hin => by
    have h1 := t3 l (List.mem_filter.mpr ⟨hl, hin⟩)
    unfold inX
    rw [inX_one hin, t2, h1]
    rfl
  have zT := t1.z
  rw [sl] at zT
  have hd : N.dem T ≤ N.dem (2 ^ v) := by
    rw [dem_r ok, dem_r ok]
    have : N.r (2 ^ v) ≤ N.r T := rr_le (le_one t2)
    omega
  omega
/-! ### rows -/
theorem dem_nonneg {N : Net} (ok : N.Ok) {X : Nat} (h : X < 2 ^ N.n) : 0 ≤ N.dem X := by
  rw [dem_r ok]
  have : N.r X ≤ N.r N.V := rr_le (le_full h)
  omega
structure RowK (N : Net) (k : Nat) (row : List Nat) : Prop where
  nd : row.Nodup
  lt : ∀ l ∈ row, l < N.links.length ∧ (N.link l).2 < k
  one : ∀ v, v < k → N.dem (2 ^ v) = inL N row (2 ^ v)
theorem inL_append (N : Net) (a b : List Nat) (X : Nat) : inL N (a ++ b) X = inL N a X + inL N b X := by
  unfold inL
  rw [List.filter_append, List.length_append]
theorem prod_row {N : Net} (ok : N.Ok) : ∀ k, ∀ row ∈ prodL N k, RowK N k row := by
  intro k
  induction k with
  | zero =>
    intro row h
    have e : row = [] := by simpa [prodL] using h
    subst e
    exact ⟨List.nodup_nil, by simp, fun v hv => absurd hv (by omega)⟩
  | succ k ih =>
    intro row h
    rw [prodL_succ] at h
    obtain ⟨r, hr, h2⟩ := List.mem_flatMap.mp h
    obtain ⟨way, hw, rfl⟩ := List.mem_map.mp h2
    obtain ⟨i1, i2, i3⟩ := ih r hr
    obtain ⟨w1, w2⟩ := List.mem_filter.mp hw
    have hs := chG_sub _ _ way w1
    have hlen : (way.length : Int) = N.dem (2 ^ k) := of_decide_eq_true w2
    have wm : ∀ l ∈ way, l < N.links.length ∧ inX (2 ^ k) (N.link l) = true := fun l hl => by
      obtain ⟨a, b⟩ := List.mem_filter.mp (hs.mem hl)
      exact ⟨List.mem_range.mp a, b⟩
    have wnd : way.Nodup := hs.nodup (List.nodup_range.filter _)
    refine ⟨List.nodup_append.mpr ⟨i1, wnd, fun a ha b hb e => ?_⟩, fun l hl => ?_, fun v hv => ?_⟩
    · subst e
      have := (i2 a ha).2
      have := inX_one (wm a hb).2
      omega
    · rcases List.mem_append.mp hl with h | h
      · have := i2 l h
        exact ⟨this.1, by omega⟩
      · have := inX_one (wm l h).2
        exact ⟨(wm l h).1, by omega⟩
    · rw [inL_append]
      by_cases e : v = k
      · subst e
        have z1 : inL N r (2 ^ v) = 0 := by
          unfold inL
          rw [List.length_eq_zero_iff, List.filter_eq_nil_iff]
          intro l hl hc
          have := inX_one hc
          have := (i2 l hl).2
          omega
        have z2 : inL N way (2 ^ v) = way.length := by
          unfold inL
          rw [List.filter_eq_self.mpr fun l hl => (wm l hl).2]
        rw [z1, z2]
        omega
      · have z2 : inL N way (2 ^ v) = 0 := by
          unfold inL
          rw [List.length_eq_zero_iff, List.filter_eq_nil_iff]
          intro l hl hc
          have := inX_one hc
          have := inX_one (wm l hl).2
          omega
        rw [z2, i3 v (by omega)]
        rfl
theorem inL_perm {N : Net} {a b : List Nat} (h : a.Perm b) (X : Nat) : inL N a X = inL N b X := (h.filter _).length_eq
theorem least_exact {N : Net} (ok : N.Ok) : ∀ row ∈ leastL N, Exact N row ∧ row.Pairwise (· ≤ ·) := by
  intro row h
  obtain ⟨r, hr, rfl⟩ := List.mem_map.mp h
  obtain ⟨r1, r2⟩ := List.mem_filter.mp hr
  obtain ⟨p1, p2, p3⟩ := prod_row ok _ r r1
  have pm := sortA_perm r
  have lt : ∀ l ∈ sortA r, l < N.links.length := fun l hl => (p2 l (pm.mem_iff.mp hl)).1
  have nd : (sortA r).Nodup := pm.nodup_iff.mpr p1
  refine ⟨⟨nd, lt, ?_, fun v hv => ?_⟩, sortA_sorted r⟩
  · have e := (enough_iff ok p1 fun l hl => (p2 l hl).1).mp r2
    intro X h1 h2
    rw [inL_perm pm]
    exact e X h1 h2
  · rw [inL_perm pm]
    exact p3 v hv
theorem chG_full (m : Int) (l : List Nat) : ∀ w : List Nat, w.Sublist l → (w.length : Int) ≤ m → w ∈ chG m l := by
  refine chG_rec (p := fun l f => ∀ w : List Nat, w.Sublist l → (w.length : Int) ≤ m → w ∈ f) m (fun w hw _ => ?_) (fun l a ih w hw hm => ?_) l
  · have e : w = [] := List.sublist_nil.mp hw
    simp [e]
  · unfold chStep
    obtain ⟨w1, w2, rfl, h1, h2⟩ := List.sublist_append_iff.mp hw
    rw [List.length_append] at hm
    cases w2 with
    | nil =>
      rw [List.append_nil]
      refine List.mem_append_left _ (ih w1 h1 ?_)
      simp only [List.length_nil] at hm
      omega
    | cons b w2 =>
      have hl := h2.length_le
      have e2 : w2 = [] := by
        cases w2 with
        | nil => rfl
        | cons _ _ => simp at hl
      subst e2
      have eb : b = a := by simpa using h2.mem (List.mem_cons_self)
      subst eb
      simp only [List.length_cons, List.length_nil] at hm
      refine List.mem_append_right _ (List.mem_map.mpr ⟨w1, List.mem_filter.mpr ⟨ih w1 h1 (by omega), decide_eq_true (by omega)⟩, rfl⟩)
theorem prod_full {N : Net} (ok : N.Ok) {K : List Nat} (h : Exact N K) (hs : K.Sublist (List.range N.links.length)) : ∀ k, k ≤ N.n → ∃ row ∈ prodL N k, row.Perm (K.filter fun l => decide ((N.link l).2 < k)) := by
  intro k
  induction k with
  | zero =>
    intro _
    refine ⟨[], by simp [prodL], ?_⟩
    simp
  | succ k ih =>
    intro hk
    obtain ⟨row, r1, r2⟩ := ih (by omega)
    have hw : K.filter (fun l => inX (2 ^ k) (N.link l)) ∈ waysL N k := by
      unfold waysL chosenL
      have e := h.one k (by omega)
      refine List.mem_filter.mpr ⟨chG_full _ _ _ (hs.filter _) ?_, decide_eq_true ?_⟩
      · rw [e]
        exact Int.le_refl _
      · rw [e]
        rfl
    refine ⟨row ++ K.filter fun l => inX (2 ^ k) (N.link l), ?_, ?_⟩
    · rw [prodL_succ]
      exact List.mem_flatMap.mpr ⟨row, r1, List.mem_map.mpr ⟨_, hw, rfl⟩⟩
    · have e1 : K.filter (fun l => inX (2 ^ k) (N.link l)) = K.filter fun l => decide ((N.link l).2 = k) := List.filter_congr fun l hl => inX_two (link_ok ok (h.lt l hl)).2.2
      rw [e1]
      refine (r2.append_right _).trans ?_
      refine (List.perm_ext_iff_of_nodup ?_ (h.nd.filter _)).mpr fun a => ?_
      · refine List.nodup_append.mpr ⟨h.nd.filter _, h.nd.filter _, fun a ha b hb e => ?_⟩
        subst e
        have := of_decide_eq_true (List.mem_filter.mp ha).2
        have := of_decide_eq_true (List.mem_filter.mp hb).2
        omega
      · rw [List.mem_append, List.mem_filter, List.mem_filter, List.mem_filter, decide_eq_true_eq, decide_eq_true_eq, decide_eq_true_eq]
        constructor
        · rintro (⟨a1, a2⟩ | ⟨a1, a2⟩)
          · exact ⟨a1, by omega⟩
          · exact ⟨a1, by omega⟩
        · rintro ⟨a1, a2⟩
          by_cases e : (N.link a).2 = k
          · exact .inr ⟨a1, e⟩
          · exact .inl ⟨a1, by omega⟩
theorem least_full {N : Net} (ok : N.Ok) {K : List Nat} (h : Exact N K) (hs : K.Sublist (List.range N.links.length)) : ∃ row ∈ leastL N, row.Perm K := by
  obtain ⟨row, r1, r2⟩ := prod_full ok h hs N.n (Nat.le_refl _)
  have e : (K.filter fun l => decide ((N.link l).2 < N.n)) = K := List.filter_eq_self.mpr fun l hl => decide_eq_true (link_ok ok (h.lt l hl)).2.1
  rw [e] at r2
  refine ⟨sortA row, List.mem_map.mpr ⟨row, List.mem_filter.mpr ⟨r1, ?_⟩, rfl⟩, (sortA_perm row).trans r2⟩
  exact enough_mono (fun x hx => r2.mem_iff.mpr hx) ((enough_iff ok h.nd h.lt).mpr h.en)
end AK
set_option Elab.async false
set_option linter.all false
set_option maxRecDepth 100000
set_option maxHeartbeats 4000000
/-! Costs, one more link, weights; the mathematics that the law leans on. -/
namespace AK
/-! ### lengths -/
theorem filter_lt_succ (u : List Nat) (g : Nat → Nat) (k : Nat) : (u.filter fun l => decide (g l < k + 1)).length = (u.filter fun l => decide (g l < k)).length + (u.filter fun l => decide (g l = k)).length := by
  have key : ∀ l, (decide (g l < k + 1)).toNat = (decide (g l < k)).toNat + (decide (g l = k)).toNat := fun l => by
    by_cases h1 : g l < k
    · rw [decide_eq_true h1, decide_eq_true (show g l < k + 1 by omega), decide_eq_false (show ¬ g l = k by omega)]
      rfl
    · by_cases h2 : g l = k
      · rw [decide_eq_false h1, decide_eq_true (show g l < k + 1 by omega), decide_eq_true h2]
        rfl
      · rw [decide_eq_false h1, decide_eq_false (show ¬ g l < k + 1 by omega), decide_eq_false h2]
        rfl
  have z1 := filter_sub u (fun l => decide (g l < k + 1)) (fun _ => false) (fun l => decide (g l < k)) (fun l => decide (g l = k)) fun l _ => by
    have := key l
    simp only [Bool.toNat_false]
    omega
  have z2 := filter_sub u (fun l => decide (g l < k)) (fun l => decide (g l = k)) (fun l => decide (g l < k + 1)) (fun _ => false) fun l _ => by
    have := key l
    simp only [Bool.toNat_false]
    omega
  have e0 : (u.filter fun _ => false) = [] := List.filter_eq_nil_iff.mpr (by simp)
  rw [e0, List.length_nil] at z1 z2
  omega
theorem exact_part {N : Net} (ok : N.Ok) {K : List Nat} (h : Exact N K) : ∀ k, k ≤ N.n → ((K.filter fun l => decide ((N.link l).2 < k)).length : Int) = ((List.range k).map fun v => N.dem (2 ^ v)).sum := by
  intro k
  induction k with
  | zero =>
    intro _
    simp
  | succ k ih =>
    intro hk
    have z := filter_lt_succ K (fun l => (N.link l).2) k
    have e1 : K.filter (fun l => inX (2 ^ k) (N.link l)) = K.filter fun l => decide ((N.link l).2 = k) := List.filter_congr fun l hl => inX_two (link_ok ok (h.lt l hl)).2.2
    have o := h.one k (by omega)
    unfold inL at o
    rw [e1] at o
    rw [List.range_succ, List.map_append, List.sum_append, ← ih (by omega)]
    simp only [List.map_cons, List.map_nil, List.sum_cons, List.sum_nil]
    omega
theorem exact_len {N : Net} (ok : N.Ok) {K : List Nat} (h : Exact N K) : (K.length : Int) = ((List.range N.n).map fun v => N.dem (2 ^ v)).sum := by
  have z := exact_part ok h N.n (Nat.le_refl _)
  have e : (K.filter fun l => decide ((N.link l).2 < N.n)) = K := List.filter_eq_self.mpr fun l hl => decide_eq_true (link_ok ok (h.lt l hl)).2.1
  rw [e] at z
  exact z
/-! ### the cheapest -/
theorem lt_true {p q : Told} (h : toldLt (tlI p) (tlI q) = true) : p.1 ≤ q.1 := by
  unfold toldLt tlI at h
  simp only at h
  split at h
  · omega
  · have := of_decide_eq_true h
    omega
theorem lt_false {p q : Told} (h : toldLt (tlI p) (tlI q) = false) : q.1 ≤ p.1 := by
  unfold toldLt tlI at h
  simp only at h
  split at h
  · omega
  · have := of_decide_eq_false h
    omega
theorem best_fold (costs : List Nat) : ∀ (rows : List (List Nat)) (b : Option Told), (b ≠ none ∨ rows ≠ []) → ∃ t, rows.foldl (bestF costs) b = some t ∧ (b = some t ∨ (t.2 ∈ rows ∧ t.1 = costOf costs t.2)) ∧ (∀ b', b = some b' → t.1 ≤ b'.1) ∧ ∀ row ∈ rows, t.1 ≤ costOf costs row
  | [], b, h => by
    rcases h with h | h
    · cases b with
      | none => exact absurd rfl h
      | some t => exact ⟨t, rfl, .inl rfl, fun b' e => by cases e; exact Nat.le_refl _, by simp⟩
    · exact absurd rfl h
  | row :: rows, b, _ => by
    have hst : ∃ b1, bestF costs b row = some b1 ∧ (b = some b1 ∨ (b1.2 = row ∧ b1.1 = costOf costs row)) ∧ (∀ b', b = some b' → b1.1 ≤ b'.1) ∧ b1.1 ≤ costOf costs row := by
      cases b with
      | none => exact ⟨_, rfl, .inr ⟨rfl, rfl⟩, fun b' e => (by cases e), Nat.le_refl _⟩
      | some b0 =>
        cases hc : toldLt (tlI (costOf costs row, row)) (tlI b0) with
        | true =>
          refine ⟨(costOf costs row, row), ?_, .inr ⟨rfl, rfl⟩, fun b' e => ?_, Nat.le_refl _⟩
          · show (if toldLt (tlI (costOf costs row, row)) (tlI b0) = true then some (costOf costs row, row) else some b0) = _
            rw [if_pos hc]
          · cases e
            exact lt_true hc
        | false =>
          refine ⟨b0, ?_, .inl rfl, fun b' e => (by cases e; exact Nat.le_refl _), lt_false hc⟩
          show (if toldLt (tlI (costOf costs row, row)) (tlI b0) = true then some (costOf costs row, row) else some b0) = _
          rw [if_neg (by rw [hc]; decide)]
    obtain ⟨b1, e1, e2, e3, e4⟩ := hst
    obtain ⟨t, t1, t2, t3, t4⟩ := best_fold costs rows (some b1) (.inl (by simp))
    rw [List.foldl_cons, e1]
    have tb := t3 b1 rfl
    refine ⟨t, t1, ?_, fun b' e => Nat.le_trans tb (e3 b' e), fun r hr => ?_⟩
    · rcases t2 with z | ⟨z1, z2⟩
      · have z' := Option.some.inj z
        subst z'
        rcases e2 with z3 | ⟨z3, z4⟩
        · exact .inl z3
        · exact .inr ⟨by rw [z3]; exact List.mem_cons_self, by rw [z3]; exact z4⟩
      · exact .inr ⟨List.mem_cons_of_mem _ z1, z2⟩
    · rcases List.mem_cons.mp hr with z | z
      · rw [z]
        exact Nat.le_trans tb e4
      · exact t4 r z
theorem cost_perm {costs a b : List Nat} (h : a.Perm b) : costOf costs a = costOf costs b := (h.map _).sum_nat
theorem cheap_spec {N : Net} (ok : N.Ok) (he : enough N (List.range N.links.length) = true) (costs : List Nat) : ∃ t, cheapL N costs = some t ∧ t.2 ∈ leastL N ∧ t.1 = costOf costs t.2 ∧ ∀ K, Exact N K → K.Sublist (List.range N.links.length) → t.1 ≤ costOf costs K := by
  obtain ⟨x1, x2⟩ := redL_exact ok he
  obtain ⟨row, r1, r2⟩ := least_full ok x1 x2
  obtain ⟨t, t1, t2, t3, t4⟩ := best_fold costs (leastL N) none (.inr fun z => by rw [z] at r1; cases r1)
  rcases t2 with z | ⟨z1, z2⟩
  · cases z
  · refine ⟨t, t1, z1, z2, fun K hK hs => ?_⟩
    obtain ⟨row', q1, q2⟩ := least_full ok hK hs
    rw [← cost_perm q2]
    exact t4 row' q1
/-- costs one greater -/
theorem cost_succ {costs : List Nat} : ∀ {row : List Nat}, (∀ l ∈ row, l < costs.length) → costOf (costs.map (· + 1)) row = costOf costs row + row.length
  | [], _ => rfl
  | l :: row, h => by
    have ih := cost_succ (costs := costs) (row := row) fun x hx => h x (List.mem_cons_of_mem _ hx)
    have hl := h l List.mem_cons_self
    unfold costOf at ih ⊢
    rw [List.map_cons, List.sum_cons, List.map_cons, List.sum_cons, ih, List.getElem?_map, List.getElem?_eq_getElem hl, List.length_cons]
    show (costs[l] + 1) + _ = costs[l] + _ + _
    omega
def shiftT (k : Nat) (t : Told) : Told := (t.1 + k, t.2)
theorem lt_shift (k : Nat) (p q : Told) : toldLt (tlI (shiftT k p)) (tlI (shiftT k q)) = toldLt (tlI p) (tlI q) := by
  unfold toldLt tlI shiftT
  simp only
  by_cases h : (p.1 : Int) = q.1
  · rw [if_pos h, if_pos (by omega)]
  · rw [if_neg h, if_neg (by omega)]
    exact decide_eq_decide.mpr (by omega)
theorem dear_fold {costs : List Nat} {k : Nat} : ∀ (rows : List (List Nat)) (b : Option Told), (∀ row ∈ rows, row.length = k ∧ ∀ l ∈ row, l < costs.length) → rows.foldl (bestF (costs.map (· + 1))) (b.map (shiftT k)) = (rows.foldl (bestF costs) b).map (shiftT k)
  | [], _, _ => rfl
  | row :: rows, b, h => by
    obtain ⟨h1, h2⟩ := h row List.mem_cons_self
    have e : (costOf (costs.map (· + 1)) row, row) = shiftT k (costOf costs row, row) := by
      rw [cost_succ h2, h1]
      rfl
    have hst : bestF (costs.map (· + 1)) (b.map (shiftT k)) row = (bestF costs b row).map (shiftT k) := by
      cases b with
      | none =>
        show some (costOf (costs.map (· + 1)) row, row) = _
        rw [e]
        rfl
      | some b0 =>
        show (if toldLt (tlI (costOf (costs.map (· + 1)) row, row)) (tlI (shiftT k b0)) = true then some (costOf (costs.map (· + 1)) row, row) else some (shiftT k b0)) = Option.map (shiftT k) (if toldLt (tlI (costOf costs row, row)) (tlI b0) = true then some (costOf costs row, row) else some b0)
        rw [e, lt_shift]
        split <;> rfl
    rw [List.foldl_cons, List.foldl_cons, hst]
    exact dear_fold rows _ fun r hr => h r (List.mem_cons_of_mem _ hr)
end AK
set_option Elab.async false
set_option linter.all false
set_option maxRecDepth 100000
set_option maxHeartbeats 4000000
/-! One more link, weights, and all together. -/
namespace AK
/-! ### loads -/
theorem addAt_get (x l : Nat) : ∀ (e ld : List Nat), e.Nodup → l < ld.length → ((e.foldl (addAt x) ld)[l]?).getD 0 = (ld[l]?).getD 0 + if l ∈ e then x else 0
  | [], ld, _, _ => by simp
  | a :: e, ld, nd, h => by
    obtain ⟨n1, n2⟩ := List.nodup_cons.mp nd
    have hlen : (addAt x ld a).length = ld.length := List.length_set
    rw [List.foldl_cons, addAt_get x l e (addAt x ld a) n2 (by rw [hlen]; exact h)]
    unfold addAt
    by_cases ea : l = a
    · subst ea
      rw [List.getElem?_set_self h, if_neg n1, if_pos List.mem_cons_self]
      show (ld[l]?).getD 0 + x + 0 = _
      omega
    · rw [List.getElem?_set_ne (Ne.symm ea)]
      by_cases he : l ∈ e
      · rw [if_pos he, if_pos (List.mem_cons_of_mem _ he)]
      · rw [if_neg he, if_neg fun z => (List.mem_cons.mp z).elim ea he]
theorem ent_get (N : Net) (X x l : Nat) (ld : List Nat) (hl : l < N.links.length) (hld : ld.length = N.links.length) : (((N.ent X).foldl (addAt x) ld)[l]?).getD 0 = (ld[l]?).getD 0 + if inX X (N.link l) = true then x else 0 := by
  have hm : l ∈ N.ent X ↔ inX X (N.link l) = true := by
    show l ∈ (List.range N.links.length).filter (fun l => inX X (N.link l)) ↔ _
    rw [List.mem_filter, List.mem_range]
    exact ⟨fun h => h.2, fun h => ⟨hl, h⟩⟩
  have nd : (N.ent X).Nodup := List.nodup_range.filter _
  rw [addAt_get x l _ ld nd (by omega)]
  by_cases h : inX X (N.link l) = true
  · rw [if_pos h, if_pos (hm.mpr h)]
  · rw [if_neg h, if_neg fun z => h (hm.mp z)]
def sumK (K ld : List Nat) : Nat := (K.map fun l => (ld[l]?).getD 0).sum
theorem ent_sumK (N : Net) (X x : Nat) (ld : List Nat) (hld : ld.length = N.links.length) : ∀ K : List Nat, (∀ l ∈ K, l < N.links.length) → sumK K ((N.ent X).foldl (addAt x) ld) = sumK K ld + x * inL N K X
  | [], _ => by simp [sumK, inL]
  | l :: K, h => by
    have ih := ent_sumK N X x ld hld K fun y hy => h y (List.mem_cons_of_mem _ hy)
    unfold sumK at ih ⊢
    rw [List.map_cons, List.sum_cons, List.map_cons, List.sum_cons, ih, ent_get N X x l ld (h l List.mem_cons_self) hld]
    unfold inL
    rw [List.filter_cons]
    split
    · rw [List.length_cons, Nat.mul_succ]
      omega
    · omega
theorem loads_sumK (N : Net) {K : List Nat} (hK : ∀ l ∈ K, l < N.links.length) : ∀ (Z : List (Nat × Nat)) (ld : List Nat), ld.length = N.links.length → sumK K (Z.foldl (fun ld p => (N.ent (2 ^ p.2)).foldl (addAt p.1) ld) ld) = sumK K ld + (Z.map fun p => p.1 * inL N K (2 ^ p.2)).sum
  | [], ld, _ => by simp
  | p :: Z, ld, h => by
    rw [List.foldl_cons, loads_sumK N hK Z _ (by rw [addAt_len]; exact h), ent_sumK N _ _ ld h K hK, List.map_cons, List.sum_cons]
    omega
theorem sumK_zero (n : Nat) : ∀ K : List Nat, sumK K (List.replicate n 0) = 0
  | [] => rfl
  | l :: K => by
    have ih := sumK_zero n K
    unfold sumK at ih ⊢
    rw [List.map_cons, List.sum_cons, ih, List.getElem?_replicate]
    split <;> rfl
theorem sum_filter_le (f : Nat → Nat) (p : Nat → Bool) : ∀ l : List Nat, ((l.filter p).map f).sum ≤ (l.map f).sum
  | [] => Nat.le_refl _
  | a :: l => by
    have ih := sum_filter_le f p l
    rw [List.filter_cons, List.map_cons, List.sum_cons]
    split
    · rw [List.map_cons, List.sum_cons]
      omega
    · omega
theorem sum_three (f g h : Nat → Nat) : ∀ K : List Nat, (∀ l ∈ K, f l ≤ g l + h l) → (K.map f).sum ≤ (K.map g).sum + (K.map h).sum
  | [], _ => by simp
  | a :: K, z => by
    have ih := sum_three f g h K fun y hy => z y (List.mem_cons_of_mem _ hy)
    have := z a List.mem_cons_self
    rw [List.map_cons, List.sum_cons, List.map_cons, List.sum_cons, List.map_cons, List.sum_cons]
    omega
theorem sum_sub_le {K : List Nat} {n : Nat} (nd : K.Nodup) (lt : ∀ l ∈ K, l < n) (f : Nat → Nat) : (K.map f).sum ≤ ((List.range n).map f).sum := by
  rw [← ((sub_perm nd lt).map f).sum_nat]
  exact sum_filter_le f _ _
theorem zip_range {a b : List Nat} {n : Nat} (ha : a.length = n) (hb : b.length = n) : a.zip b = (List.range n).map fun i => ((a[i]?).getD 0, (b[i]?).getD 0) := by
  refine List.ext_getElem? fun i => ?_
  rw [List.getElem?_map]
  by_cases h : i < n
  · rw [List.getElem?_range h, List.getElem?_eq_getElem (by rw [List.length_zip]; omega), List.getElem_zip]
    show some (a[i], b[i]) = some ((a[i]?).getD 0, (b[i]?).getD 0)
    rw [List.getElem?_eq_getElem (show i < a.length by omega), List.getElem?_eq_getElem (show i < b.length by omega)]
    rfl
  · rw [List.getElem?_eq_none (by rw [List.length_zip]; omega), List.getElem?_eq_none (by rw [List.length_range]; omega)]
    rfl
theorem cast_sum {α : Type} (f : α → Nat) : ∀ l : List α, (((l.map f).sum : Nat) : Int) = (l.map fun a => (f a : Int)).sum
  | [] => rfl
  | a :: l => by
    rw [List.map_cons, List.sum_cons, List.map_cons, List.sum_cons, ← cast_sum f l]
    omega
theorem pos_sub (a b : Nat) : (if (a : Int) - b > 0 then (a : Int) - b else 0) = ((a - b : Nat) : Int) := by
  split <;> omega
theorem bound_nil (N : Net) (costs : List Nat) : boundL N costs [] = 0 := by
  have key : ∀ (n : Nat) (cs : List Nat), (((List.replicate n 0).zip cs).map fun p : Nat × Nat => (if (p.1 : Int) - p.2 > 0 then (p.1 : Int) - p.2 else 0)).sum = 0 := by
    intro n
    induction n with
    | zero =>
      intro cs
      rfl
    | succ n ih =>
      intro cs
      cases cs with
      | nil => rfl
      | cons c cs =>
        rw [List.replicate_succ, List.zip_cons_cons, List.map_cons, List.sum_cons, ih cs, pos_sub]
        omega
  show (0 : Int) - _ = 0
  have e := key N.links.length costs
  have e2 : loadsL N [] = List.replicate N.links.length 0 := rfl
  rw [e2, e]
  rfl
theorem bound_le {N : Net} (ok : N.Ok) {costs K ws : List Nat} (hl : costs.length = N.links.length) (h : Exact N K) (hw : ws.length ≤ N.n) : boundL N costs ws ≤ costOf costs K := by
  have hlen : (loadsL N ws).length = N.links.length := by
    unfold loadsL
    rw [loads_len, List.length_replicate]
  have hs : sumK K (loadsL N ws) = (ws.zipIdx.map fun p => p.1 * inL N K (2 ^ p.2)).sum := by
    unfold loadsL
    rw [loads_sumK N h.lt _ _ List.length_replicate, sumK_zero]
    omega
  have h1 : (ws.zipIdx.map fun p => N.dem (2 ^ p.2) * (p.1 : Int)).sum = (sumK K (loadsL N ws) : Int) := by
    rw [hs, cast_sum]
    refine congrArg List.sum (List.map_congr_left fun p hp => ?_)
    obtain ⟨i, hi, e⟩ := List.mem_iff_getElem.mp hp
    obtain ⟨z1, z2, z3⟩ := zipIdx_mem (l := ws) (i := i) (p := p) (by rw [List.getElem?_eq_getElem hi, e])
    have zl : ws.zipIdx.length = ws.length := List.length_zipIdx
    rw [h.one p.2 (by omega), Int.natCast_mul, Int.mul_comm]
  have h2 : (((loadsL N ws).zip costs).map fun p => (if (p.1 : Int) - p.2 > 0 then (p.1 : Int) - p.2 else 0)).sum = (((List.range N.links.length).map fun i => ((loadsL N ws)[i]?).getD 0 - (costs[i]?).getD 0).sum : Nat) := by
    rw [zip_range hlen hl, List.map_map, cast_sum]
    exact congrArg List.sum (List.map_congr_left fun i _ => pos_sub _ _)
  have h3 := sum_three (fun l => ((loadsL N ws)[l]?).getD 0) (fun l => (costs[l]?).getD 0) (fun l => ((loadsL N ws)[l]?).getD 0 - (costs[l]?).getD 0) K fun l _ => by omega
  have h4 := sum_sub_le h.nd h.lt fun l => ((loadsL N ws)[l]?).getD 0 - (costs[l]?).getD 0
  unfold boundL
  rw [h1, h2]
  unfold sumK costOf at *
  omega
/-! ### one more link -/
theorem sorted_sub {l : List Nat} {n : Nat} (nd : l.Nodup) (lt : ∀ x ∈ l, x < n) (le : l.Pairwise (· ≤ ·)) : l.Sublist (List.range n) := by
  have z : ((List.range n).filter fun x => decide (x ∈ l)).Pairwise (· ≤ ·) := List.Pairwise.filter _ (List.pairwise_lt_range.imp fun h => Nat.le_of_lt h)
  have e : (List.range n).filter (fun x => decide (x ∈ l)) = l := List.Perm.eq_of_pairwise (le := (· ≤ ·)) (fun a b _ _ h1 h2 => by omega) z le (sub_perm nd lt)
  rw [← e]
  exact List.filter_sublist
theorem add_link {N : Net} {l : Nat × Nat} {i : Nat} (h : i < N.links.length) : (N.add l).link i = N.link i := by
  show ((N.links ++ [l])[i]?).getD (0, 0) = (N.links[i]?).getD (0, 0)
  rw [List.getElem?_append_left h]
theorem add_inL {N : Net} {l : Nat × Nat} {K : List Nat} (h : ∀ i ∈ K, i < N.links.length) (X : Nat) : inL (N.add l) K X = inL N K X := by
  unfold inL
  exact congrArg List.length (List.filter_congr fun i hi => by rw [add_link (h i hi)])
theorem add_r (N : Net) (l : Nat × Nat) (X : Nat) : (N.add l).r X = N.r X := rfl
theorem add_dem {N : Net} (ok : N.Ok) {l : Nat × Nat} (okA : (N.add l).Ok) (X : Nat) : (N.add l).dem X = N.dem X := by
  rw [dem_r ok, dem_r okA]
  rfl
theorem add_len (N : Net) (l : Nat × Nat) : (N.add l).links.length = N.links.length + 1 := by
  show (N.links ++ [l]).length = _
  rw [List.length_append]
  rfl
theorem add_exact {N : Net} (ok : N.Ok) {l : Nat × Nat} (okA : (N.add l).Ok) {K : List Nat} (h : Exact N K) : Exact (N.add l) K :=
  ⟨h.nd, fun i hi => by have := h.lt i hi; rw [add_len]; omega, fun X h1 h2 => by rw [add_dem ok okA, add_inL h.lt]; exact h.en X h1 h2, fun v hv => by rw [add_dem ok okA, add_inL h.lt]; exact h.one v hv⟩
theorem cost_app {costs : List Nat} {c : Nat} {K : List Nat} (h : ∀ l ∈ K, l < costs.length) : costOf (costs ++ [c]) K = costOf costs K := by
  unfold costOf
  exact congrArg List.sum (List.map_congr_left fun l hl => by rw [List.getElem?_append_left (h l hl)])
theorem m4_ {N : Net} {costs : List Nat} (ok : N.Ok) (hlen : costs.length = N.links.length) (he : enough N (List.range N.links.length) = true) :
    ∃ t, cheapL N costs = some t ∧ Least N t.2 ∧ (redL N).length = t.2.length ∧ t.1 ≤ costOf costs (redL N) ∧ costOf costs t.2 = t.1 ∧ cheapL N (costs.map (· + 1)) = some (t.1 + t.2.length, t.2) ∧
      (∀ l c, N.links.length + 1 ≤ 16 → l.1 < N.nodes.length → l.2 < N.nodes.length → l.1 ≠ l.2 → enough (N.add l) (List.range (N.add l).links.length) = true ∧ ∃ t', cheapL (N.add l) (costs ++ [c]) = some t' ∧ t'.1 ≤ t.1) ∧
      (∀ ws : List Nat, ws.length ≤ N.n → boundL N costs ws ≤ t.1) ∧ boundL N costs [] = 0 := by
  obtain ⟨t, t1, t2, t3, t4⟩ := cheap_spec ok he costs
  obtain ⟨x1, x2⟩ := redL_exact ok he
  obtain ⟨e1, e2⟩ := least_exact ok _ t2
  have elen : ∀ row ∈ leastL N, row.length = t.2.length := fun row hr => by
    have a := exact_len ok (least_exact ok _ hr).1
    have b := exact_len ok e1
    omega
  refine ⟨t, t1, e1.least ok, ?_, t4 _ x1 x2, t3.symm, ?_, fun l c h16 l1 l2 l3 => ?_, fun ws hw => ?_, bound_nil N costs⟩
  · have a := exact_len ok x1
    have b := exact_len ok e1
    omega
  · have z := dear_fold (costs := costs) (k := t.2.length) (leastL N) none fun row hr => ⟨elen row hr, fun l hl => by rw [hlen]; exact (leastL_lt row hr).2 l hl⟩
    have z2 : cheapL N (costs.map (· + 1)) = (cheapL N costs).map (shiftT t.2.length) := z
    rw [z2, t1]
    rfl
  · have okA : (N.add l).Ok := ok.add h16 l1 l2 l3
    have eA := add_exact ok okA e1
    have heA : enough (N.add l) (List.range (N.add l).links.length) = true := enough_mono (fun x hx => List.mem_range.mpr (eA.lt x hx)) ((enough_iff okA eA.nd eA.lt).mpr eA.en)
    refine ⟨heA, ?_⟩
    obtain ⟨t', q1, q2, q3, q4⟩ := cheap_spec okA heA (costs ++ [c])
    refine ⟨t', q1, ?_⟩
    have z := q4 t.2 eA (sorted_sub eA.nd eA.lt e2)
    rw [cost_app fun i hi => by rw [hlen]; exact e1.lt i hi] at z
    omega
  · rw [t3]
    exact bound_le ok hlen e1 hw
theorem mathOk : MathOk := ⟨fun N ok => m1_ ok, fun N ok => m2_ ok, fun N ok he => (redL_exact ok he).1.least ok, fun N costs ok hlen he => m4_ ok hlen he⟩
end AK
set_option Elab.async false
set_option linter.all false
set_option maxRecDepth 100000
set_option maxHeartbeats 4000000
namespace AK
open PySem PySem.Spec PyProof.Rows L2
theorem only_held {K : PySem.W.Frag} {H : Hp} {a : Addr} {xs : List V} (hO : Only H) (hs : SqL K H a xs) : ∀ H' : Hp, Same H H' → SqL K H' a xs := by
  intro H' e
  rcases hs with h | h
  · rcases h with h | ⟨o, h⟩
    · exact .inl (.inl (e _ _ h))
    · exact .inl (.inr ⟨o, e _ _ h⟩)
  · exact .inr h
theorem law_sp {K : PySem.W.Frag} (H : Hp) (a : Addr) (ns : List Int) (hl : ns.length ≤ 63) (hO : Only H) (hs : SqL K H a (ns.map V.int)) : toSp (p_law K) [.ref a] H (fun v _ => v = .bl true) fun _ _ _ => False := by
  refine ⟨fun _ => none, fun _ => none, H, [scrD K a ns], fun _ d => d = .bl true, ⟨Same.refl _, fun _ _ h => (by cases h), fun _ _ h => (by cases h)⟩, .cons (.scr (only_held hO hs)) .nil, ⟨a, ns, rfl, by omega, rfl⟩, ?_⟩
  intro v d S' G' H' e w p r
  subst p
  cases r
  rfl
theorem law_facts (MO : MathOk) {P : Program} {w : World} {K : PySem.W.Frag} {h : Heap} {mg : Str → Option Value} {f : Addr} (X : K.In h) (G : h.Ns mainGlobals mg) (hfa : mg ("law" : Str) = some (.ref f)) (c : He5.SaysA factsA fnsA K) (ex : exA K = true) :
    ∃ fd : FuncData, (∀ (s : Shared) (v : Value), BindsTo s fd ⟨[v], []⟩ [("_law_script", v)]) ∧ ∀ base : Heap, K.In base → base.Ns mainGlobals mg → FnOk P w K mg base CX0 17 f fd ["_law_script"] (toSp (p_law K)) := by
  have T : Top K mg := ⟨⟨h, X, G⟩, c, ex⟩
  have e := hfa.symm.trans T.g_law
  cases e
  have b := FunD.bindsA (ps := ["_law_script"]) T.D_law fun _ _ _ _ _ _ us hl => match us, hl with | [_], _ => rfl
  exact ⟨_, fun s v => b s [v] rfl, fun base _ _ => ok_law MO T⟩
end AK
open PySem PySem.W PySem.Calls PyProof.Rows
theorem PySem.Challenge.cw_allknow_k35_whole_least_and_cheapest_holds : PySem.Challenge.rw_allknow_k35_whole_least_and_cheapest.Holds := by
  w_on; o_law
  refine HandSHeadRun.head_any (r := OpenLaw.row PySem.Challenge.rw_allknow_k35_whole_least_and_cheapest) (q := view (OpenLaw.row PySem.Challenge.rw_allknow_k35_whole_least_and_cheapest).prog [72]) (H := AK.hookK) (ob := AK.obK) (M := 6000) (loose := AK.looseA) (d := HandSHeadRun.topDef (OpenLaw.row PySem.Challenge.rw_allknow_k35_whole_least_and_cheapest).prog 72) (kwd := []) AK.obK_eq
    (by kernel_rfl) (fun s => by kernel_rfl) AK.run (by kernel_rfl) (by kernel_rfl) (by kernel_rfl) (by rfl) (by first | assumption | decide +kernel) (by decide +kernel) ⟨rfl, rfl, rfl, rfl, rfl, by decide +kernel⟩ ?hw ?hc
  case hw => w_witness2
  case hc =>
    refine L2.walk_ofE (l := PySem.Challenge.rw_allknow_k35_whole_least_and_cheapest) (n := 63) (k := 17) (x := "_law_script") (CX := L2.CX0) rfl (by decide) (by kernel_rfl) ⟨rfl, by decide, by decide⟩ ?F (fun _ _ _ _ z => z)
    intro w mg fa h Y G hmg0
    obtain ⟨K, KX, c, ex⟩ := Y
    have hmg : mg ("law" : PySem.Str) = some (.ref fa) := by
      have e : (HandSHeadRun.topDef (OpenLaw.row PySem.Challenge.rw_allknow_k35_whole_least_and_cheapest).prog 72).name = ("law" : PySem.Str) := by kernel_rfl
      rw [← e]
      exact hmg0
    obtain ⟨fd, hb, hF⟩ := AK.law_facts AK.mathOk (P := (PySem.Challenge.rw_allknow_k35_whole_least_and_cheapest).prog) (w := w) KX G hmg c ex
    exact ⟨K, fd, AK.toSp (AK.p_law K), KX, hb, fun H a ns hl hO hS => AK.law_sp H a ns hl hO hS, hF⟩

import PyProof.Rows.All
import Wide.All
import OpenK.AllK
import Wide.FinOn
import HandS.ForMost
import HandS.Codes
import HandS.More
import HandS.WordsExc
import HandS.Defaults
import HandS.HeadHook1
import HandS.HeadHook2
import PySem.Challenge.RW_tabletalk_k76_whole_records_by_whomever
import HandS.Exc
import HandS.ExcInit
import KE.KStateDown
import Lean
import HandS.Head0
import HandS.Head1
import HandS.Head2
import HandS.HeadEnd
import HandS.Deep
import HandS.Zip
import HandS.TupAny
import HandS.IsInst
import HandS.Conv
import HandS.Wide
import HandS.Sort
import HandS.SortInts
import HandS.Walk
import KE.GoesEnum
import KE.GoesMore
import HandS.DictComp
import HandS.TupSets
import HandS.SortRule
import HandS.DictTup
import HandS.ExcOwn
import HandS.TryMany
import KE.KDictZip
import HandS.MapObj
import HandS.TryOnly
import HandS.TupLe
set_option Elab.async false
set_option linter.all false
set_option maxRecDepth 100000
set_option maxHeartbeats 0
/-! The program's defs by places, and the facts asked of the top (printed by wip/genh.py). -/
namespace Tt
open PySem PySem.Spec PyProof.Rows L2
def top (i : Nat) : Stmt := PySem.Challenge.pw_tabletalk_k76_whole_records_by_whomever.main.body.getD i (.Pass ⟨0, 0, 0, 0⟩)

abbrev s_is_whole : Stmt := top 9
def d_is_whole : He.DefD := ⟨("is_whole", none), "is_whole", "is_whole", defArgs s_is_whole, defBody s_is_whole, defScope s_is_whole, [], []⟩
abbrev s_is_climbing : Stmt := top 10
def d_is_climbing : He.DefD := ⟨("is_climbing", none), "is_climbing", "is_climbing", defArgs s_is_climbing, defBody s_is_climbing, defScope s_is_climbing, [], []⟩
abbrev s_are_variables : Stmt := top 11
def d_are_variables : He.DefD := ⟨("are_variables", none), "are_variables", "are_variables", defArgs s_are_variables, defBody s_are_variables, defScope s_are_variables, [], []⟩
abbrev s_is_scope : Stmt := top 12
def d_is_scope : He.DefD := ⟨("is_scope", none), "is_scope", "is_scope", defArgs s_is_scope, defBody s_is_scope, defScope s_is_scope, [], []⟩
abbrev s_is_row : Stmt := top 13
def d_is_row : He.DefD := ⟨("is_row", none), "is_row", "is_row", defArgs s_is_row, defBody s_is_row, defScope s_is_row, [], []⟩
abbrev s_cut_to : Stmt := top 14
def d_cut_to : He.DefD := ⟨("cut_to", none), "cut_to", "cut_to", defArgs s_cut_to, defBody s_cut_to, defScope s_cut_to, [], []⟩
abbrev s_gathered : Stmt := top 15
def d_gathered : He.DefD := ⟨("gathered", none), "gathered", "gathered", defArgs s_gathered, defBody s_gathered, defScope s_gathered, [], []⟩
abbrev s_is_number : Stmt := top 18
def d_is_number : He.DefD := ⟨("is_number", none), "is_number", "is_number", defArgs s_is_number, defBody s_is_number, defScope s_is_number, [], []⟩
abbrev s_is_edge : Stmt := top 19
def d_is_edge : He.DefD := ⟨("is_edge", none), "is_edge", "is_edge", defArgs s_is_edge, defBody s_is_edge, defScope s_is_edge, [], []⟩
abbrev s_is_graph : Stmt := top 20
def d_is_graph : He.DefD := ⟨("is_graph", none), "is_graph", "is_graph", defArgs s_is_graph, defBody s_is_graph, defScope s_is_graph, [], []⟩
abbrev s_variables_of : Stmt := top 21
def d_variables_of : He.DefD := ⟨("variables_of", none), "variables_of", "variables_of", defArgs s_variables_of, defBody s_variables_of, defScope s_variables_of, [], []⟩
abbrev s_scope_of : Stmt := top 22
def d_scope_of : He.DefD := ⟨("scope_of", none), "scope_of", "scope_of", defArgs s_scope_of, defBody s_scope_of, defScope s_scope_of, [], []⟩
abbrev s_check_graph : Stmt := top 24
def d_check_graph : He.DefD := ⟨("check_graph", none), "check_graph", "check_graph", defArgs s_check_graph, defBody s_check_graph, defScope s_check_graph, [], []⟩
abbrev s_is_node : Stmt := top 25
def d_is_node : He.DefD := ⟨("is_node", none), "is_node", "is_node", defArgs s_is_node, defBody s_is_node, defScope s_is_node, [], []⟩
abbrev s_neighbours : Stmt := top 26
def d_neighbours : He.DefD := ⟨("neighbours", none), "neighbours", "neighbours", defArgs s_neighbours, defBody s_neighbours, defScope s_neighbours, [], []⟩
abbrev s_shared : Stmt := top 27
def d_shared : He.DefD := ⟨("shared", none), "shared", "shared", defArgs s_shared, defBody s_shared, defScope s_shared, [], []⟩
abbrev s_hanging : Stmt := top 28
def d_hanging : He.DefD := ⟨("hanging", none), "hanging", "hanging", defArgs s_hanging, defBody s_hanging, defScope s_hanging, [], []⟩
abbrev s_having : Stmt := top 29
def d_having : He.DefD := ⟨("having", none), "having", "having", defArgs s_having, defBody s_having, defScope s_having, [], []⟩
abbrev s_has_cycle : Stmt := top 30
def d_has_cycle : He.DefD := ⟨("has_cycle", none), "has_cycle", "has_cycle", defArgs s_has_cycle, defBody s_has_cycle, defScope s_has_cycle, [], []⟩
abbrev s_split_variable : Stmt := top 31
def d_split_variable : He.DefD := ⟨("split_variable", none), "split_variable", "split_variable", defArgs s_split_variable, defBody s_split_variable, defScope s_split_variable, [], []⟩
abbrev s_is_tree_like : Stmt := top 32
def d_is_tree_like : He.DefD := ⟨("is_tree_like", none), "is_tree_like", "is_tree_like", defArgs s_is_tree_like, defBody s_is_tree_like, defScope s_is_tree_like, [], []⟩
abbrev s_directions_of : Stmt := top 34
def d_directions_of : He.DefD := ⟨("directions_of", none), "directions_of", "directions_of", defArgs s_directions_of, defBody s_directions_of, defScope s_directions_of, [], []⟩
abbrev s_told : Stmt := top 35
def d_told : He.DefD := ⟨("told", none), "told", "told", defArgs s_told, defBody s_told, defScope s_told, [], []⟩
abbrev s_left_rows : Stmt := top 36
def d_left_rows : He.DefD := ⟨("left_rows", none), "left_rows", "left_rows", defArgs s_left_rows, defBody s_left_rows, defScope s_left_rows, [], []⟩
abbrev s_required : Stmt := top 37
def d_required : He.DefD := ⟨("required", none), "required", "required", defArgs s_required, defBody s_required, defScope s_required, [], []⟩
abbrev s_computed : Stmt := top 38
def d_computed : He.DefD := ⟨("computed", none), "computed", "computed", defArgs s_computed, defBody s_computed, defScope s_computed, [], []⟩
abbrev s_one_round : Stmt := top 39
def d_one_round : He.DefD := ⟨("one_round", none), "one_round", "one_round", defArgs s_one_round, defBody s_one_round, defScope s_one_round, [], []⟩
abbrev s_is_row_action : Stmt := top 44
def d_is_row_action : He.DefD := ⟨("is_row_action", none), "is_row_action", "is_row_action", defArgs s_is_row_action, defBody s_is_row_action, defScope s_is_row_action, [], []⟩
abbrev s_is_action_of : Stmt := top 45
def d_is_action_of : He.DefD := ⟨("is_action_of", none), "is_action_of", "is_action_of", defArgs s_is_action_of, defBody s_is_action_of, defScope s_is_action_of, [], []⟩
abbrev s_message_effect : Stmt := top 46
def d_message_effect : He.DefD := ⟨("message_effect", none), "message_effect", "message_effect", defArgs s_message_effect, defBody s_message_effect, defScope s_message_effect, [], []⟩
abbrev s_effect_of : Stmt := top 47
def d_effect_of : He.DefD := ⟨("effect_of", none), "effect_of", "effect_of", defArgs s_effect_of, defBody s_effect_of, defScope s_effect_of, [], []⟩
abbrev s_check_tree : Stmt := top 48
def d_check_tree : He.DefD := ⟨("check_tree", none), "check_tree", "check_tree", defArgs s_check_tree, defBody s_check_tree, defScope s_check_tree, [], []⟩
abbrev s_empty_talk : Stmt := top 51
def d_empty_talk : He.DefD := ⟨("empty_talk", none), "empty_talk", "empty_talk", defArgs s_empty_talk, defBody s_empty_talk, defScope s_empty_talk, [], []⟩
abbrev s_behind : Stmt := top 52
def d_behind : He.DefD := ⟨("behind", none), "behind", "behind", defArgs s_behind, defBody s_behind, defScope s_behind, [], []⟩
abbrev s_talk_behind : Stmt := top 55
def d_talk_behind : He.DefD := ⟨("talk_behind", none), "talk_behind", "talk_behind", defArgs s_talk_behind, defBody s_talk_behind, defScope s_talk_behind, [], []⟩
abbrev s_are_right : Stmt := top 56
def d_are_right : He.DefD := ⟨("are_right", none), "are_right", "are_right", defArgs s_are_right, defBody s_are_right, defScope s_are_right, [], []⟩
abbrev s__law_stream : Stmt := top 58
def d__law_stream : He.DefD := ⟨("_law_stream", none), "_law_stream", "_law_stream", defArgs s__law_stream, defBody s__law_stream, defScope s__law_stream, [], []⟩
abbrev s__law_next : Stmt := top 59
def d__law_next : He.DefD := ⟨("_law_next", none), "_law_next", "_law_next", defArgs s__law_next, defBody s__law_next, defScope s__law_next, [], []⟩
abbrev s__law_is_integer : Stmt := top 60
def d__law_is_integer : He.DefD := ⟨("_law_is_integer", none), "_law_is_integer", "_law_is_integer", defArgs s__law_is_integer, defBody s__law_is_integer, defScope s__law_is_integer, [], []⟩
abbrev s__law_equal : Stmt := top 61
def d__law_equal : He.DefD := ⟨("_law_equal", none), "_law_equal", "_law_equal", defArgs s__law_equal, defBody s__law_equal, defScope s__law_equal, [], []⟩
abbrev s__law_graph : Stmt := top 62
def d__law_graph : He.DefD := ⟨("_law_graph", none), "_law_graph", "_law_graph", defArgs s__law_graph, defBody s__law_graph, defScope s__law_graph, [], []⟩
abbrev s__law_neighbours : Stmt := top 63
def d__law_neighbours : He.DefD := ⟨("_law_neighbours", none), "_law_neighbours", "_law_neighbours", defArgs s__law_neighbours, defBody s__law_neighbours, defScope s__law_neighbours, [], []⟩
abbrev s__law_directions : Stmt := top 64
def d__law_directions : He.DefD := ⟨("_law_directions", none), "_law_directions", "_law_directions", defArgs s__law_directions, defBody s__law_directions, defScope s__law_directions, [], []⟩
abbrev s__law_cut : Stmt := top 65
def d__law_cut : He.DefD := ⟨("_law_cut", none), "_law_cut", "_law_cut", defArgs s__law_cut, defBody s__law_cut, defScope s__law_cut, [], []⟩
abbrev s__law_gathered : Stmt := top 66
def d__law_gathered : He.DefD := ⟨("_law_gathered", none), "_law_gathered", "_law_gathered", defArgs s__law_gathered, defBody s__law_gathered, defScope s__law_gathered, [], []⟩
abbrev s__law_left : Stmt := top 67
def d__law_left : He.DefD := ⟨("_law_left", none), "_law_left", "_law_left", defArgs s__law_left, defBody s__law_left, defScope s__law_left, [], []⟩
abbrev s__law_required : Stmt := top 68
def d__law_required : He.DefD := ⟨("_law_required", none), "_law_required", "_law_required", defArgs s__law_required, defBody s__law_required, defScope s__law_required, [], []⟩
abbrev s__law_computed : Stmt := top 69
def d__law_computed : He.DefD := ⟨("_law_computed", none), "_law_computed", "_law_computed", defArgs s__law_computed, defBody s__law_computed, defScope s__law_computed, [], []⟩
abbrev s__law_begin : Stmt := top 70
def d__law_begin : He.DefD := ⟨("_law_begin", none), "_law_begin", "_law_begin", defArgs s__law_begin, defBody s__law_begin, defScope s__law_begin, [], []⟩
abbrev s__law_kept : Stmt := top 71
def d__law_kept : He.DefD := ⟨("_law_kept", none), "_law_kept", "_law_kept", defArgs s__law_kept, defBody s__law_kept, defScope s__law_kept, [], []⟩
abbrev s__law_update : Stmt := top 72
def d__law_update : He.DefD := ⟨("_law_update", none), "_law_update", "_law_update", defArgs s__law_update, defBody s__law_update, defScope s__law_update, [], []⟩
abbrev s__law_arrive : Stmt := top 73
def d__law_arrive : He.DefD := ⟨("_law_arrive", none), "_law_arrive", "_law_arrive", defArgs s__law_arrive, defBody s__law_arrive, defScope s__law_arrive, [], []⟩
abbrev s__law_settled : Stmt := top 74
def d__law_settled : He.DefD := ⟨("_law_settled", none), "_law_settled", "_law_settled", defArgs s__law_settled, defBody s__law_settled, defScope s__law_settled, [], []⟩
abbrev s__law_settle : Stmt := top 75
def d__law_settle : He.DefD := ⟨("_law_settle", none), "_law_settle", "_law_settle", defArgs s__law_settle, defBody s__law_settle, defScope s__law_settle, [], []⟩
abbrev s__law_why_not : Stmt := top 76
def d__law_why_not : He.DefD := ⟨("_law_why_not", none), "_law_why_not", "_law_why_not", defArgs s__law_why_not, defBody s__law_why_not, defScope s__law_why_not, [], []⟩
abbrev s__law_perform : Stmt := top 77
def d__law_perform : He.DefD := ⟨("_law_perform", none), "_law_perform", "_law_perform", defArgs s__law_perform, defBody s__law_perform, defScope s__law_perform, [], []⟩
abbrev s__law_action : Stmt := top 78
def d__law_action : He.DefD := ⟨("_law_action", none), "_law_action", "_law_action", defArgs s__law_action, defBody s__law_action, defScope s__law_action, [], []⟩
abbrev s__law_history : Stmt := top 79
def d__law_history : He.DefD := ⟨("_law_history", none), "_law_history", "_law_history", defArgs s__law_history, defBody s__law_history, defScope s__law_history, [], []⟩
abbrev s__law_is_command : Stmt := top 80
def d__law_is_command : He.DefD := ⟨("_law_is_command", none), "_law_is_command", "_law_is_command", defArgs s__law_is_command, defBody s__law_is_command, defScope s__law_is_command, [], []⟩
abbrev s__law_are_right : Stmt := top 81
def d__law_are_right : He.DefD := ⟨("_law_are_right", none), "_law_are_right", "_law_are_right", defArgs s__law_are_right, defBody s__law_are_right, defScope s__law_are_right, [], []⟩
abbrev s__law_turned : Stmt := top 82
def d__law_turned : He.DefD := ⟨("_law_turned", none), "_law_turned", "_law_turned", defArgs s__law_turned, defBody s__law_turned, defScope s__law_turned, [], []⟩
abbrev s__law_run : Stmt := top 83
def d__law_run : He.DefD := ⟨("_law_run", none), "_law_run", "_law_run", defArgs s__law_run, defBody s__law_run, defScope s__law_run, [], []⟩
abbrev s_law : Stmt := top 84
def d_law : He.DefD := ⟨("law", none), "law", "law", defArgs s_law, defBody s_law, defScope s_law, [], []⟩
abbrev s_BadValue___init__ : Stmt := inClass (top 3) 0
def d_BadValue___init__ : He.DefD := ⟨("BadValue", some "__init__"), "__init__", "BadValue.__init__", defArgs s_BadValue___init__, defBody s_BadValue___init__, defScope s_BadValue___init__, [], []⟩
abbrev s_TooLarge___init__ : Stmt := inClass (top 4) 0
def d_TooLarge___init__ : He.DefD := ⟨("TooLarge", some "__init__"), "__init__", "TooLarge.__init__", defArgs s_TooLarge___init__, defBody s_TooLarge___init__, defScope s_TooLarge___init__, [], []⟩
abbrev s_NotPossible___init__ : Stmt := inClass (top 5) 0
def d_NotPossible___init__ : He.DefD := ⟨("NotPossible", some "__init__"), "__init__", "NotPossible.__init__", defArgs s_NotPossible___init__, defBody s_NotPossible___init__, defScope s_NotPossible___init__, [], []⟩
abbrev s_Talk___init__ : Stmt := inClass (top 43) 0
def d_Talk___init__ : He.DefD := ⟨("Talk", some "__init__"), "__init__", "Talk.__init__", defArgs s_Talk___init__, defBody s_Talk___init__, defScope s_Talk___init__, [], []⟩
abbrev s_Talk_copied : Stmt := inClass (top 43) 1
def d_Talk_copied : He.DefD := ⟨("Talk", some "copied"), "copied", "Talk.copied", defArgs s_Talk_copied, defBody s_Talk_copied, defScope s_Talk_copied, [], []⟩
abbrev s_Talk_kept_messages : Stmt := inClass (top 43) 2
def d_Talk_kept_messages : He.DefD := ⟨("Talk", some "kept_messages"), "kept_messages", "Talk.kept_messages", defArgs s_Talk_kept_messages, defBody s_Talk_kept_messages, defScope s_Talk_kept_messages, [], []⟩
abbrev s_Talk_put : Stmt := inClass (top 43) 3
def d_Talk_put : He.DefD := ⟨("Talk", some "put"), "put", "Talk.put", defArgs s_Talk_put, defBody s_Talk_put, defScope s_Talk_put, [], []⟩
abbrev s_Talk_update : Stmt := inClass (top 43) 4
def d_Talk_update : He.DefD := ⟨("Talk", some "update"), "update", "Talk.update", defArgs s_Talk_update, defBody s_Talk_update, defScope s_Talk_update, [], []⟩
abbrev s_Talk_arrive : Stmt := inClass (top 43) 5
def d_Talk_arrive : He.DefD := ⟨("Talk", some "arrive"), "arrive", "Talk.arrive", defArgs s_Talk_arrive, defBody s_Talk_arrive, defScope s_Talk_arrive, [], []⟩
abbrev s_Talk_is_settled : Stmt := inClass (top 43) 6
def d_Talk_is_settled : He.DefD := ⟨("Talk", some "is_settled"), "is_settled", "Talk.is_settled", defArgs s_Talk_is_settled, defBody s_Talk_is_settled, defScope s_Talk_is_settled, [], []⟩
abbrev s_Talk_settle : Stmt := inClass (top 43) 7
def d_Talk_settle : He.DefD := ⟨("Talk", some "settle"), "settle", "Talk.settle", defArgs s_Talk_settle, defBody s_Talk_settle, defScope s_Talk_settle, [], []⟩
abbrev s_Talk_set_row : Stmt := inClass (top 43) 8
def d_Talk_set_row : He.DefD := ⟨("Talk", some "set_row"), "set_row", "Talk.set_row", defArgs s_Talk_set_row, defBody s_Talk_set_row, defScope s_Talk_set_row, [], []⟩
abbrev s_Talk_resend : Stmt := inClass (top 43) 9
def d_Talk_resend : He.DefD := ⟨("Talk", some "resend"), "resend", "Talk.resend", defArgs s_Talk_resend, defBody s_Talk_resend, defScope s_Talk_resend, [], []⟩
abbrev s_Network___init__ : Stmt := inClass (top 53) 0
def d_Network___init__ : He.DefD := ⟨("Network", some "__init__"), "__init__", "Network.__init__", defArgs s_Network___init__, defBody s_Network___init__, defScope s_Network___init__, [], []⟩
abbrev s_Network_act : Stmt := inClass (top 53) 1
def d_Network_act : He.DefD := ⟨("Network", some "act"), "act", "Network.act", defArgs s_Network_act, defBody s_Network_act, defScope s_Network_act, [], []⟩
abbrev s_Network_records : Stmt := inClass (top 53) 9
def d_Network_records : He.DefD := ⟨("Network", some "records"), "records", "Network.records", defArgs s_Network_records, defBody s_Network_records, defScope s_Network_records, [], []⟩
def fn0 : List He.DefD := [d_is_whole, d_is_climbing, d_are_variables, d_is_scope, d_is_row, d_cut_to, d_gathered, d_is_number, d_is_edge, d_is_graph, d_variables_of, d_scope_of, d_check_graph, d_is_node, d_neighbours, d_shared, d_hanging, d_having, d_has_cycle, d_split_variable, d_is_tree_like, d_directions_of, d_told, d_left_rows, d_required, d_computed, d_one_round, d_is_row_action, d_is_action_of, d_message_effect]
def fn1 : List He.DefD := [d_effect_of, d_check_tree, d_empty_talk, d_behind, d_talk_behind, d_are_right, d__law_stream, d__law_next, d__law_is_integer, d__law_equal, d__law_graph, d__law_neighbours, d__law_directions, d__law_cut, d__law_gathered, d__law_left, d__law_required, d__law_computed, d__law_begin, d__law_kept, d__law_update, d__law_arrive, d__law_settled, d__law_settle, d__law_why_not, d__law_perform, d__law_action, d__law_history, d__law_is_command, d__law_are_right]
def fn2 : List He.DefD := [d__law_turned, d__law_run, d_law, d_BadValue___init__, d_TooLarge___init__, d_NotPossible___init__, d_Talk___init__, d_Talk_copied, d_Talk_kept_messages, d_Talk_put, d_Talk_update, d_Talk_arrive, d_Talk_is_settled, d_Talk_settle, d_Talk_set_row, d_Talk_resend, d_Network___init__, d_Network_act, d_Network_records]
def fn : List He.DefD := fn0 ++ (fn1 ++ (fn2))
def fa0 : List He.Fa := [.glo "is_whole", .glo "is_climbing", .glo "are_variables", .glo "is_scope", .glo "is_row", .glo "cut_to", .glo "gathered", .glo "is_number", .glo "is_edge", .glo "is_graph", .glo "variables_of", .glo "scope_of", .glo "check_graph", .glo "is_node", .glo "neighbours", .glo "shared", .glo "hanging", .glo "having", .glo "has_cycle", .glo "split_variable", .glo "is_tree_like", .glo "directions_of", .glo "told", .glo "left_rows", .glo "required", .glo "computed", .glo "one_round", .glo "is_row_action", .glo "is_action_of", .glo "message_effect"]
def fa1 : List He.Fa := [.glo "effect_of", .glo "check_tree", .glo "empty_talk", .glo "behind", .glo "talk_behind", .glo "are_right", .glo "_law_stream", .glo "_law_next", .glo "_law_is_integer", .glo "_law_equal", .glo "_law_graph", .glo "_law_neighbours", .glo "_law_directions", .glo "_law_cut", .glo "_law_gathered", .glo "_law_left", .glo "_law_required", .glo "_law_computed", .glo "_law_begin", .glo "_law_kept", .glo "_law_update", .glo "_law_arrive", .glo "_law_settled", .glo "_law_settle", .glo "_law_why_not", .glo "_law_perform", .glo "_law_action", .glo "_law_history", .glo "_law_is_command", .glo "_law_are_right"]
def fa2 : List He.Fa := [.glo "_law_turned", .glo "_law_run", .glo "law", .glo "TableError", .glo "BadValue", .glo "TooLarge", .glo "NotPossible", .glo "Talk", .glo "Network", .free "len", .free "range", .free "all", .free "isinstance", .free "tuple", .free "sorted", .free "list", .free "zip", .free "enumerate", .free "min", .free "sum", .free "abs", .free "int", .free "bool", .free "str", .int "MOST_VARIABLE" 5, .int "WIDEST_SCOPE" 3, .int "MOST_NODES" 5, .int "MOST_ON_WAY" 40, .int "MOST_COST" 100, .int "MOST_COMMANDS" 20]
def fa3 : List He.Fa := [.cls "Talk", .mkr "Talk", .noat "Talk" "graph", .noat "Talk" "tables", .noat "Talk" "sent", .noat "Talk" "kept", .noat "Talk" "on_way", .meth "Talk" "copied", .meth "Talk" "kept_messages", .meth "Talk" "put", .meth "Talk" "update", .meth "Talk" "arrive", .meth "Talk" "is_settled", .meth "Talk" "settle", .meth "Talk" "set_row", .meth "Talk" "resend", .cls "Network", .mkr "Network", .noat "Network" "graph", .noat "Network" "talks", .noat "Network" "commands", .noat "Network" "told", .meth "Network" "act", .meth "Network" "records", .keep "NotPossible", .keep "TooLarge", .keep "BadValue", .keep "TableError"]
def fa : List He.Fa := fa0 ++ (fa1 ++ (fa2 ++ (fa3)))
end Tt

/-! The head: facts by names, and what NotPossible is (printed by wip/genheadu.py). -/
namespace Tt
open PySem PySem.Spec PyProof.Rows L2
abbrev aNP (K : PySem.W.Frag) : Addr := He.ga K "NotPossible"
abbrev aTL (K : PySem.W.Frag) : Addr := He.ga K "TooLarge"
/-- the class object of an exception -/
def oexB (K : PySem.W.Frag) (C : Addr) : Bool := match K.lookup C with
  | some ⟨.type ty, dd, .cls ⟨nm, bs, mro, N, q, hd, sn, sub, ab, col, del⟩, sl⟩ => decide (ty = "type") && (match mro, sl.toList with
    | .ref C' :: bm, [k0, k1, k2, k3, some (.builtin n), k5] => decide (C' = C) && (decide (n = "ValueError.__new__") && (!del && (hd && PySem.HandSPX.refsVE bm)))
    | _, _ => false)
  | _ => false
def uxB (K : PySem.W.Frag) : Bool := oexB K (aNP K) && (He.eqO (PySem.W.findIn K (.ref (aNP K)) "__setattr__") (some (some (.builtin "object.__setattr__"))) && (decide (PySem.W.subIn K (.ref (aNP K)) (.type "BaseException") = some true) &&
  (decide (PySem.W.typeIn K (.ref (aNP K)) = some (.type "type")) && (PySem.W.keepIn K (.ref (aNP K)) && (He.eqO (PySem.W.findIn K (.ref (aNP K)) "__init__") (some (some (.ref (He.ma K (aNP K) "__init__")))) &&
  (decide (PySem.W.typeIn K (.ref (He.ma K (aNP K) "__init__")) = some (.type "function")) && (He.eqO (PySem.W.findIn K (.ref (aNP K)) "why") (some none) && decide (PySem.W.exmAny K (.ref (aNP K)) [.ref (aNP K), .ref (aTL K)] = some true))))))))
abbrev AlU : Type := Bool × He.AlD
def obsU (K : PySem.W.Frag) : AlU := (uxB K, He.obsD fa fn K)
/-- what the module's names reach, level by level -/
def lev (g : Addr → Option Obj) : Nat → List Addr
  | 0 => [mainGlobals]
  | n + 1 => (lev g n).flatMap fun a => match g a with
    | some o => He.refsD o
    | none => []
def obsUG (g : Addr → Option Obj) : AlU := obsU (He.frG g (lev g 0 ++ (lev g 1 ++ (lev g 2 ++ (lev g 3 ++ lev g 4)))))
def hookU : PySem.W.Hook where
  α := AlU
  obs := fun s => obsUG s.heap.get?
  val := fun _ => (true, He.valD fn)
  says := fun _ h => ∃ K : PySem.W.Frag, K.In h ∧ uxB K = true ∧ He.SaysD fa fn K
  of := fun _ _ e => ⟨_, He.frG_in, congrArg (fun z : AlU => z.1) e, congrArg (fun z : AlU => z.2) e⟩
  keeps := fun _ _ _ ⟨K, hK, c⟩ k => ⟨K, PySem.W.Frag.In.keeps hK k, c⟩
theorem obsUG_eq {g : Addr → Option Obj} {s : Shared} (h : ∀ a, g a = s.heap.get? a) : obsUG g = hookU.obs s := by
  have e : g = s.heap.get? := funext h
  rw [e]
  rfl

def names0 : List PySem.Str := ["_wall", "TableError", "BadValue", "TooLarge", "NotPossible", "MOST_VARIABLE", "WIDEST_SCOPE", "is_whole", "is_climbing", "are_variables", "is_scope", "is_row", "cut_to", "gathered", "MOST_NODES", "is_number", "is_edge", "is_graph", "variables_of", "scope_of", "check_graph", "is_node", "neighbours", "shared", "hanging", "having", "has_cycle", "split_variable", "is_tree_like", "directions_of"]
def names1 : List PySem.Str := ["told", "left_rows", "required", "computed", "one_round", "MOST_ON_WAY", "MOST_COST", "Talk", "is_row_action", "is_action_of", "message_effect", "effect_of", "check_tree", "MOST_COMMANDS", "empty_talk", "behind", "Network", "talk_behind", "are_right", "_law_stream", "_law_next", "_law_is_integer", "_law_equal", "_law_graph", "_law_neighbours", "_law_directions", "_law_cut", "_law_gathered", "_law_left", "_law_required"]
def names2 : List PySem.Str := ["_law_computed", "_law_begin", "_law_kept", "_law_update", "_law_arrive", "_law_settled", "_law_settle", "_law_why_not", "_law_perform", "_law_action", "_law_history", "_law_is_command", "_law_are_right", "_law_turned", "_law_run"]
def names : List PySem.Str := names0 ++ names1 ++ names2

abbrev RW : PySem.W.OpenRow := PySem.W.OpenLaw.row PySem.Challenge.rw_tabletalk_k76_whole_records_by_whomever
def obU (s : PySem.W.SharedT) : AlU := obsUG (HandSHeadRun.getT s)
theorem obU_eq (s : PySem.W.SharedT) : obU s = hookU.obs s.abs := obsUG_eq (HandSHeadRun.getT_eq s)
theorem runU (w : World) : HandSHeadRun.RunEq RW (PySem.W.view RW.prog [84]) hookU obU 8000 names w := by
  intro os
  kernel_rfl
end Tt

/-! Data in the abstract heap, and what readings evaluate to, by data. -/
namespace Tt
open PySem L2

/-! ### data that stands in the heap -/
mutual
inductive Fz (H : Hp) : V → PyData → Prop
  | non : Fz H .non .none
  | bl (b : Bool) : Fz H (.bl b) (.bool b)
  | int (i : Int) : Fz H (.int i) (.int i)
  | str (x : Str) : Fz H (.str x) (.str x)
  | lst {a : Addr} {xs : List V} {ds : List PyData} : H a = some (.lst xs) → FzAll H xs ds → Fz H (.ref a) (.list ds)
  | tup {a : Addr} {xs : List V} {ds : List PyData} : H a = some (.tup xs) → FzAll H xs ds → Fz H (.ref a) (.tuple ds)
inductive FzAll (H : Hp) : List V → List PyData → Prop
  | nil : FzAll H [] []
  | cons {v : V} {vs : List V} {d : PyData} {ds : List PyData} : Fz H v d → FzAll H vs ds → FzAll H (v :: vs) (d :: ds)
end

/-- all that was known stands; tuples stand -/
abbrev TK (H H' : Hp) : Prop := ∀ a xs, H a = some (.tup xs) → H' a = some (.tup xs)
theorem Same.tk {H H' : Hp} (s : Same H H') : TK H H' := fun a _ e => s a _ e
theorem tk_upd {H : Hp} {p : Addr} {o o' : HO} (e : H p = some o) (n : ∀ xs, o ≠ .tup xs) : TK H (upd H p o') := fun a xs q => by
  rw [upd_ne (ne_of q e (fun z => n xs z.symm))]; exact q
theorem tk_new {H : Hp} {p : Addr} {o' : HO} (e : H p = none) : TK H (upd H p o') := fun a xs q => by
  rw [upd_ne (ne_of_none q e)]; exact q
theorem TK.trans {H H1 H2 : Hp} (a : TK H H1) (b : TK H1 H2) : TK H H2 := fun x xs q => b x xs (a x xs q)
theorem TK.refl (H : Hp) : TK H H := fun _ _ q => q
theorem same_new {H : Hp} {p : Addr} {o : HO} (h : H p = none) : Same H (upd H p o) := fun b x e => by
  rw [upd_ne (ne_of_none e h)]; exact e

/-! no list inside -/
mutual
def tupB : PyData → Bool
  | .none => true
  | .bool _ => true
  | .int _ => true
  | .str x => PyData.strOk x
  | .tuple ds => tupsB ds
  | _ => false
def tupsB : List PyData → Bool
  | [] => true
  | d :: ds => tupB d && tupsB ds
end
theorem tupsB_iff : ∀ {ds : List PyData}, tupsB ds = true ↔ ∀ d ∈ ds, tupB d = true
  | [] => by simp [tupsB]
  | d :: ds => by simp [tupsB, tupsB_iff (ds := ds)]
theorem tupsB_map {α : Type} {f : α → PyData} {l : List α} (h : ∀ x, tupB (f x) = true) : tupsB (l.map f) = true := by
  rw [tupsB_iff]
  intro d hd
  obtain ⟨x, _, rfl⟩ := List.mem_map.mp hd
  exact h x

mutual
theorem Fz.same {H H' : Hp} (s : Same H H') : ∀ {v : V} {d : PyData}, Fz H v d → Fz H' v d
  | _, _, .non => .non
  | _, _, .bl b => .bl b
  | _, _, .int i => .int i
  | _, _, .str x => .str x
  | _, _, .lst e h => .lst (s _ _ e) (FzAll.same s h)
  | _, _, .tup e h => .tup (s _ _ e) (FzAll.same s h)
theorem FzAll.same {H H' : Hp} (s : Same H H') : ∀ {vs : List V} {ds : List PyData}, FzAll H vs ds → FzAll H' vs ds
  | _, _, .nil => .nil
  | _, _, .cons h t => .cons (Fz.same s h) (FzAll.same s t)
end
mutual
theorem Fz.tk {H H' : Hp} (s : TK H H') : ∀ {v : V} {d : PyData}, Fz H v d → tupB d = true → Fz H' v d
  | _, _, .non, _ => .non
  | _, _, .bl b, _ => .bl b
  | _, _, .int i, _ => .int i
  | _, _, .str x, _ => .str x
  | _, _, .lst e h, q => by simp [tupB] at q
  | _, _, .tup e h, q => .tup (s _ _ e) (FzAll.tk s h (by simpa [tupB] using q))
theorem FzAll.tk {H H' : Hp} (s : TK H H') : ∀ {vs : List V} {ds : List PyData}, FzAll H vs ds → tupsB ds = true → FzAll H' vs ds
  | _, _, .nil, _ => .nil
  | _, _, .cons h t, q => by
    simp only [tupsB, Bool.and_eq_true] at q
    exact .cons (Fz.tk s h q.1) (FzAll.tk s t q.2)
end
mutual
theorem Fz.dp {K : PySem.W.Frag} {H : Hp} : ∀ {v : V} {d : PyData}, Fz H v d → Dp K H v d
  | _, _, .non => .non
  | _, _, .bl b => .bl b
  | _, _, .int i => .int i
  | _, _, .str x => .str x
  | _, _, .lst e h => .lst (SqL.of e) (FzAll.dp h)
  | _, _, .tup e h => .tup (SqT.of e) (FzAll.dp h)
theorem FzAll.dp {K : PySem.W.Frag} {H : Hp} : ∀ {vs : List V} {ds : List PyData}, FzAll H vs ds → DpAll K H vs ds
  | _, _, .nil => .nil
  | _, _, .cons h t => .cons (Fz.dp h) (FzAll.dp t)
end
section
variable {H H' : Hp} {v : V} {d : PyData} {vs : List V} {ds es : List PyData} {i : Nat}
theorem FzAll.len : ∀ {vs : List V} {ds : List PyData}, FzAll H vs ds → vs.length = ds.length
  | _, _, .nil => rfl
  | _, _, .cons _ t => by rw [List.length_cons, List.length_cons, FzAll.len t]
theorem FzAll.get : ∀ {vs : List V} {ds : List PyData} {i : Nat} {d : PyData}, FzAll H vs ds → ds[i]? = some d → ∃ v, vs[i]? = some v ∧ Fz H v d
  | _, _, _, _, .nil, e => by simp at e
  | _, _, 0, _, .cons (v := v) h _, e => by
    simp at e; subst e; exact ⟨v, by simp, h⟩
  | _, _, i + 1, _, .cons _ t, e => by
    obtain ⟨v, h1, h2⟩ := FzAll.get (i := i) t (by simpa using e)
    exact ⟨v, by simpa using h1, h2⟩
theorem FzAll.getV : ∀ {vs : List V} {ds : List PyData} {i : Nat} {v : V}, FzAll H vs ds → vs[i]? = some v → ∃ d, ds[i]? = some d ∧ Fz H v d
  | _, _, _, _, .nil, e => by simp at e
  | _, _, 0, _, .cons (d := d) h _, e => by
    simp at e; subst e; exact ⟨d, by simp, h⟩
  | _, _, i + 1, _, .cons _ t, e => by
    obtain ⟨v, h1, h2⟩ := FzAll.getV (i := i) t (by simpa using e)
    exact ⟨v, by simpa using h1, h2⟩
theorem FzAll.append : ∀ {vs ws : List V} {ds es : List PyData}, FzAll H vs ds → FzAll H ws es → FzAll H (vs ++ ws) (ds ++ es)
  | _, _, _, _, .nil, h => h
  | _, _, _, _, .cons h t, k => .cons h (FzAll.append t k)
theorem FzAll.take : ∀ {vs : List V} {ds : List PyData} (n : Nat), FzAll H vs ds → FzAll H (vs.take n) (ds.take n)
  | _, _, 0, _ => .nil
  | _, _, _ + 1, .nil => .nil
  | _, _, n + 1, .cons h t => .cons h (FzAll.take n t)
theorem FzAll.drop : ∀ {vs : List V} {ds : List PyData} (n : Nat), FzAll H vs ds → FzAll H (vs.drop n) (ds.drop n)
  | _, _, 0, h => h
  | _, _, _ + 1, .nil => .nil
  | _, _, n + 1, .cons _ t => FzAll.drop n t
theorem FzAll.set {w : V} {e : PyData} (h : Fz H w e) : ∀ {vs : List V} {ds : List PyData} (n : Nat), FzAll H vs ds → FzAll H (vs.set n w) (ds.set n e)
  | _, _, _, .nil => .nil
  | _, _, 0, .cons _ t => .cons h t
  | _, _, n + 1, .cons k t => .cons k (FzAll.set h n t)
theorem FzAll.eraseIdx : ∀ {vs : List V} {ds : List PyData} (n : Nat), FzAll H vs ds → FzAll H (vs.eraseIdx n) (ds.eraseIdx n)
  | _, _, _, .nil => .nil
  | _, _, 0, .cons _ t => t
  | _, _, n + 1, .cons k t => .cons k (FzAll.eraseIdx n t)
theorem FzAll.one (h : Fz H v d) : FzAll H [v] [d] := .cons h .nil
theorem FzAll.snoc (h : FzAll H vs ds) (k : Fz H v d) : FzAll H (vs ++ [v]) (ds ++ [d]) := h.append (.one k)
theorem Fz.tupI (h : Fz H v (.tuple ds)) : ∃ a xs, v = .ref a ∧ H a = some (.tup xs) ∧ FzAll H xs ds := by
  cases h with
  | tup e t => exact ⟨_, _, rfl, e, t⟩
theorem Fz.lstI (h : Fz H v (.list ds)) : ∃ a xs, v = .ref a ∧ H a = some (.lst xs) ∧ FzAll H xs ds := by
  cases h with
  | lst e t => exact ⟨_, _, rfl, e, t⟩
theorem Fz.intI {i : Int} (h : Fz H v (.int i)) : v = .int i := by cases h; rfl
theorem Fz.strI {i : Str} (h : Fz H v (.str i)) : v = .str i := by cases h; rfl
theorem Fz.blI {i : Bool} (h : Fz H v (.bool i)) : v = .bl i := by cases h; rfl
theorem Fz.nonI (h : Fz H v .none) : v = .non := by cases h; rfl
theorem fz_ints : ∀ {vs : List V} {ns : List Int}, FzAll H vs (ns.map PyData.int) → vs = ns.map V.int
  | _, [], h => by cases h; rfl
  | _, n :: ns, h => by
    rw [List.map_cons] at h
    cases h with
    | cons h t =>
      cases h
      rw [fz_ints t, List.map_cons]
theorem fz_of_ints : ∀ (ns : List Int), FzAll H (ns.map V.int) (ns.map PyData.int)
  | [] => .nil
  | n :: ns => .cons (.int n) (fz_of_ints ns)
theorem fz_bools : ∀ {vs : List V} {bs : List Bool}, FzAll H vs (bs.map PyData.bool) → vs = bs.map V.bl
  | _, [], h => by cases h; rfl
  | _, n :: ns, h => by
    rw [List.map_cons] at h
    cases h with
    | cons h t =>
      cases h
      rw [fz_bools t, List.map_cons]
end

/-! ### what a reading evaluates to -/
def EF (te : TE) (σ : St) (H : Hp) (d : PyData) : Prop := ∀ H1, Same H H1 → ∀ Q : VK, (∀ v H2, Same H1 H2 → Fz H2 v d → Q v H2) → te σ H1 Q
def EFA (ta : TA) (σ : St) (H : Hp) (ds : List PyData) : Prop := ∀ H1, Same H H1 → ∀ Q : List V → Hp → Prop, (∀ vs H2, Same H1 H2 → FzAll H2 vs ds → Q vs H2) → ta σ H1 Q
def ET (tt : TT) (σ : St) (H : Hp) (b : Bool) : Prop := ∀ H1, Same H H1 → ∀ Q : Bool → Hp → Prop, (∀ H2, Same H1 H2 → Q b H2) → tt σ H1 Q
/-- a new list, a new tuple: at p -/
def EL (te : TE) (σ : St) (H : Hp) (ds : List PyData) : Prop := ∀ H1, Same H H1 → ∀ Q : VK, (∀ p xs H2, H1 p = none → Same H1 H2 → H2 p = some (.lst xs) → FzAll H2 xs ds → Q (.ref p) H2) → te σ H1 Q
def EO (to : TO) (σ : St) (H : Hp) (o : Option Int) : Prop := ∀ H1, Same H H1 → ∀ Q : Option Int → Hp → Prop, (∀ H2, Same H1 H2 → Q o H2) → to σ H1 Q
section
variable {K : PySem.W.Frag} {σ : St} {H H' : Hp} {ta tb te tx : TE} {t u : TT} {d e : PyData} {v : V} {r : R2} {ds es : List PyData} {i j : Int} {b c : Bool}
theorem EF.mono (s : Same H H') (h : EF te σ H d) : EF te σ H' d := fun H1 a Q q => h H1 (s.trans a) Q q
theorem ET.mono (s : Same H H') (h : ET t σ H b) : ET t σ H' b := fun H1 a Q q => h H1 (s.trans a) Q q
theorem EFA.mono {ta : TA} (s : Same H H') (h : EFA ta σ H ds) : EFA ta σ H' ds := fun H1 a Q q => h H1 (s.trans a) Q q
theorem EL.mono (s : Same H H') (h : EL te σ H ds) : EL te σ H' ds := fun H1 a Q q => h H1 (s.trans a) Q q
/-- run it here -/
theorem EF.go (h : EF te σ H d) {Q : VK} (k : ∀ v H2, Same H H2 → Fz H2 v d → Q v H2) : te σ H Q := h H (Same.refl H) Q k
theorem ET.go (h : ET t σ H b) {Q : Bool → Hp → Prop} (k : ∀ H2, Same H H2 → Q b H2) : t σ H Q := h H (Same.refl H) Q k
theorem EL.go (h : EL te σ H ds) {Q : VK} (k : ∀ p xs H2, H p = none → Same H H2 → H2 p = some (.lst xs) → FzAll H2 xs ds → Q (.ref p) H2) : te σ H Q := h H (Same.refl H) Q k
theorem EL.ef (h : EL te σ H ds) : EF te σ H (.list ds) := fun H1 a Q q => h H1 a Q fun p xs H2 _ s e f => q _ H2 s (.lst e f)
theorem EF.is (h : EF te σ H d) (q : d = e) : EF te σ H e := q ▸ h
theorem ET.is (h : ET t σ H b) (q : b = c) : ET t σ H c := q ▸ h
theorem EL.is (h : EL te σ H ds) (q : ds = es) : EL te σ H es := q ▸ h

theorem e_var {i : Nat} (h : σ[i]? = some (some v)) (f : Fz H v d) : EF (tVar i) σ H d := fun H1 a Q q => ⟨v, h, q v H1 (Same.refl _) (f.same a)⟩
theorem e_int : EF (tC (.int i)) σ H (.int i) := fun H1 a Q q => q _ H1 (Same.refl _) (.int i)
theorem e_str {x : Str} : EF (tC (.str x)) σ H (.str x) := fun H1 a Q q => q _ H1 (Same.refl _) (.str x)
theorem e_bl : EF (tC (.bl b)) σ H (.bool b) := fun H1 a Q q => q _ H1 (Same.refl _) (.bl b)
theorem e_non : EF (tC .non) σ H .none := fun H1 a Q q => q _ H1 (Same.refl _) .non
/-- two values, then an operator -/
theorem e_op (ha : EF ta σ H d) (hb : EF tb σ H e) {z : PyData} (hr : ∀ x y H1, Same H H1 → Fz H1 x d → Fz H1 y e → ∀ Q : VK, (∀ v H2, Same H1 H2 → Fz H2 v z → Q v H2) → r x y H1 Q) : EF (tOp r ta tb) σ H z :=
  fun H1 a Q q => ha H1 a _ fun x H2 s2 f2 => hb H2 (a.trans s2) _ fun y H3 s3 f3 => hr x y H3 ((a.trans s2).trans s3) (f2.same s3) f3 Q fun v H4 s4 f4 => q v H4 ((s2.trans s3).trans s4) f4
theorem e_I {C : Int → Int → Prop} {g : Int → Int → V} {z : PyData} (ha : EF ta σ H (.int i)) (hb : EF tb σ H (.int j)) (hc : C i j) (hz : ∀ H, Fz H (g i j) z) : EF (tOp (rI C g) ta tb) σ H z :=
  e_op ha hb fun x y H1 s f1 f2 Q q => ⟨i, j, f1.intI, f2.intI, hc, q _ H1 (Same.refl _) (hz _)⟩
theorem e_I0 {g : Int → Int → V} {z : PyData} (ha : EF ta σ H (.int i)) (hb : EF tb σ H (.int j)) (hz : ∀ H, Fz H (g i j) z) : EF (tOp (rI0 g) ta tb) σ H z :=
  e_op ha hb fun x y H1 s f1 f2 Q q => ⟨i, j, f1.intI, f2.intI, q _ H1 (Same.refl _) (hz _)⟩
theorem e_add (ha : EF ta σ H (.int i)) (hb : EF tb σ H (.int j)) : EF (tOp (rI0 fun i j => .int (i + j)) ta tb) σ H (.int (i + j)) := e_I0 ha hb fun _ => .int _
theorem e_sub (ha : EF ta σ H (.int i)) (hb : EF tb σ H (.int j)) : EF (tOp (rI0 fun i j => .int (i - j)) ta tb) σ H (.int (i - j)) := e_I0 ha hb fun _ => .int _
theorem e_lt (ha : EF ta σ H (.int i)) (hb : EF tb σ H (.int j)) : EF (tOp (rI0 fun i j => .bl (decide (i < j))) ta tb) σ H (.bool (decide (i < j))) := e_I0 ha hb fun _ => .bl _
theorem e_le (ha : EF ta σ H (.int i)) (hb : EF tb σ H (.int j)) : EF (tOp (rI0 fun i j => .bl (decide (i ≤ j))) ta tb) σ H (.bool (decide (i ≤ j))) := e_I0 ha hb fun _ => .bl _
theorem e_gt (ha : EF ta σ H (.int i)) (hb : EF tb σ H (.int j)) : EF (tOp (rI0 fun i j => .bl (decide (j < i))) ta tb) σ H (.bool (decide (j < i))) := e_I0 ha hb fun _ => .bl _
theorem e_ge (ha : EF ta σ H (.int i)) (hb : EF tb σ H (.int j)) : EF (tOp (rI0 fun i j => .bl (decide (j ≤ i))) ta tb) σ H (.bool (decide (j ≤ i))) := e_I0 ha hb fun _ => .bl _
theorem e_mul (ha : EF ta σ H (.int i)) (hb : EF tb σ H (.int j)) (h : CMul i j) : EF (tOp (rI CMul fun i j => .int (i * j)) ta tb) σ H (.int (i * j)) := e_I ha hb h fun _ => .int _
theorem e_eqI (ha : EF ta σ H (.int i)) (hb : EF tb σ H (.int j)) : EF (tOp rEq ta tb) σ H (.bool (decide (i = j))) :=
  e_op ha hb fun x y H1 s f1 f2 Q q => by
    cases f1; cases f2
    refine ⟨rfl, q _ H1 (Same.refl _) ?_⟩
    rw [show decide (V.int i = V.int j) = decide (i = j) by simp]
    exact .bl _
theorem e_neI (ha : EF ta σ H (.int i)) (hb : EF tb σ H (.int j)) : EF (tOp rNe ta tb) σ H (.bool (!decide (i = j))) :=
  e_op ha hb fun x y H1 s f1 f2 Q q => by
    cases f1; cases f2
    refine ⟨rfl, q _ H1 (Same.refl _) ?_⟩
    rw [show decide (V.int i = V.int j) = decide (i = j) by simp]
    exact .bl _
theorem e_eqS {x y : Str} (ha : EF ta σ H (.str x)) (hb : EF tb σ H (.str y)) : EF (tOp rEq ta tb) σ H (.bool (decide (x = y))) :=
  e_op ha hb fun _ _ H1 s f1 f2 Q q => by
    cases f1; cases f2
    refine ⟨rfl, q _ H1 (Same.refl _) ?_⟩
    rw [show decide (V.str x = V.str y) = decide (x = y) by simp]
    exact .bl _
theorem e_neS {x y : Str} (ha : EF ta σ H (.str x)) (hb : EF tb σ H (.str y)) : EF (tOp rNe ta tb) σ H (.bool (!decide (x = y))) :=
  e_op ha hb fun _ _ H1 s f1 f2 Q q => by
    cases f1; cases f2
    refine ⟨rfl, q _ H1 (Same.refl _) ?_⟩
    rw [show decide (V.str x = V.str y) = decide (x = y) by simp]
    exact .bl _
theorem e_eqD (ha : EF ta σ H d) (hb : EF tb σ H e) (sd : SeqAt.shaped d = true) (se : SeqAt.shaped e = true) : EF (tOp (rEqD K) ta tb) σ H (.bool (PyData.eqv d e)) :=
  e_op ha hb fun x y H1 s f1 f2 Q q => ⟨d, e, f1.dp, f2.dp, sd, se, q _ H1 (Same.refl _) (.bl _)⟩
theorem e_neD (ha : EF ta σ H d) (hb : EF tb σ H e) (sd : SeqAt.shaped d = true) (se : SeqAt.shaped e = true) : EF (tOp (rNeD K) ta tb) σ H (.bool (!PyData.eqv d e)) :=
  e_op ha hb fun x y H1 s f1 f2 Q q => ⟨d, e, f1.dp, f2.dp, sd, se, q _ H1 (Same.refl _) (.bl _)⟩
theorem e_inD (ha : EF ta σ H d) (hb : EF tb σ H (.list ds)) (sd : SeqAt.shaped d = true) (se : SeqAt.shaped (.list ds) = true) : EF (tOp (rInD K) ta tb) σ H (.bool (ds.any fun z => PyData.eqv z d)) :=
  e_op ha hb fun x y H1 s f1 f2 Q q => ⟨d, ds, f1.dp, f2.dp, sd, se, q _ H1 (Same.refl _) (.bl _)⟩
theorem e_notInD (ha : EF ta σ H d) (hb : EF tb σ H (.list ds)) (sd : SeqAt.shaped d = true) (se : SeqAt.shaped (.list ds) = true) : EF (tOp (rNotInD K) ta tb) σ H (.bool (!ds.any fun z => PyData.eqv z d)) :=
  e_op ha hb fun x y H1 s f1 f2 Q q => ⟨d, ds, f1.dp, f2.dp, sd, se, q _ H1 (Same.refl _) (.bl _)⟩
theorem inV_ints (i : Int) (ns : List Int) : inV (.int i) (ns.map V.int) = decide (i ∈ ns) := by
  unfold inV
  rw [List.any_map]
  have e : ((fun y => eqV y (V.int i)) ∘ V.int) = fun n => n == i := by funext n; rfl
  rw [e]
  rw [Bool.eq_iff_iff]
  simp [List.any_eq_true]
theorem flat_ints (ns : List Int) : (ns.map V.int).all flatV = true := by simp [List.all_map, List.all_eq_true, flatV]
/-- i in (a tuple, a list of ints) -/
theorem e_inT {neg : Bool} {ns : List Int} (ha : EF ta σ H (.int i)) (hb : EF tb σ H (.tuple (ns.map .int))) : EF (tOp (rIn K neg) ta tb) σ H (.bool (if neg then !decide (i ∈ ns) else decide (i ∈ ns))) :=
  e_op ha hb fun x y H1 s f1 f2 Q q => by
    obtain ⟨a, xs, rfl, ea, fa⟩ := f2.tupI
    cases f1
    obtain rfl := fz_ints fa
    refine ⟨a, _, rfl, .inr (SqT.of ea), rfl, flat_ints ns, q _ H1 (Same.refl _) ?_⟩
    rw [inV_ints]
    exact .bl _
theorem e_inL {neg : Bool} {ns : List Int} (ha : EF ta σ H (.int i)) (hb : EF tb σ H (.list (ns.map .int))) : EF (tOp (rIn K neg) ta tb) σ H (.bool (if neg then !decide (i ∈ ns) else decide (i ∈ ns))) :=
  e_op ha hb fun x y H1 s f1 f2 Q q => by
    obtain ⟨a, xs, rfl, ea, fa⟩ := f2.lstI
    cases f1
    obtain rfl := fz_ints fa
    refine ⟨a, _, rfl, .inl (SqL.of ea), rfl, flat_ints ns, q _ H1 (Same.refl _) ?_⟩
    rw [inV_ints]
    exact .bl _
/-- items -/
theorem atI_of {α β : Type} {xs : List α} {ds : List β} (hl : xs.length = ds.length) {i : Int} {d : β} (h : atI ds i = some d) : ∃ j : Nat, ds[j]? = some d ∧ ∀ v, xs[j]? = some v → atI xs i = some v := by
  unfold atI at h ⊢
  rw [hl]
  cases e : ixN ds.length i with
  | none => rw [e] at h; cases h
  | some j => rw [e] at h; exact ⟨j, h, fun v hv => hv⟩
theorem FzAll.atI {vs : List V} (f : FzAll H vs ds) (h : L2.atI ds i = some d) : ∃ v, L2.atI vs i = some v ∧ Fz H v d := by
  obtain ⟨j, h1, h2⟩ := atI_of f.len h
  obtain ⟨v, e, fv⟩ := f.get h1
  exact ⟨v, h2 v e, fv⟩
theorem e_ixT (ha : EF ta σ H (.tuple ds)) (hb : EF tb σ H (.int i)) (h : atI ds i = some d) : EF (tOp (rIxT K) ta tb) σ H d :=
  e_op ha hb fun x y H1 s f1 f2 Q q => by
    obtain ⟨a, xs, rfl, ea, fa⟩ := f1.tupI
    obtain ⟨v, hv, fv⟩ := fa.atI h
    exact ⟨a, xs, i, v, rfl, f2.intI, SqT.of ea, hv, q v H1 (Same.refl _) fv⟩
theorem e_ixL (ha : EF ta σ H (.list ds)) (hb : EF tb σ H (.int i)) (h : atI ds i = some d) : EF (tOp (rIxL K) ta tb) σ H d :=
  e_op ha hb fun x y H1 s f1 f2 Q q => by
    obtain ⟨a, xs, rfl, ea, fa⟩ := f1.lstI
    obtain ⟨v, hv, fv⟩ := fa.atI h
    exact ⟨a, xs, i, v, rfl, f2.intI, SqL.of ea, hv, q v H1 (Same.refl _) fv⟩
/-- arguments, displays -/
theorem ea_nil : EFA tNil σ H [] := fun H1 a Q q => q [] H1 (Same.refl _) .nil
theorem ea_cons {tr : TA} (h : EF ta σ H d) (k : EFA tr σ H ds) : EFA (tCons ta tr) σ H (d :: ds) := fun H1 a Q q =>
  h H1 a _ fun x H2 s2 f2 => k H2 (a.trans s2) _ fun xs H3 s3 f3 => q _ H3 (s2.trans s3) (.cons (f2.same s3) f3)
theorem e_tup {ta : TA} (h : EFA ta σ H ds) (hl : ds.length ≤ 100000 := by first | decide | simp) : EF (tTup ta) σ H (.tuple ds) := fun H1 a Q q =>
  h H1 a _ fun vs H2 s2 f2 => ⟨by rw [f2.len]; exact Nat.le_trans hl (by decide), fun p hp => q _ _ (s2.trans (same_new hp)) (.tup upd_same (f2.same (same_new hp)))⟩
theorem el_lst {ta : TA} (h : EFA ta σ H ds) (hl : ds.length ≤ 100000 := by first | decide | simp) : EL (tLst ta) σ H ds := fun H1 a Q q =>
  h H1 a _ fun vs H2 s2 f2 => ⟨by rw [f2.len]; exact Nat.le_trans hl (by decide), fun p hp => q p vs _ (by
    cases e : H1 p with
    | none => rfl
    | some o => rw [s2 p o e] at hp; cases hp) (s2.trans (same_new hp)) upd_same (f2.same (same_new hp))⟩
/-- tests -/
theorem t_test (h : EF te σ H (.bool b)) : ET (tTest te) σ H b := fun H1 a Q q => h H1 a _ fun v H2 s f => ⟨b, f.blI, q H2 s⟩
theorem t_B (h : EF te σ H (.bool b)) : ET (tB te) σ H b := fun H1 a Q q => h H1 a _ fun v H2 s f => ⟨b, f.blI, q H2 s⟩
theorem t_yes : ET tYes σ H true := fun H1 a Q q => q H1 (Same.refl _)
theorem t_and (h : ET t σ H b) (k : b = true → ET u σ H c) : ET (tAnd t u) σ H (b && c) := fun H1 a Q q => h H1 a _ fun H2 s => by
  cases b with
  | true => exact k rfl H2 (a.trans s) Q fun H3 s3 => q H3 (s.trans s3)
  | false => exact q H2 s
theorem t_or (h : ET t σ H b) (k : b = false → ET u σ H c) : ET (tOr t u) σ H (b || c) := fun H1 a Q q => h H1 a _ fun H2 s => by
  cases b with
  | true => exact q H2 s
  | false => exact k rfl H2 (a.trans s) Q fun H3 s3 => q H3 (s.trans s3)
theorem t_not (h : ET t σ H b) : ET (tNot t) σ H (!b) := fun H1 a Q q => h H1 a _ fun H2 s => q H2 s
theorem e_andV (h : EF ta σ H (.bool b)) (k : b = true → EF tb σ H (.bool c)) : EF (tAndV ta tb) σ H (.bool (b && c)) := fun H1 a Q q => h H1 a _ fun v H2 s f => ⟨b, f.blI, by
  cases b with
  | true => exact k rfl H2 (a.trans s) Q fun v H3 s3 f3 => q v H3 (s.trans s3) f3
  | false => exact q _ H2 s (.bl _)⟩
theorem e_orV (h : EF ta σ H (.bool b)) (k : b = false → EF tb σ H (.bool c)) : EF (tOrV ta tb) σ H (.bool (b || c)) := fun H1 a Q q => h H1 a _ fun v H2 s f => ⟨b, f.blI, by
  cases b with
  | true => exact q _ H2 s (.bl _)
  | false => exact k rfl H2 (a.trans s) Q fun v H3 s3 f3 => q v H3 (s.trans s3) f3⟩
theorem e_notV (h : EF ta σ H (.bool b)) : EF (tNotV ta) σ H (.bool (!b)) := fun H1 a Q q => h H1 a _ fun v H2 s f => ⟨b, f.blI, q _ H2 s (.bl _)⟩
theorem e_if (h : ET t σ H b) (h1 : b = true → EF ta σ H d) (h2 : b = false → EF tb σ H d) : EF (tIf t ta tb) σ H d := fun H1 a Q q => h H1 a _ fun H2 s => by
  cases b with
  | true => exact h1 rfl H2 (a.trans s) Q fun v H3 s3 f3 => q v H3 (s.trans s3) f3
  | false => exact h2 rfl H2 (a.trans s) Q fun v H3 s3 f3 => q v H3 (s.trans s3) f3
abbrev tTr (K : PySem.W.Frag) (ta : TE) : TT := fun σ H Q => ta σ H fun x H' => ∃ k, TruV K x H' k ∧ Q k H'
theorem t_trL (h : EF ta σ H (.list ds)) : ET (tTr K ta) σ H (!ds.isEmpty) := fun H1 a Q q => h H1 a _ fun v H2 s f => by
  obtain ⟨p, xs, rfl, e, fa⟩ := f.lstI
  refine ⟨_, .inl ⟨xs, SqL.of e, rfl⟩, ?_⟩
  have hl := fa.len
  have : xs.isEmpty = ds.isEmpty := by cases xs <;> cases ds <;> simp_all
  rw [this]
  exact q H2 s
theorem t_trT (h : EF ta σ H (.tuple ds)) : ET (tTr K ta) σ H (!ds.isEmpty) := fun H1 a Q q => h H1 a _ fun v H2 s f => by
  obtain ⟨p, xs, rfl, e, fa⟩ := f.tupI
  refine ⟨_, .inr (.inl ⟨xs, SqT.of e, rfl⟩), ?_⟩
  have hl := fa.len
  have : xs.isEmpty = ds.isEmpty := by cases xs <;> cases ds <;> simp_all
  rw [this]
  exact q H2 s
/-- a call of a built-in by values -/
theorem e_cb {r : List V → Hp → VK → Prop} {ta : TA} {z : PyData} (h : EFA ta σ H ds) (hr : ∀ vs H1, Same H H1 → FzAll H1 vs ds → ∀ Q : VK, (∀ v H2, Same H1 H2 → Fz H2 v z → Q v H2) → r vs H1 Q) : EF (tCB r ta) σ H z := fun H1 a Q q =>
  h H1 a _ fun vs H2 s f => hr vs H2 (a.trans s) f Q fun v H3 s3 f3 => q v H3 (s.trans s3) f3
theorem FzAll.oneI {vs : List V} (h : FzAll H vs [d]) : ∃ v, vs = [v] ∧ Fz H v d := by
  cases h with
  | cons h t => cases t; exact ⟨_, rfl, h⟩
abbrev rLenQ (K : PySem.W.Frag) : List V → Hp → VK → Prop := fun xs H Q => ∃ p ys, xs = [.ref p] ∧ (SqL K H p ys ∨ SqT K H p ys) ∧ Q (.int ys.length) H
theorem e_lenT (h : EF te σ H (.tuple ds)) : EF (tCB (rLenQ K) (tCons te tNil)) σ H (.int ds.length) := e_cb (ea_cons h ea_nil) fun vs H1 s f Q q => by
  obtain ⟨v, rfl, fv⟩ := f.oneI
  obtain ⟨p, xs, rfl, e, fa⟩ := fv.tupI
  refine ⟨p, xs, rfl, .inr (SqT.of e), q _ H1 (Same.refl _) ?_⟩
  rw [fa.len]
  exact .int _
theorem e_lenL (h : EF te σ H (.list ds)) : EF (tCB (rLenQ K) (tCons te tNil)) σ H (.int ds.length) := e_cb (ea_cons h ea_nil) fun vs H1 s f Q q => by
  obtain ⟨v, rfl, fv⟩ := f.oneI
  obtain ⟨p, xs, rfl, e, fa⟩ := fv.lstI
  refine ⟨p, xs, rfl, .inl (SqL.of e), q _ H1 (Same.refl _) ?_⟩
  rw [fa.len]
  exact .int _
abbrev rTupQ (K : PySem.W.Frag) : List V → Hp → VK → Prop := fun xs H Q => ∃ p ys, xs = [.ref p] ∧ ((SqL K H p ys ∧ ∀ l, H l = none → Q (.ref l) (upd H l (.tup ys))) ∨ (SqT K H p ys ∧ Q (.ref p) H))
theorem e_tupL (h : EF te σ H (.list ds)) : EF (tCB (rTupQ K) (tCons te tNil)) σ H (.tuple ds) := e_cb (ea_cons h ea_nil) fun vs H1 s f Q q => by
  obtain ⟨v, rfl, fv⟩ := f.oneI
  obtain ⟨p, xs, rfl, e, fa⟩ := fv.lstI
  exact ⟨p, xs, rfl, .inl ⟨SqL.of e, fun l hl => q _ _ (same_new hl) (.tup upd_same (fa.same (same_new hl)))⟩⟩
abbrev rLstQ (K : PySem.W.Frag) : List V → Hp → VK → Prop := fun xs H Q => ∃ p ys, xs = [.ref p] ∧ (SqL K H p ys ∨ SqT K H p ys) ∧ ∀ l, H l = none → Q (.ref l) (upd H l (.lst ys))
theorem free_back {H H1 : Hp} {p : Addr} (s : Same H H1) (h : H1 p = none) : H p = none := s.free h
theorem el_cb {r : List V → Hp → VK → Prop} {ta : TA} (h : EFA ta σ H ds) (hr : ∀ vs H1, Same H H1 → FzAll H1 vs ds → ∀ Q : VK, (∀ p xs H2, H1 p = none → Same H1 H2 → H2 p = some (.lst xs) → FzAll H2 xs es → Q (.ref p) H2) → r vs H1 Q) : EL (tCB r ta) σ H es := fun H1 a Q q =>
  h H1 a _ fun vs H2 s f => hr vs H2 (a.trans s) f Q fun p xs H3 n s3 e f3 => q p xs H3 (s.free n) (s.trans s3) e f3
theorem el_listT (h : EF te σ H (.tuple ds)) : EL (tCB (rLstQ K) (tCons te tNil)) σ H ds := el_cb (ea_cons h ea_nil) fun vs H1 s f Q q => by
  obtain ⟨v, rfl, fv⟩ := f.oneI
  obtain ⟨p, xs, rfl, e, fa⟩ := fv.tupI
  exact ⟨p, xs, rfl, .inr (SqT.of e), fun l hl => q l xs _ hl (same_new hl) upd_same (fa.same (same_new hl))⟩
theorem el_listL (h : EF te σ H (.list ds)) : EL (tCB (rLstQ K) (tCons te tNil)) σ H ds := el_cb (ea_cons h ea_nil) fun vs H1 s f Q q => by
  obtain ⟨v, rfl, fv⟩ := f.oneI
  obtain ⟨p, xs, rfl, e, fa⟩ := fv.lstI
  exact ⟨p, xs, rfl, .inl (SqL.of e), fun l hl => q l xs _ hl (same_new hl) upd_same (fa.same (same_new hl))⟩
theorem e_all {bs : List Bool} (h : EF te σ H (.list (bs.map .bool))) : EF (tCB (rAll K) (tCons te tNil)) σ H (.bool (bs.all id)) := e_cb (ea_cons h ea_nil) fun vs H1 s f Q q => by
  obtain ⟨v, rfl, fv⟩ := f.oneI
  obtain ⟨p, xs, rfl, e, fa⟩ := fv.lstI
  obtain rfl := fz_bools fa
  exact ⟨p, bs, rfl, SqL.of e, q _ H1 (Same.refl _) (.bl _)⟩
theorem e_sum {ns : List Int} (h : EF te σ H (.list (ns.map .int))) : EF (tCB (rSum K) (tCons te tNil)) σ H (.int ns.sum) := e_cb (ea_cons h ea_nil) fun vs H1 s f Q q => by
  obtain ⟨v, rfl, fv⟩ := f.oneI
  obtain ⟨p, xs, rfl, e, fa⟩ := fv.lstI
  obtain rfl := fz_ints fa
  exact ⟨p, ns, rfl, SqL.of e, q _ H1 (Same.refl _) (.int _)⟩
abbrev rMin2 : List V → Hp → VK → Prop := fun xs H Q => ∃ i j, xs = [.int i, .int j] ∧ Q (.int (if j < i then j else i)) H
theorem e_min2 (ha : EF ta σ H (.int i)) (hb : EF tb σ H (.int j)) : EF (tCB rMin2 (tCons ta (tCons tb tNil))) σ H (.int (min i j)) := e_cb (ea_cons ha (ea_cons hb ea_nil)) fun vs H1 s f Q q => by
  cases f with
  | cons f1 t =>
    obtain ⟨w, rfl, f2⟩ := t.oneI
    cases f1; cases f2
    refine ⟨i, j, rfl, q _ H1 (Same.refl _) ?_⟩
    rw [show (if j < i then j else i) = min i j by
      by_cases h : j < i
      · rw [if_pos h]; omega
      · rw [if_neg h]; omega]
    exact .int _
end
end Tt

/-! Walks, comprehensions, calls, statements, by data. -/
namespace Tt
open PySem L2 RZ

/-! ### walks by data -/
def JOk (J : It) (H : Hp) (ds : List PyData) : Prop := ∀ i H3, Same H H3 → (i < ds.length → J.go i H3) ∧ (i = ds.length → J.stop i H3) ∧ ∀ x H', J.yld i H3 x H' → ∀ d, ds[i]? = some d → Same H3 H' ∧ Fz H' x d
def WF (wi : TI) (σ : St) (H : Hp) (ds : List PyData) : Prop := ∀ H1, Same H H1 → ∀ R : It → Hp → Prop, (∀ J H2, Same H1 H2 → JOk J H2 ds → R J H2) → wi σ H1 R
section
variable {K : PySem.W.Frag} {σ : St} {H H' : Hp} {ta tb te tx : TE} {t u : TT} {d e : PyData} {v : V} {r : R2} {ds es : List PyData} {i j : Int} {b c : Bool}
theorem WF.is {wi : TI} (h : WF wi σ H ds) (q : ds = es) : WF wi σ H es := q ▸ h
theorem w_tup (h : EF te σ H (.tuple ds)) : WF (iTup K te) σ H ds := fun H1 a R q => h H1 a _ fun v H2 s f => by
  obtain ⟨p, xs, rfl, e, fa⟩ := f.tupI
  refine ⟨p, rfl, ⟨xs, SqT.of e⟩, q _ H2 s fun i H3 s3 => ⟨fun hi => ?_, fun hi => ?_, fun x H' y d hd => ?_⟩⟩
  · exact walk_tup.goes i H3 (by rw [fa.len]; exact hi) (SqT.of (s3 _ _ e))
  · have h := (walk_tup (K := K) (a := p) (xs := xs)).stops H3 (SqT.of (s3 _ _ e))
    rw [fa.len, ← hi] at h
    exact h
  · have hi : i < xs.length := by
      rw [fa.len]
      exact (List.getElem?_eq_some_iff.mp hd).1
    obtain ⟨rfl, hx⟩ := walk_tup.yields i H3 x H' hi (SqT.of (s3 _ _ e)) y
    obtain ⟨w, hw, fw⟩ := fa.get hd
    rw [hw] at hx
    cases hx
    exact ⟨Same.refl _, fw.same s3⟩
theorem w_list (h : EF te σ H (.list ds)) : WF (iList K te) σ H ds := fun H1 a R q => h H1 a _ fun v H2 s f => by
  obtain ⟨p, xs, rfl, e, fa⟩ := f.lstI
  refine ⟨p, rfl, ⟨xs, SqL.of e⟩, q _ H2 s fun i H3 s3 => ⟨fun hi => ?_, fun hi => ?_, fun x H' y d hd => ?_⟩⟩
  · exact walk_list.goes i H3 (by rw [fa.len]; exact hi) (SqL.of (s3 _ _ e))
  · have h := (walk_list (K := K) (a := p) (xs := xs)).stops H3 (SqL.of (s3 _ _ e))
    rw [fa.len, ← hi] at h
    exact h
  · have hi : i < xs.length := by
      rw [fa.len]
      exact (List.getElem?_eq_some_iff.mp hd).1
    obtain ⟨rfl, hx⟩ := walk_list.yields i H3 x H' hi (SqL.of (s3 _ _ e)) y
    obtain ⟨w, hw, fw⟩ := fa.get hd
    rw [hw] at hx
    cases hx
    exact ⟨Same.refl _, fw.same s3⟩
theorem w_rng1 {ta : TA} {n : Nat} (h : EFA ta σ H [.int (n : Int)]) (hn : n ≤ 1000000) : WF (iRng1 ta) σ H ((List.range n).map fun (i : Nat) => .int (i : Int)) := fun H1 a R q => h H1 a _ fun vs H2 s f => by
  obtain ⟨v, rfl, fv⟩ := f.oneI
  cases fv
  refine ⟨n, rfl, by omega, by omega, q _ H2 s fun i H3 s3 => ?_⟩
  rw [Int.toNat_natCast, List.length_map, List.length_range]
  refine ⟨fun hi => walk_range.goes i H3 hi True.intro, fun hi => by rw [hi]; exact walk_range.stops H3 True.intro, fun x H' y d hd => ?_⟩
  have hi : i < n := by
    have := (List.getElem?_eq_some_iff.mp hd).1
    simpa using this
  obtain ⟨rfl, rfl⟩ := walk_range.yields i H3 x H' hi True.intro y
  rw [List.getElem?_map, List.getElem?_range hi] at hd
  cases hd
  refine ⟨Same.refl _, ?_⟩
  show Fz H' (.int (0 + (i : Int))) (.int (i : Int))
  rw [Int.zero_add]
  exact .int _
theorem w_rng2 {ta : TA} {lo n : Nat} (h : EFA ta σ H [.int (lo : Int), .int (n : Int)]) (hn : n ≤ 1000000) (hlo : lo ≤ 1000000) : WF (iRng2 ta) σ H ((List.range (n - lo)).map fun (i : Nat) => .int ((lo + i : Nat) : Int)) := fun H1 a R q => h H1 a _ fun vs H2 s f => by
  cases f with
  | cons f1 t =>
    obtain ⟨v, rfl, fv⟩ := t.oneI
    cases f1
    cases fv
    refine ⟨lo, n, rfl, ⟨by omega, by omega, by omega, by omega⟩, q _ H2 s fun i H3 s3 => ?_⟩
    have e : ((n : Int) - (lo : Int)).toNat = n - lo := by omega
    rw [e, List.length_map, List.length_range]
    refine ⟨fun hi => walk_range.goes i H3 hi True.intro, fun hi => by rw [hi]; exact walk_range.stops H3 True.intro, fun x H' y d hd => ?_⟩
    have hi : i < n - lo := by
      have := (List.getElem?_eq_some_iff.mp hd).1
      simpa using this
    obtain ⟨rfl, rfl⟩ := walk_range.yields i H3 x H' hi True.intro y
    rw [List.getElem?_map, List.getElem?_range hi] at hd
    cases hd
    refine ⟨Same.refl _, ?_⟩
    show Fz H' (.int ((lo : Int) + (i : Int))) (.int ((lo + i : Nat) : Int))
    rw [Int.natCast_add]
    exact .int _
/-- enumerate(list) -/
theorem w_enumL {ta : TA} (h : EFA ta σ H [.list ds]) : WF (iEnum K ta) σ H ((List.range ds.length).map fun (i : Nat) => .tuple [.int (i : Int), ds.getD i .none]) := fun H1 a R q => h H1 a _ fun vs H2 s f => by
  obtain ⟨v, rfl, fv⟩ := f.oneI
  obtain ⟨p, xs, rfl, e, fa⟩ := fv.lstI
  refine ⟨p, xs, rfl, SqL.of e, q _ H2 s fun i H3 s3 => ?_⟩
  rw [List.length_map, List.length_range]
  refine ⟨fun hi => walk_enum.goes i H3 (by rw [fa.len]; exact hi) (SqL.of (s3 _ _ e)), fun hi => by rw [hi, ← fa.len]; exact walk_enum.stops H3 (SqL.of (s3 _ _ e)), fun x H' y d hd => ?_⟩
  have hi : i < ds.length := by
    have := (List.getElem?_eq_some_iff.mp hd).1
    simpa using this
  obtain ⟨T, x1, x2, rfl, hT, rfl, h1, h2⟩ := walk_enum.yields i H3 x H' (by rw [fa.len]; exact hi) (SqL.of (s3 _ _ e)) y
  rw [List.getElem?_map, List.getElem?_range hi] at hd
  cases hd
  cases h1
  obtain ⟨dd, hdd, fd⟩ := fa.getV h2
  refine ⟨same_new hT, .tup upd_same (.cons (.int _) (.one ?_))⟩
  rw [List.getD_eq_getElem?_getD, hdd]
  exact (fd.same s3).same (same_new hT)
theorem zip_at {α β : Type} : ∀ {l : List α} {m : List β} {i : Nat} {a : α} {b : β}, l[i]? = some a → m[i]? = some b → (l.zip m)[i]? = some (a, b)
  | [], _, _, _, _, h, _ => by simp at h
  | _ :: _, [], _, _, _, _, h => by simp at h
  | x :: l, y :: m, 0, a, b, h, k => by
    simp at h k
    simp [h, k]
  | x :: l, y :: m, i + 1, a, b, h, k => by
    rw [List.zip_cons_cons, List.getElem?_cons_succ]
    exact zip_at (by simpa using h) (by simpa using k)
/-- zip of two lists of one length -/
theorem w_zipL {ta : TA} (h : EFA ta σ H [.list ds, .list es]) (hl : ds.length = es.length) : WF (iZip K ta) σ H ((ds.zip es).map fun p => .tuple [p.1, p.2]) := fun H1 a R q => h H1 a _ fun vs H2 s f => by
  cases f with
  | cons f1 t =>
    obtain ⟨v, rfl, fv⟩ := t.oneI
    obtain ⟨p1, xs, rfl, e1, fa⟩ := f1.lstI
    obtain ⟨p2, ys, rfl, e2, fb⟩ := fv.lstI
    refine ⟨p1, p2, xs, ys, rfl, SqL.of e1, SqL.of e2, q _ H2 s fun i H3 s3 => ?_⟩
    have hn : ds.length = min xs.length ys.length := by rw [fa.len, fb.len, ← hl]; omega
    have W := walk_zip (K := K) (a := p1) (b := p2) (xs := xs) (ys := ys) hn
    have G : SqL K H3 p1 xs ∧ SqL K H3 p2 ys := ⟨SqL.of (s3 _ _ e1), SqL.of (s3 _ _ e2)⟩
    rw [List.length_map, List.length_zip, ← hl, Nat.min_self]
    refine ⟨fun hi => W.goes i H3 hi G, fun hi => by rw [hi]; exact W.stops H3 G, fun x H' y d hd => ?_⟩
    have hi : i < ds.length := by
      have := (List.getElem?_eq_some_iff.mp hd).1
      simp at this
      omega
    obtain ⟨T, x1, x2, rfl, hT, rfl, h1, h2⟩ := W.yields i H3 x H' hi G y
    obtain ⟨d1, hd1, fd1⟩ := fa.getV h1
    obtain ⟨d2, hd2, fd2⟩ := fb.getV h2
    rw [List.getElem?_map, zip_at hd1 hd2] at hd
    cases hd
    exact ⟨same_new hT, .tup upd_same (.cons ((fd1.same s3).same (same_new hT)) (.one ((fd2.same s3).same (same_new hT))))⟩
theorem walk_zipT {a b : Addr} {xs ys : List V} {n : Nat} (hn : n = min xs.length ys.length) : Walk (ItzT K a b) n (fun H => SqT K H a xs ∧ SqT K H b ys) (YPair (fun i => xs[i]?) (fun i => ys[i]?)) := by
  subst hn
  refine ⟨fun i _ hi q => ?_, fun _ q => ⟨xs, ys, q.1, q.2, by omega⟩, fun i H v H' _ q y => ?_⟩
  · have h1 : i < xs.length := by omega
    have h2 : i < ys.length := by omega
    exact ⟨xs, ys, xs[i], ys[i], q.1, q.2, by simp [h1], by simp [h2]⟩
  · obtain ⟨T, x, z, h1, h2, h3, h4, h5⟩ := y
    exact ⟨T, x, z, h1, h2, h3, h4 xs q.1, h5 ys q.2⟩
theorem w_zipT {ta : TA} (h : EFA ta σ H [.tuple ds, .tuple es]) : WF (iZipA K ta) σ H ((ds.zip es).map fun p => .tuple [p.1, p.2]) := fun H1 a R q => h H1 a _ fun vs H2 s f => by
  cases f with
  | cons f1 t =>
    obtain ⟨v, rfl, fv⟩ := t.oneI
    obtain ⟨p1, xs, rfl, e1, fa⟩ := f1.tupI
    obtain ⟨p2, ys, rfl, e2, fb⟩ := fv.tupI
    refine ⟨p1, p2, xs, ys, rfl, .inr ⟨SqT.of e1, SqT.of e2, q _ H2 s fun i H3 s3 => ?_⟩⟩
    have hn : min ds.length es.length = min xs.length ys.length := by rw [fa.len, fb.len]
    have W := walk_zipT (K := K) (a := p1) (b := p2) (xs := xs) (ys := ys) hn
    have G : SqT K H3 p1 xs ∧ SqT K H3 p2 ys := ⟨SqT.of (s3 _ _ e1), SqT.of (s3 _ _ e2)⟩
    rw [List.length_map, List.length_zip]
    refine ⟨fun hi => W.goes i H3 hi G, fun hi => by rw [hi]; exact W.stops H3 G, fun x H' y d hd => ?_⟩
    have hi : i < min ds.length es.length := by
      have := (List.getElem?_eq_some_iff.mp hd).1
      simp at this
      omega
    obtain ⟨T, x1, x2, rfl, hT, rfl, h1, h2⟩ := W.yields i H3 x H' hi G y
    obtain ⟨d1, hd1, fd1⟩ := fa.getV h1
    obtain ⟨d2, hd2, fd2⟩ := fb.getV h2
    rw [List.getElem?_map, zip_at hd1 hd2] at hd
    cases hd
    exact ⟨same_new hT, .tup upd_same (.cons ((fd1.same s3).same (same_new hT)) (.one ((fd2.same s3).same (same_new hT))))⟩

/-! ### comprehensions -/
theorem filt_take {α : Type} {f : α → Bool} {xs : List α} {i : Nat} {x : α} (h : xs[i]? = some x) : (xs.take (i + 1)).filter f = (xs.take i).filter f ++ (if f x then [x] else []) := by
  rw [List.take_add_one, h, List.filter_append]
  cases e : f x <;> simp [e]
/-- the general one: P tells what the slots are behind the target -/
theorem el_lc {α : Type} {xs : List α} {enc : α → PyData} {f : α → Bool} {g : α → PyData} {wi : TI} {gt : TG} {tt : TT} {vs : List Nat} {σw : St} {P : α → St → Hp → Prop}
    (hw : WF wi σ H (xs.map enc)) (h1 : wipe σ vs = σw) (hz : xs.length ≤ 100000)
    (hs : ∀ x ∈ xs, ∀ y H1, Same H H1 → Fz H1 y (enc x) → ∀ R : St → Hp → Prop, (∀ σ2, wipe σ2 vs = σw → P x σ2 H1 → R σ2 H1) → gt y σw H1 R)
    (hg : ∀ x ∈ xs, f x = true → tupB (g x) = true)
    (ht : ∀ x ∈ xs, ∀ σ2 H1, Same H H1 → P x σ2 H1 → ET tt σ2 H1 (f x) ∧ (f x = true → EF te σ2 H1 (g x))) : EL (tLc wi gt tt te vs) σ H ((xs.filter f).map g) := fun H0 a Q q => hw H0 a _ fun J H1 s1 jok => by
  intro D hD
  have a1 := a.trans s1
  have dI : ∀ {i : Nat}, i < xs.length → ∃ x, xs[i]? = some x ∧ x ∈ xs := fun {i} hi => ⟨xs[i], by simp [hi], by simp⟩
  have W : Walk J xs.length (fun H => Same H1 H) (fun i H3 x H' => Same H3 H' ∧ ∀ z, xs[i]? = some z → Fz H' x (enc z)) := by
    refine ⟨fun i H3 hi s => (jok i H3 s).1 (by simpa using hi), fun H3 s => (jok _ H3 s).2.1 (by simp), fun i H3 x H' hi s y => ?_⟩
    obtain ⟨z, hz, _⟩ := dI hi
    obtain ⟨r1, r2⟩ := (jok i H3 s).2.2 x H' y (enc z) (by simp [hz])
    exact ⟨r1, fun z' hz' => by
      rw [hz] at hz'
      cases hz'
      exact r2⟩
  refine lc_it W (fun i H => Same H1 H ∧ ∃ acc, H D = some (.lst acc) ∧ FzAll H acc (((xs.take i).filter f).map g)) ⟨same_new hD, [], upd_same, by simpa using FzAll.nil⟩ (fun i H _ p => p.1) ?_ ?_
  · rintro i x H3 H' hi ⟨s3, acc, hacc, facc⟩ ⟨s4, hx⟩
    obtain ⟨z, hz, hm⟩ := dI hi
    have s5 := s3.trans s4
    rw [h1]
    refine hs z hm x H' (a1.trans s5) (hx z hz) _ fun σ2 hw2 hP => ⟨hw2, ?_⟩
    obtain ⟨hT, hE⟩ := ht z hm σ2 H' (a1.trans s5) hP
    refine hT.go fun H6 s6 => ?_
    have hD6 : H6 D = some (.lst acc) := s6 _ _ (s4 _ _ hacc)
    cases e : f z with
    | true =>
      show te σ2 H6 _
      have hE1 := hE e
      have hE2 := hg z hm e
      refine (hE1.mono s6).go fun y H7 s7 f7 => ?_
      have hD7 : H7 D = some (.lst acc) := s7 _ _ hD6
      have fa7 : FzAll H7 acc (((xs.take i).filter f).map g) := facc.same ((s4.trans s6).trans s7)
      have tb : tupsB (((xs.take i).filter f).map g) = true := by
        rw [tupsB_iff]
        intro d hd
        obtain ⟨w, hw, rfl⟩ := List.mem_map.mp hd
        obtain ⟨hw1, hw2⟩ := List.mem_filter.mp hw
        exact hg w (List.mem_of_mem_take hw1) hw2
      have tk := tk_upd (o' := .lst (acc ++ [y])) hD7 (fun xs z => by cases z)
      refine ⟨acc, hD7, ?_, ?_, acc ++ [y], upd_same, ?_⟩
      · rw [facc.len, List.length_map]
        have l1 := List.length_filter_le f (xs.take i)
        rw [List.length_take] at l1
        exact Nat.lt_of_le_of_lt (m := 100000) (by omega) (by decide)
      · intro b o hb
        rw [upd_ne (ne_of_none hb hD)]
        exact s7 _ _ (s6 _ _ (s5 _ _ hb))
      · rw [filt_take hz, e, if_pos rfl, List.map_append]
        exact (fa7.tk tk tb).snoc (f7.tk tk hE2)
    | false =>
      show Same H1 H6 ∧ _
      refine ⟨s5.trans s6, acc, hD6, ?_⟩
      rw [filt_take hz, e, if_neg (by decide), List.append_nil]
      exact facc.same (s4.trans s6)
  · rintro H3 ⟨s3, acc, hacc, facc⟩
    rw [List.take_length] at facc
    exact q D acc H3 (s1.free hD) (s1.trans s3) hacc facc
end
end Tt

namespace Tt
open PySem L2 RZ
section
variable {K : PySem.W.Frag} {σ : St} {H H' : Hp} {ta tb te tx : TE} {t u : TT} {d e : PyData} {v : V} {r : R2} {ds es : List PyData} {i j : Int} {b c : Bool}
/-! ### comprehensions, by the form of the target -/
section
variable {α : Type} {xs : List α} {enc e1 e2 e3 : α → PyData} {f : α → Bool} {g : α → PyData} {wi : TI} {tt : TT} {vs : List Nat} {σw : St} {j1 j2 j3 : Nat}
theorem el_flt1 (hw : WF wi σ H (xs.map enc)) (hz : xs.length ≤ 100000) (hg : ∀ x ∈ xs, f x = true → tupB (g x) = true)
    (ht : ∀ x ∈ xs, ∀ y H1, Same H H1 → Fz H1 y (enc x) → ET tt (σw.set j1 (some y)) H1 (f x) ∧ (f x = true → EF te (σw.set j1 (some y)) H1 (g x)))
    (h1 : wipe σ vs = σw := by rfl) (h2 : ∀ y, wipe (σw.set j1 (some y)) vs = σw := by intro _; rfl) : EL (tLc wi (gName j1) tt te vs) σ H ((xs.filter f).map g) :=
  el_lc (P := fun x σ2 H1 => ∃ y, σ2 = σw.set j1 (some y) ∧ Fz H1 y (enc x)) hw h1 hz (fun x hx y H1 s fy R k => k _ (h2 y) ⟨y, rfl, fy⟩) hg (fun x hx σ2 H1 s p => by
    obtain ⟨y, rfl, fy⟩ := p
    exact ht x hx y H1 s fy)
theorem el_map1 (hw : WF wi σ H (xs.map enc)) (hz : xs.length ≤ 100000) (hg : ∀ x ∈ xs, tupB (g x) = true)
    (ht : ∀ x ∈ xs, ∀ y H1, Same H H1 → Fz H1 y (enc x) → EF te (σw.set j1 (some y)) H1 (g x))
    (h1 : wipe σ vs = σw := by rfl) (h2 : ∀ y, wipe (σw.set j1 (some y)) vs = σw := by intro _; rfl) : EL (tLc wi (gName j1) tYes te vs) σ H (xs.map g) := by
  have h := el_flt1 (f := fun _ => true) (tt := tYes) hw hz (fun x hx _ => hg x hx) (fun x hx y H1 s fy => ⟨t_yes, fun _ => ht x hx y H1 s fy⟩) h1 h2
  rw [List.filter_eq_self.mpr (by simp)] at h
  exact h
abbrev g2 (K : PySem.W.Frag) (j1 j2 : Nat) : TG := gTup K 2 (gCons (gName j1) (gCons (gName j2) gNil))
abbrev g3 (K : PySem.W.Frag) (j1 j2 j3 : Nat) : TG := gTup K 3 (gCons (gName j1) (gCons (gName j2) (gCons (gName j3) gNil)))
theorem g2_go {y : V} {d1 d2 : PyData} {R : St → Hp → Prop} (f : Fz H y (.tuple [d1, d2])) (k : ∀ y1 y2, Fz H y1 d1 → Fz H y2 d2 → R ((σ.set j1 (some y1)).set j2 (some y2)) H) : g2 K j1 j2 y σ H R := by
  obtain ⟨a, xs, rfl, e, fa⟩ := f.tupI
  cases fa with
  | cons f1 t =>
    obtain ⟨w, rfl, f2⟩ := t.oneI
    exact ⟨a, _, rfl, SqT.of e, rfl, _, _, rfl, _, _, rfl, rfl, k _ _ f1 f2⟩
theorem g3_go {y : V} {d1 d2 d3 : PyData} {R : St → Hp → Prop} (f : Fz H y (.tuple [d1, d2, d3])) (k : ∀ y1 y2 y3, Fz H y1 d1 → Fz H y2 d2 → Fz H y3 d3 → R (((σ.set j1 (some y1)).set j2 (some y2)).set j3 (some y3)) H) : g3 K j1 j2 j3 y σ H R := by
  obtain ⟨a, xs, rfl, e, fa⟩ := f.tupI
  cases fa with
  | cons f1 t =>
    cases t with
    | cons f2 t =>
      obtain ⟨w, rfl, f3⟩ := t.oneI
      exact ⟨a, _, rfl, SqT.of e, rfl, _, _, rfl, _, _, rfl, _, _, rfl, rfl, k _ _ _ f1 f2 f3⟩
theorem el_flt2 (hw : WF wi σ H (xs.map fun x => .tuple [e1 x, e2 x])) (hz : xs.length ≤ 100000) (hg : ∀ x ∈ xs, f x = true → tupB (g x) = true)
    (ht : ∀ x ∈ xs, ∀ y1 y2 H1, Same H H1 → Fz H1 y1 (e1 x) → Fz H1 y2 (e2 x) → ET tt ((σw.set j1 (some y1)).set j2 (some y2)) H1 (f x) ∧ (f x = true → EF te ((σw.set j1 (some y1)).set j2 (some y2)) H1 (g x)))
    (h1 : wipe σ vs = σw := by rfl) (h2 : ∀ y1 y2, wipe ((σw.set j1 (some y1)).set j2 (some y2)) vs = σw := by intro _ _; rfl) : EL (tLc wi (g2 K j1 j2) tt te vs) σ H ((xs.filter f).map g) :=
  el_lc (P := fun x σ2 H1 => ∃ y1 y2, σ2 = (σw.set j1 (some y1)).set j2 (some y2) ∧ Fz H1 y1 (e1 x) ∧ Fz H1 y2 (e2 x)) hw h1 hz (fun x hx y H1 s fy R k => g2_go fy fun y1 y2 f1 f2 => k _ (h2 y1 y2) ⟨y1, y2, rfl, f1, f2⟩) hg (fun x hx σ2 H1 s p => by
    obtain ⟨y1, y2, rfl, f1, f2⟩ := p
    exact ht x hx y1 y2 H1 s f1 f2)
theorem el_map2 (hw : WF wi σ H (xs.map fun x => .tuple [e1 x, e2 x])) (hz : xs.length ≤ 100000) (hg : ∀ x ∈ xs, tupB (g x) = true)
    (ht : ∀ x ∈ xs, ∀ y1 y2 H1, Same H H1 → Fz H1 y1 (e1 x) → Fz H1 y2 (e2 x) → EF te ((σw.set j1 (some y1)).set j2 (some y2)) H1 (g x))
    (h1 : wipe σ vs = σw := by rfl) (h2 : ∀ y1 y2, wipe ((σw.set j1 (some y1)).set j2 (some y2)) vs = σw := by intro _ _; rfl) : EL (tLc wi (g2 K j1 j2) tYes te vs) σ H (xs.map g) := by
  have h := el_flt2 (K := K) (f := fun _ => true) (tt := tYes) hw hz (fun x hx _ => hg x hx) (fun x hx y1 y2 H1 s f1 f2 => ⟨t_yes, fun _ => ht x hx y1 y2 H1 s f1 f2⟩) h1 h2
  rw [List.filter_eq_self.mpr (by simp)] at h
  exact h
theorem el_flt3 (hw : WF wi σ H (xs.map fun x => .tuple [e1 x, e2 x, e3 x])) (hz : xs.length ≤ 100000) (hg : ∀ x ∈ xs, f x = true → tupB (g x) = true)
    (ht : ∀ x ∈ xs, ∀ y1 y2 y3 H1, Same H H1 → Fz H1 y1 (e1 x) → Fz H1 y2 (e2 x) → Fz H1 y3 (e3 x) → ET tt (((σw.set j1 (some y1)).set j2 (some y2)).set j3 (some y3)) H1 (f x) ∧ (f x = true → EF te (((σw.set j1 (some y1)).set j2 (some y2)).set j3 (some y3)) H1 (g x)))
    (h1 : wipe σ vs = σw := by rfl) (h2 : ∀ y1 y2 y3, wipe (((σw.set j1 (some y1)).set j2 (some y2)).set j3 (some y3)) vs = σw := by intro _ _ _; rfl) : EL (tLc wi (g3 K j1 j2 j3) tt te vs) σ H ((xs.filter f).map g) :=
  el_lc (P := fun x σ2 H1 => ∃ y1 y2 y3, σ2 = ((σw.set j1 (some y1)).set j2 (some y2)).set j3 (some y3) ∧ Fz H1 y1 (e1 x) ∧ Fz H1 y2 (e2 x) ∧ Fz H1 y3 (e3 x)) hw h1 hz (fun x hx y H1 s fy R k => g3_go fy fun y1 y2 y3 f1 f2 f3 => k _ (h2 y1 y2 y3) ⟨y1, y2, y3, rfl, f1, f2, f3⟩) hg (fun x hx σ2 H1 s p => by
    obtain ⟨y1, y2, y3, rfl, f1, f2, f3⟩ := p
    exact ht x hx y1 y2 y3 H1 s f1 f2 f3)
theorem el_map3 (hw : WF wi σ H (xs.map fun x => .tuple [e1 x, e2 x, e3 x])) (hz : xs.length ≤ 100000) (hg : ∀ x ∈ xs, tupB (g x) = true)
    (ht : ∀ x ∈ xs, ∀ y1 y2 y3 H1, Same H H1 → Fz H1 y1 (e1 x) → Fz H1 y2 (e2 x) → Fz H1 y3 (e3 x) → EF te (((σw.set j1 (some y1)).set j2 (some y2)).set j3 (some y3)) H1 (g x))
    (h1 : wipe σ vs = σw := by rfl) (h2 : ∀ y1 y2 y3, wipe (((σw.set j1 (some y1)).set j2 (some y2)).set j3 (some y3)) vs = σw := by intro _ _ _; rfl) : EL (tLc wi (g3 K j1 j2 j3) tYes te vs) σ H (xs.map g) := by
  have h := el_flt3 (K := K) (f := fun _ => true) (tt := tYes) hw hz (fun x hx _ => hg x hx) (fun x hx y1 y2 y3 H1 s f1 f2 f3 => ⟨t_yes, fun _ => ht x hx y1 y2 y3 H1 s f1 f2 f3⟩) h1 h2
  rw [List.filter_eq_self.mpr (by simp)] at h
  exact h
end
/-! ### promises by data, calls -/
def spP (R : List PyData → PyData → Prop) : Sp := fun vs H Q _ => ∃ ds d, FzAll H vs ds ∧ R ds d ∧ ∀ v H', Same H H' → Fz H' v d → Q v H'
theorem spP_len {R : List PyData → PyData → Prop} {n : Nat} (h : ∀ ds d, R ds d → ds.length = n) (vs : List V) (H : Hp) (Q : VK) (E : XK) (s : spP R vs H Q E) : vs.length = n := by
  obtain ⟨ds, d, f, r, _⟩ := s
  rw [f.len, h _ _ r]
theorem e_call {R : List PyData → PyData → Prop} {E : XK} {ta : TA} (h : EFA ta σ H ds) (hr : R ds d) : EF (tCall (spP R) [] E ta) σ H d := fun H1 a Q q =>
  h H1 a _ fun vs H2 s f => by
    show spP R (vs ++ []) H2 Q E
    rw [List.append_nil]
    exact ⟨ds, d, f, hr, fun v H3 s3 f3 => q v H3 (s.trans s3) f3⟩
/-- the answer, where one stands in a def's body -/
theorem EF.ret {D : Ends} (h : EF te σ H d) (k : ∀ v H', Same H H' → Fz H' v d → D.rt v H') : tRet te D σ H := h.go k
/-! ### statements -/
variable {D : Ends} {w : TS} {tu tw : TS}
theorem s_asg {n : Nat} (h : EF te σ H d) (k : ∀ v H1, Same H H1 → Fz H1 v d → w D (σ.set n (some v)) H1) : tSeq (tAsg te (gName n)) w D σ H := h.go fun v H1 s f => k v H1 s f
theorem s_asg1 {n : Nat} (h : EF te σ H d) (k : ∀ v H1, Same H H1 → Fz H1 v d → D.nx (σ.set n (some v)) H1) : tAsg te (gName n) D σ H := h.go fun v H1 s f => k v H1 s f
theorem s_asgL {n : Nat} (h : EL te σ H ds) (k : ∀ p xs H1, H p = none → Same H H1 → H1 p = some (.lst xs) → FzAll H1 xs ds → w D (σ.set n (some (.ref p))) H1) : tSeq (tAsg te (gName n)) w D σ H := h.go k
theorem s_asg2 {n1 n2 : Nat} {d1 d2 : PyData} (h : EF te σ H (.tuple [d1, d2])) (k : ∀ v1 v2 H1, Same H H1 → Fz H1 v1 d1 → Fz H1 v2 d2 → w D ((σ.set n1 (some v1)).set n2 (some v2)) H1) : tSeq (tAsg te (g2 K n1 n2)) w D σ H :=
  h.go fun v H1 s f => g2_go f fun y1 y2 f1 f2 => k y1 y2 H1 s f1 f2
theorem s_asg3 {n1 n2 n3 : Nat} {d1 d2 d3 : PyData} (h : EF te σ H (.tuple [d1, d2, d3])) (k : ∀ v1 v2 v3 H1, Same H H1 → Fz H1 v1 d1 → Fz H1 v2 d2 → Fz H1 v3 d3 → w D (((σ.set n1 (some v1)).set n2 (some v2)).set n3 (some v3)) H1) : tSeq (tAsg te (g3 K n1 n2 n3)) w D σ H :=
  h.go fun v H1 s f => g3_go f fun y1 y2 y3 f1 f2 f3 => k y1 y2 y3 H1 s f1 f2 f3
theorem s_if (h : ET t σ H b) (k1 : b = true → ∀ H1, Same H H1 → tu D σ H1) (k2 : b = false → ∀ H1, Same H H1 → tw D σ H1) : tIfS t tu tw D σ H := h.go fun H1 s => by
  cases b with
  | true => exact k1 rfl H1 s
  | false => exact k2 rfl H1 s
/-- an if that leaves where it holds -/
theorem s_ifQ (h : ET t σ H b) (k1 : b = true → ∀ H1, Same H H1 → tu { D with nx := w D } σ H1) (k2 : b = false → ∀ H1, Same H H1 → w D σ H1) : tSeq (tIfS t tu tNext) w D σ H := h.go fun H1 s => by
  cases b with
  | true => exact k1 rfl H1 s
  | false => exact k2 rfl H1 s
theorem s_if2 (h : ET t σ H b) (k1 : b = true → ∀ H1, Same H H1 → tu { D with nx := w D } σ H1) (k2 : b = false → ∀ H1, Same H H1 → tw { D with nx := w D } σ H1) : tSeq (tIfS t tu tw) w D σ H := h.go fun H1 s => by
  cases b with
  | true => exact k1 rfl H1 s
  | false => exact k2 rfl H1 s
/-- a loop whose turns only add to the heap: Pv B: B the heap at the loop's begin -/
theorem s_for {α : Type} {xs : List α} {enc : α → PyData} {wi : TI} {gt : TG} {tb : TS} (hw : WF wi σ H (xs.map enc)) (Pv : Hp → Nat → St → Hp → Prop) (h0 : ∀ H1, Same H H1 → Pv H1 0 σ H1) (hS : ∀ B i σ' H', Same H B → Pv B i σ' H' → Same B H')
    (hs : ∀ B i x σ' H' y H2, Same H B → xs[i]? = some x → Pv B i σ' H' → Same H' H2 → Fz H2 y (enc x) → gt y σ' H2 fun σ2 H3 => tb { D with nx := Pv B (i + 1), ct := Pv B (i + 1), bk := w D } σ2 H3)
    (hd : ∀ B σ' H', Same H B → Pv B xs.length σ' H' → w D σ' H') : tSeq (tFor wi gt tb) w D σ H := by
  refine hw H (Same.refl H) _ fun J H1 s1 jok => ?_
  have W : Walk J xs.length (fun H => Same H1 H) (fun i H3 x H' => Same H3 H' ∧ ∀ z, xs[i]? = some z → Fz H' x (enc z)) := by
    refine ⟨fun i H3 hi s => (jok i H3 s).1 (by simpa using hi), fun H3 s => (jok _ H3 s).2.1 (by simp), fun i H3 x H' hi s y => ?_⟩
    have hz : xs[i]? = some xs[i] := by simp [hi]
    obtain ⟨r1, r2⟩ := (jok i H3 s).2.2 x H' y (enc xs[i]) (by simp [hz])
    exact ⟨r1, fun z' hz' => by
      rw [hz] at hz'
      cases hz'
      exact r2⟩
  refine for_it (D := { D with nx := w D }) W (fun i σ' H' => Pv H1 i σ' H') (h0 H1 s1) (fun i σ' H' _ p => hS H1 i σ' H' s1 p) ?_ (fun σ' H' p => hd H1 σ' H' s1 p)
  rintro i x σ' H' H2 hi p ⟨s2, hx⟩
  have hz : xs[i]? = some xs[i] := by simp [hi]
  exact hs H1 i xs[i] σ' H' x H2 s1 hz p s2 (hx _ hz)
end
end Tt

/-! What the top has written (printed by wip/genh.py). -/
namespace Tt
open PySem PySem.Spec PyProof.Rows L2
open C8 (Cal Met Mak)

/-- what the top has written -/
structure Tx (K : PySem.W.Frag) (mg : Str → Option Value) : Prop where
  c : He.SaysD fa fn K
  h : ∃ hp : Heap, K.In hp ∧ hp.Ns mainGlobals mg
section
variable {P : Program} {w : World} {K : PySem.W.Frag} {mg : Str → Option Value} {base : Heap}
theorem Tx.glo (T : Tx K mg) (i : Nat) {x : Str} (h : fa[i]? = some (.glo x)) : mg x = some (.ref (He.ga K x)) := let ⟨_, X, G⟩ := T.h; He.glo_ok X G (T.c.fact i h)
theorem Tx.free (T : Tx K mg) (i : Nat) {x : Str} (h : fa[i]? = some (.free x)) : mg x = none := let ⟨_, X, G⟩ := T.h; He.free_ok X G (T.c.fact i h)
theorem Tx.con (T : Tx K mg) (i : Nat) {x : Str} {n : Int} (h : fa[i]? = some (.int x n)) : ∃ u, mg x = some u ∧ RelV (.int n) u := let ⟨_, X, G⟩ := T.h; let ⟨t, e⟩ := He.int_ok X G (T.c.fact i h); ⟨_, e, t, rfl⟩

theorem Tx.n_len (T : Tx K mg) : mg "len" = none := T.free 69 rfl
theorem Tx.n_range (T : Tx K mg) : mg "range" = none := T.free 70 rfl
theorem Tx.n_all (T : Tx K mg) : mg "all" = none := T.free 71 rfl
theorem Tx.n_isinstance (T : Tx K mg) : mg "isinstance" = none := T.free 72 rfl
theorem Tx.n_tuple (T : Tx K mg) : mg "tuple" = none := T.free 73 rfl
theorem Tx.n_sorted (T : Tx K mg) : mg "sorted" = none := T.free 74 rfl
theorem Tx.n_list (T : Tx K mg) : mg "list" = none := T.free 75 rfl
theorem Tx.n_zip (T : Tx K mg) : mg "zip" = none := T.free 76 rfl
theorem Tx.n_enumerate (T : Tx K mg) : mg "enumerate" = none := T.free 77 rfl
theorem Tx.n_min (T : Tx K mg) : mg "min" = none := T.free 78 rfl
theorem Tx.n_sum (T : Tx K mg) : mg "sum" = none := T.free 79 rfl
theorem Tx.n_abs (T : Tx K mg) : mg "abs" = none := T.free 80 rfl
theorem Tx.n_int (T : Tx K mg) : mg "int" = none := T.free 81 rfl
theorem Tx.n_bool (T : Tx K mg) : mg "bool" = none := T.free 82 rfl
theorem Tx.n_str (T : Tx K mg) : mg "str" = none := T.free 83 rfl
theorem Tx.c_MOST_VARIABLE (T : Tx K mg) : ∃ u, mg "MOST_VARIABLE" = some u ∧ RelV (.int 5) u := T.con 84 rfl
theorem Tx.c_WIDEST_SCOPE (T : Tx K mg) : ∃ u, mg "WIDEST_SCOPE" = some u ∧ RelV (.int 3) u := T.con 85 rfl
theorem Tx.c_MOST_NODES (T : Tx K mg) : ∃ u, mg "MOST_NODES" = some u ∧ RelV (.int 5) u := T.con 86 rfl
theorem Tx.c_MOST_ON_WAY (T : Tx K mg) : ∃ u, mg "MOST_ON_WAY" = some u ∧ RelV (.int 40) u := T.con 87 rfl
theorem Tx.c_MOST_COST (T : Tx K mg) : ∃ u, mg "MOST_COST" = some u ∧ RelV (.int 100) u := T.con 88 rfl
theorem Tx.c_MOST_COMMANDS (T : Tx K mg) : ∃ u, mg "MOST_COMMANDS" = some u ∧ RelV (.int 20) u := T.con 89 rfl
abbrev CTalk (K : PySem.W.Frag) : Addr := He.ga K "Talk"
theorem Tx.cls_Talk (T : Tx K mg) : Cls K (CTalk K) := He.cls_ok (T.c.fact 90 rfl)
theorem Tx.mk_Talk (T : Tx K mg) : Mk K (CTalk K) (He.ma K (CTalk K) "__init__") := He.mkr_ok (T.c.fact 91 rfl)
theorem Tx.no_Talk_graph (T : Tx K mg) : NoAttr K (CTalk K) "graph" := He.noat_ok (T.c.fact 92 rfl)
theorem Tx.no_Talk_tables (T : Tx K mg) : NoAttr K (CTalk K) "tables" := He.noat_ok (T.c.fact 93 rfl)
theorem Tx.no_Talk_sent (T : Tx K mg) : NoAttr K (CTalk K) "sent" := He.noat_ok (T.c.fact 94 rfl)
theorem Tx.no_Talk_kept (T : Tx K mg) : NoAttr K (CTalk K) "kept" := He.noat_ok (T.c.fact 95 rfl)
theorem Tx.no_Talk_on_way (T : Tx K mg) : NoAttr K (CTalk K) "on_way" := He.noat_ok (T.c.fact 96 rfl)
theorem Tx.me_Talk_copied (T : Tx K mg) : Meth K (CTalk K) "copied" (He.ma K (CTalk K) "copied") := He.meth_ok (T.c.fact 97 rfl)
theorem Tx.me_Talk_kept_messages (T : Tx K mg) : Meth K (CTalk K) "kept_messages" (He.ma K (CTalk K) "kept_messages") := He.meth_ok (T.c.fact 98 rfl)
theorem Tx.me_Talk_put (T : Tx K mg) : Meth K (CTalk K) "put" (He.ma K (CTalk K) "put") := He.meth_ok (T.c.fact 99 rfl)
theorem Tx.me_Talk_update (T : Tx K mg) : Meth K (CTalk K) "update" (He.ma K (CTalk K) "update") := He.meth_ok (T.c.fact 100 rfl)
theorem Tx.me_Talk_arrive (T : Tx K mg) : Meth K (CTalk K) "arrive" (He.ma K (CTalk K) "arrive") := He.meth_ok (T.c.fact 101 rfl)
theorem Tx.me_Talk_is_settled (T : Tx K mg) : Meth K (CTalk K) "is_settled" (He.ma K (CTalk K) "is_settled") := He.meth_ok (T.c.fact 102 rfl)
theorem Tx.me_Talk_settle (T : Tx K mg) : Meth K (CTalk K) "settle" (He.ma K (CTalk K) "settle") := He.meth_ok (T.c.fact 103 rfl)
theorem Tx.me_Talk_set_row (T : Tx K mg) : Meth K (CTalk K) "set_row" (He.ma K (CTalk K) "set_row") := He.meth_ok (T.c.fact 104 rfl)
theorem Tx.me_Talk_resend (T : Tx K mg) : Meth K (CTalk K) "resend" (He.ma K (CTalk K) "resend") := He.meth_ok (T.c.fact 105 rfl)
abbrev CNetwork (K : PySem.W.Frag) : Addr := He.ga K "Network"
theorem Tx.cls_Network (T : Tx K mg) : Cls K (CNetwork K) := He.cls_ok (T.c.fact 106 rfl)
theorem Tx.mk_Network (T : Tx K mg) : Mk K (CNetwork K) (He.ma K (CNetwork K) "__init__") := He.mkr_ok (T.c.fact 107 rfl)
theorem Tx.no_Network_graph (T : Tx K mg) : NoAttr K (CNetwork K) "graph" := He.noat_ok (T.c.fact 108 rfl)
theorem Tx.no_Network_talks (T : Tx K mg) : NoAttr K (CNetwork K) "talks" := He.noat_ok (T.c.fact 109 rfl)
theorem Tx.no_Network_commands (T : Tx K mg) : NoAttr K (CNetwork K) "commands" := He.noat_ok (T.c.fact 110 rfl)
theorem Tx.no_Network_told (T : Tx K mg) : NoAttr K (CNetwork K) "told" := He.noat_ok (T.c.fact 111 rfl)
theorem Tx.me_Network_act (T : Tx K mg) : Meth K (CNetwork K) "act" (He.ma K (CNetwork K) "act") := He.meth_ok (T.c.fact 112 rfl)
theorem Tx.me_Network_records (T : Tx K mg) : Meth K (CNetwork K) "records" (He.ma K (CNetwork K) "records") := He.meth_ok (T.c.fact 113 rfl)
/-- a def's body: no exception leaves it -/
theorem okD {x qual : Str} {params : Arguments} {body : List Stmt} {scope : Scope} {f : Addr} {fd : FuncData} {N ps : List Str} {k : Nat} {sp : Sp} (F : FunD K x qual params body scope [] [] f fd) (S : FnScope N ps scope) (len : ∀ vs H Q E, sp vs H Q E → vs.length = ps.length)
    (hbody : ∀ (cdv : Value) (A : Around) (outer : List Env) (s : Shared) (H : Hp) (vs : List V) (Q : VK) (E : XK), Room k (A.deeper (envOfC qual scope s.heap.objs.size f cdv)) → sp vs H Q E →
      ∃ t, PSs (cxOf L2.CX0 P w K mg base N qual scope f cdv A outer s H E).nox body t ∧ t { nx := fun _ H' => Q .non H', rt := Q } (start N vs) H) : FnOk P w K mg base L2.CX0 (k + 1) f fd ps sp :=
  F.ok S len fun cdv A outer s H vs Q E hr h => let ⟨t, a, b⟩ := hbody cdv A outer s H vs Q E hr h; ⟨t, a.nox, b⟩
abbrev BodyOk (P : Program) (w : World) (K : PySem.W.Frag) (mg : Str → Option Value) (base : Heap) (N : List Str) (qual : Str) (st : Stmt) (k : Nat) (sp : Sp) : Prop :=
  ∀ (f : Addr) (cdv : Value) (A : Around) (outer : List Env) (s : Shared) (H : Hp) (vs : List V) (Q : VK) (E : XK), Room k (A.deeper (envOfC qual (defScope st) s.heap.objs.size f cdv)) → sp vs H Q E →
      ∃ t, PSs (cxOf L2.CX0 P w K mg base N qual (defScope st) f cdv A outer s H E).nox (defBody st) t ∧ t { nx := fun _ H' => Q .non H', rt := Q } (start N vs) H
theorem Tx.cal (T : Tx K mg) (i j : Nat) {x : Str} {st : Stmt} {N ps : List Str} {k : Nat} {sp : Sp} (hd : fn[i]? = some ⟨(x, none), x, x, defArgs st, defBody st, defScope st, [], []⟩) (hg : fa[j]? = some (.glo x)) (S : FnScope N ps (defScope st))
    (hb : ∀ (kV doc pm : Value) (an : Option Addr) (cdv ct : Value) (us : List Value), us.length = ps.length → bindArgs (PySem.W.fnOf x x (defArgs st) (defBody st) (defScope st) .none kV doc pm an cdv ct) ⟨us, []⟩ = pure (ps.zip us))
    (len : ∀ vs H Q E, sp vs H Q E → vs.length = ps.length) (body : BodyOk P w K mg base N x st k sp) : Cal P w K mg base (k + 1) x sp [] := by
  obtain ⟨fd, F⟩ := T.c.def_ i hd
  exact ⟨_, fd, ps, [], okD F S len (body _), T.glo j hg, F.kp, F.bindsN hb, .nil⟩
theorem Tx.met (T : Tx K mg) (i : Nat) {c x q : Str} {st : Stmt} {N ps : List Str} {k : Nat} {sp : Sp} (hd : fn[i]? = some ⟨(c, some x), x, q, defArgs st, defBody st, defScope st, [], []⟩) (hc : Cls K (He.ga K c)) (hm : Meth K (He.ga K c) x (He.ma K (He.ga K c) x)) (S : FnScope N ps (defScope st))
    (hb : ∀ (kV doc pm : Value) (an : Option Addr) (cdv ct : Value) (us : List Value), us.length = ps.length → bindArgs (PySem.W.fnOf x q (defArgs st) (defBody st) (defScope st) .none kV doc pm an cdv ct) ⟨us, []⟩ = pure (ps.zip us))
    (len : ∀ vs H Q E, sp vs H Q E → vs.length = ps.length) (body : BodyOk P w K mg base N q st k sp) : Met P w K mg base (k + 1) (He.ga K c) x sp [] := by
  obtain ⟨fd, F⟩ := T.c.def_ i hd
  exact ⟨_, fd, ps, [], hc, hm, okD F S len (body _), F.bindsN hb, .nil⟩
theorem hu65 {A : Around} {k : Nat} (hr : Room k A) : A.units + 65 < cLine := by have := hr.un; omega
end
end Tt

/-! The rules that speak of the written part, with that part said (so that they serve within a comprehension's block). -/
namespace Tt
open PySem PySem.Spec PyProof.Rows L2 RZ
section
variable {X : Cx} {K : PySem.W.Frag}
theorem k_ixT (hK : X.K = K := by rfl) : IxR X (rIxT K) := by subst hK; exact ix_tup
theorem k_ixL (hK : X.K = K := by rfl) : IxR X (rIxL K) := by subst hK; exact ix_list
theorem k_slL (hK : X.K = K := by rfl) : SlR X (rSlL K) := by subst hK; exact sl_list
theorem k_slA (hK : X.K = K := by rfl) : SlR X (rSlA K) := by subst hK; exact sl_tupA
theorem k_in (hK : X.K = K := by rfl) : OpR X (compareOp .In) (rIn K false) := by subst hK; exact op_in_seq
theorem k_nin (hK : X.K = K := by rfl) : OpR X (compareOp .NotIn) (rIn K true) := by subst hK; exact op_notIn_seq
theorem k_inD (hu : X.A.units + 65 < cLine) (hK : X.K = K := by rfl) : OpR X (compareOp .In) (rInD K) := by subst hK; exact op_inD hu
theorem k_ninD (hu : X.A.units + 65 < cLine) (hK : X.K = K := by rfl) : OpR X (compareOp .NotIn) (rNotInD K) := by subst hK; exact op_notInD hu
theorem k_eqD (hu : X.A.units + 64 < cLine) (hK : X.K = K := by rfl) : OpR X (compareOp .Eq) (rEqD K) := by subst hK; exact op_eqD hu
theorem k_neD (hu : X.A.units + 64 < cLine) (hK : X.K = K := by rfl) : OpR X (compareOp .NotEq) (rNeD K) := by subst hK; exact op_neD hu
theorem k_ltT (hu : X.A.units < cLine) (hK : X.K = K := by rfl) : OpR X (compareOp .Lt) (rLtT K) := by subst hK; exact op_ltT hu
theorem k_catA (hK : X.K = K := by rfl) : OpR X (binaryOp .Add) (rCatA K) := by subst hK; exact op_catA
theorem k_len (hK : X.K = K := by rfl) : CallR X (.builtin "len") (fun xs H Q => ∃ p ys, xs = [.ref p] ∧ (SqL K H p ys ∨ SqT K H p ys) ∧ Q (.int ys.length) H) := by subst hK; exact call_len_seq
theorem k_tupOf (hK : X.K = K := by rfl) : CallR X (.type "tuple") (fun xs H Q => ∃ p ys, xs = [.ref p] ∧ ((SqL K H p ys ∧ ∀ l, H l = none → Q (.ref l) (upd H l (.tup ys))) ∨ (SqT K H p ys ∧ Q (.ref p) H))) := by subst hK; exact call_tuple_of
theorem k_lstOf (hK : X.K = K := by rfl) : CallR X (.type "list") (fun xs H Q => ∃ p ys, xs = [.ref p] ∧ (SqL K H p ys ∨ SqT K H p ys) ∧ ∀ l, H l = none → Q (.ref l) (upd H l (.lst ys))) := by subst hK; exact call_list_of
theorem k_all (hc : X.calm = true := by rfl) (hK : X.K = K := by rfl) : CallR X (.builtin "all") (rAll K) := by subst hK; exact cr_all hc
theorem k_sum (hc : X.calm = true := by rfl) (hK : X.K = K := by rfl) : CallR X (.builtin "sum") (rSum K) := by subst hK; exact cr_sum hc
theorem k_isi (hK : X.K = K := by rfl) : CallR X (.builtin "isinstance") (rIsi K) := by subst hK; exact call_isi
theorem k_srtI (hK : X.K = K := by rfl) : CallR X (.builtin "sorted") (rSortedI K) := by subst hK; exact cr_sortedI
theorem k_index (hu : X.A.units + 65 < cLine) (hK : X.K = K := by rfl) : MtR X "list.index" (rIndexD K) := by subst hK; exact mt_indexD hu
variable {tg l : Expr} {tl : TE}
theorem k_piT (hl : PE X l tl) (hK : X.K = K := by rfl) : PI X tg l (iTup K tl) := by subst hK; exact pi_tup hl
theorem k_piL (hl : PE X l tl) (hK : X.K = K := by rfl) : PI X tg l (iList K tl) := by subst hK; exact pi_list hl
theorem k_piEnum {e : Expr} {ta : TA} {p pos tpos : Pos} {elts : List Expr} {kk : Nat} (hg : Gl X "enumerate") (hm : X.mg "enumerate" = none) (ha : PA X [e] ta) (hK : X.K = K := by rfl) (hs : starEach [e] X.env = [(false, eval e X.env)] := by rfl) :
    PI X (.Tuple elts kk tpos) (.Call (.Name "enumerate" p) [e] [] pos) (iEnum K ta) := by subst hK; exact pi_enum hg hm ha hs
theorem k_piZip {e e2 : Expr} {ta : TA} {p pos tpos : Pos} {elts : List Expr} {kk : Nat} (hg : Gl X "zip") (hm : X.mg "zip" = none) (ha : PA X [e, e2] ta) (hK : X.K = K := by rfl)
    (hs : starEach [e, e2] X.env = (false, eval e X.env) :: starEach [e2] X.env := by rfl) (hpl : (backTo pos (starEach [e2] X.env)).any (·.1) = false := by rfl) :
    PI X (.Tuple elts kk tpos) (.Call (.Name "zip" p) [e, e2] [] pos) (iZip K ta) := by subst hK; exact pi_zip hg hm ha hs hpl
theorem k_piZipA {e e2 : Expr} {ta : TA} {p pos tpos : Pos} {elts : List Expr} {kk : Nat} (hg : Gl X "zip") (hm : X.mg "zip" = none) (ha : PA X [e, e2] ta) (hK : X.K = K := by rfl)
    (hs : starEach [e, e2] X.env = (false, eval e X.env) :: starEach [e2] X.env := by rfl) (hpl : (backTo pos (starEach [e2] X.env)).any (·.1) = false := by rfl) :
    PI X (.Tuple elts kk tpos) (.Call (.Name "zip" p) [e, e2] [] pos) (iZipA K ta) := by subst hK; exact pi_zipA hg hm ha hs hpl
theorem k_tg {pos : Pos} {es : List Expr} {k : Nat} {t : TGs} {n : Nat} (h : PGs X es t) (hc : X.calm = true := by rfl) (hK : X.K = K := by rfl)
    (hn : (assignEach es X.env).length = n := by rfl) (hst : (assignEach es X.env).findIdx? (·.1) = none := by rfl) : PG X (.Tuple es k pos) (gTup K n t) := by subst hK; exact pg_tup hc h hn hst
theorem k_fld {pos : Pos} {e : Expr} {f : Str} {ta : TE} (he : PE X e ta) (hK : X.K = K := by rfl) (hb : attributeBase e f X.env (eval e X.env) = eval e X.env := by rfl) : PE X (.Attribute e f pos) (tFld K ta f) := by subst hK; exact pe_fld he hb
theorem k_bm {T : String} {id : String} {o e : Expr} {es : List Expr} {r : V → List V → Hp → VK → Prop} {to : TE} {t : TA} {apos cpos : Pos} {nm : Str} (pa : PlainAttrs T) (slot : Slot T nm id) (hty : typeOf (.builtin id) = pure (.type "method_descriptor")) (hm : MtR X id r) (ho : PE X o to) (ha : PA X (e :: es) t) (hK : X.K = K := by rfl)
    (hbase : attributeBase o nm X.env (eval o X.env) = eval o X.env := by rfl)
    (hfew : ((backTo cpos (starEach (e :: es) X.env)).all (fun x => !x.1) && (backToKw cpos (keywordEach [] X.env)).all (fun x => x.1.isSome)
      && decide ((e :: es).length + ([] : List Keyword).length + (if ([] : List Keyword).isEmpty then 0 else 1) < 30)) = true := by rfl)
    (hline : (apos.endLine == cpos.line) = true := by rfl) (hs : starEach (e :: es) X.env = (false, eval e X.env) :: starEach es X.env := by rfl) (hplain : (backTo cpos (starEach es X.env)).any (·.1) = false := by rfl) :
    PE X (.Call (.Attribute o nm apos) (e :: es) [] cpos) (tBM K T r to t) := by subst hK; exact pe_bm pa slot hty hm ho ha hbase hfew hline hs hplain
theorem k_truth {a : Expr} {ta : TE} (ha : PE X a ta) (hK : X.K = K := by rfl) (he : ∀ whole, isTrue a X.env whole = (do let v ← whole; standAt a.pos; holding [v] (truthy v)) := by intro _; rfl) : PT X a (tTr K ta) := by subst hK; exact pt_truth ha he
end
end Tt

/-! The mirror: what the program computes, in plain Lean; and its data. -/
namespace Tt
open PySem

abbrev Row := List Int
abbrev Msg := List (Row × Int × Int)
abbrev Tab := List (Row × Int)
structure Gr where
  vals : Int
  scs : List Row
  eds : List (Nat × Nat)
abbrev eN (n : Nat) : PyData := .int (n : Int)
def eR (r : Row) : PyData := .tuple (r.map PyData.int)
def eE (e : Nat × Nat) : PyData := .tuple [eN e.1, eN e.2]
def eG (g : Gr) : PyData := .tuple [.int g.vals, .tuple (g.scs.map eR), .tuple (g.eds.map eE)]
def eT (t : Row × Int × Int) : PyData := .tuple [eR t.1, .int t.2.1, .int t.2.2]
def eM (m : Msg) : PyData := .tuple (m.map eT)
def eP (p : Row × Int) : PyData := .tuple [eR p.1, .int p.2]
def eTab (t : Tab) : PyData := .tuple (t.map eP)
def eTabs (ts : List Tab) : PyData := .tuple (ts.map eTab)
def eMs (ms : List Msg) : PyData := .tuple (ms.map eM)
theorem tb_eN (n : Nat) : tupB (eN n) = true := rfl
theorem tb_int (n : Int) : tupB (.int n) = true := rfl
theorem tb_eR (r : Row) : tupB (eR r) = true := by
  show tupsB _ = true
  exact tupsB_map fun _ => rfl
theorem tb_eE (e : Nat × Nat) : tupB (eE e) = true := rfl
theorem tb_eT (t : Row × Int × Int) : tupB (eT t) = true := by simp [eT, tupB, tupsB, tb_eR]
theorem tb_eM (m : Msg) : tupB (eM m) = true := by
  show tupsB _ = true
  exact tupsB_map tb_eT
theorem tb_eP (p : Row × Int) : tupB (eP p) = true := by simp [eP, tupB, tupsB, tb_eR]
theorem tb_eTab (t : Tab) : tupB (eTab t) = true := by
  show tupsB _ = true
  exact tupsB_map tb_eP
theorem tb_eTabs (t : List Tab) : tupB (eTabs t) = true := by
  show tupsB _ = true
  exact tupsB_map tb_eTab
theorem tb_eMs (t : List Msg) : tupB (eMs t) = true := by
  show tupsB _ = true
  exact tupsB_map tb_eM
theorem tb_eG (g : Gr) : tupB (eG g) = true := by
  have h1 : tupsB (g.scs.map eR) = true := tupsB_map tb_eR
  have h2 : tupsB (g.eds.map eE) = true := tupsB_map tb_eE
  simp [eG, tupB, tupsB, h1, h2]

/-! ### sorting -/
section
variable {α : Type}
def insB (lt : α → α → Bool) (x : α) : List α → List α
  | [] => [x]
  | y :: ys => if lt y x then y :: insB lt x ys else x :: y :: ys
def isort (lt : α → α → Bool) : List α → List α
  | [] => []
  | x :: xs => insB lt x (isort lt xs)
theorem insB_perm (lt : α → α → Bool) (x : α) : ∀ l, (insB lt x l).Perm (x :: l)
  | [] => .refl _
  | y :: ys => by
    unfold insB
    split
    · exact (List.Perm.cons y (insB_perm lt x ys)).trans (.swap x y ys)
    · exact .refl _
theorem isort_perm (lt : α → α → Bool) : ∀ l, (isort lt l).Perm l
  | [] => .refl _
  | x :: xs => (insB_perm lt x _).trans (.cons x (isort_perm lt xs))
/-- not greater, pairwise -/
abbrev Up (lt : α → α → Bool) (l : List α) : Prop := l.Pairwise fun a b => lt b a = false
structure Ord (lt : α → α → Bool) : Prop where
  asym : ∀ a b, lt a b = true → lt b a = false
  negtr : ∀ a b c, lt b a = false → lt c b = false → lt c a = false
theorem insB_up {lt : α → α → Bool} (o : Ord lt) (x : α) : ∀ l, Up lt l → Up lt (insB lt x l)
  | [], _ => List.pairwise_singleton _ _
  | y :: ys, h => by
    obtain ⟨h1, h2⟩ := List.pairwise_cons.mp h
    unfold insB
    split
    · rename_i c
      refine List.pairwise_cons.mpr ⟨fun z hz => ?_, insB_up o x ys h2⟩
      rcases List.mem_cons.mp ((insB_perm lt x ys).mem_iff.mp hz) with rfl | hz
      · exact o.asym _ _ c
      · exact h1 z hz
    · rename_i c
      have c' : lt y x = false := by simpa using c
      refine List.pairwise_cons.mpr ⟨fun z hz => ?_, h⟩
      rcases List.mem_cons.mp hz with rfl | hz
      · exact c'
      · exact o.negtr _ _ _ c' (h1 z hz)
theorem isort_up {lt : α → α → Bool} (o : Ord lt) : ∀ l, Up lt (isort lt l)
  | [] => List.Pairwise.nil
  | x :: xs => insB_up o x _ (isort_up o xs)
/-- sorted in whatever way: the same, where two that stand level are one -/
theorem up_uniq {lt : α → α → Bool} (o : Ord lt) {l l' : List α} (hp : l'.Perm l) (hu : Up lt l') (ha : ∀ a ∈ l, ∀ b ∈ l, lt a b = false → lt b a = false → a = b) : l' = isort lt l := by
  refine List.Perm.eq_of_pairwise (le := fun a b => lt b a = false) ?_ hu (isort_up o l) (hp.trans (isort_perm lt l).symm)
  intro a b h1 h2 h3 h4
  exact ha a (hp.mem_iff.mp h1) b ((isort_perm lt l).mem_iff.mp h2) h4 h3
end
def ltN (a b : Nat) : Bool := decide (a < b)
theorem ordN : Ord ltN := ⟨fun a b h => by simp [ltN] at *; omega, fun a b c h k => by simp [ltN] at *; omega⟩
def srtN (l : List Nat) : List Nat := isort ltN l
theorem srtN_of {l : List Nat} {ns : List Int} (hp : ns.Perm (l.map fun (n : Nat) => (n : Int))) (hs : ns.Pairwise (· ≤ ·)) : ns = (srtN l).map fun (n : Nat) => (n : Int) := by
  refine List.Perm.eq_of_pairwise (le := (· ≤ ·)) (fun a b _ _ h1 h2 => Int.le_antisymm h1 h2) hs ?_ (hp.trans ((isort_perm ltN l).symm.map _))
  have h := isort_up ordN l
  rw [srtN, List.pairwise_map]
  refine h.imp fun {a b} h => ?_
  simp [ltN] at h
  omega
/-- the order of rows -/
def ltR (a b : Row) : Bool := HT.lexLt a b
theorem ltR_cons (a b : Int) (x y : Row) : ltR (a :: x) (b :: y) = if a = b then ltR x y else decide (a < b) := rfl
theorem ltR_eq : ∀ {a b : Row}, ltR a b = false → ltR b a = false → a = b
  | [], [], _, _ => rfl
  | [], _ :: _, h, _ => by cases h
  | _ :: _, [], _, h => by cases h
  | a :: x, b :: y, h, k => by
    rw [ltR_cons] at h k
    by_cases e : a = b
    · subst e
      rw [if_pos rfl] at h k
      rw [ltR_eq h k]
    · rw [if_neg e] at h
      rw [if_neg (fun q => e q.symm)] at k
      simp at h k
      omega
theorem ltR_irr : ∀ a : Row, ltR a a = false
  | [] => rfl
  | a :: x => by rw [ltR_cons, if_pos rfl]; exact ltR_irr x
theorem ltR_asym : ∀ a b : Row, ltR a b = true → ltR b a = false
  | [], [], h => by cases h
  | [], _ :: _, _ => rfl
  | _ :: _, [], h => by cases h
  | a :: x, b :: y, h => by
    rw [ltR_cons] at h ⊢
    by_cases e : a = b
    · subst e
      rw [if_pos rfl] at h ⊢
      exact ltR_asym x y h
    · rw [if_neg e] at h
      rw [if_neg (fun q => e q.symm)]
      simp at h ⊢
      omega
theorem ltR_neg : ∀ a b c : Row, ltR b a = false → ltR c b = false → ltR c a = false
  | [], b, c, h, k => by
    cases c with
    | nil => rfl
    | cons _ _ => rfl
  | _ :: _, [], _, h, _ => by cases h
  | _ :: _, _ :: _, [], _, k => by cases k
  | a :: x, b :: y, c :: z, h, k => by
    rw [ltR_cons] at h k ⊢
    by_cases e : b = a
    · subst e
      rw [if_pos rfl] at h
      by_cases e2 : c = b
      · subst e2
        rw [if_pos rfl] at k ⊢
        exact ltR_neg x y z h k
      · rw [if_neg e2] at k ⊢
        exact k
    · rw [if_neg e] at h
      simp at h
      by_cases e2 : c = b
      · subst e2
        rw [if_neg e]
        simp
        omega
      · rw [if_neg e2] at k
        simp at k
        rw [if_neg (by omega)]
        simp
        omega
theorem ordR : Ord ltR := ⟨ltR_asym, ltR_neg⟩
def srtR (l : List Row) : List Row := isort ltR l
theorem srtR_of {l l' : List Row} (hp : l'.Perm l) (hs : Up ltR l') : l' = srtR l := up_uniq ordR hp hs fun _ _ _ _ h k => ltR_eq h k
/-- pairs by their rows -/
def ltP (a b : Row × Int) : Bool := ltR a.1 b.1
theorem ordP : Ord ltP := ⟨fun _ _ h => ltR_asym _ _ h, fun _ _ _ h k => ltR_neg _ _ _ h k⟩
def srtP (l : Tab) : Tab := isort ltP l
theorem nd_eq {l : Tab} (h : (l.map (·.1)).Nodup) {a b : Row × Int} (ha : a ∈ l) (hb : b ∈ l) (e : a.1 = b.1) : a = b := by
  induction l with
  | nil => cases ha
  | cons x xs ih =>
    rw [List.map_cons, List.nodup_cons] at h
    rcases List.mem_cons.mp ha with q1 | ha1
    · rcases List.mem_cons.mp hb with q2 | hb1
      · rw [q1, q2]
      · exact absurd (by rw [← q1, e]; exact List.mem_map_of_mem hb1) h.1
    · rcases List.mem_cons.mp hb with q2 | hb1
      · exact absurd (by rw [← q2, ← e]; exact List.mem_map_of_mem ha1) h.1
      · exact ih h.2 ha1 hb1
theorem srtP_of {l l' : Tab} (hn : (l.map (·.1)).Nodup) (hp : l'.Perm l) (hs : Up ltP l') : l' = srtP l := up_uniq ordP hp hs fun _ ha _ hb h k => nd_eq hn ha hb (ltR_eq h k)

/-! ### graphs -/
def Gr.sc (g : Gr) (n : Nat) : Row := g.scs.getD n []
def Gr.n (g : Gr) : Nat := g.scs.length
def shr (g : Gr) (a b : Nat) : Row := (g.sc a).filter fun v => decide (v ∈ g.sc b)
def nbrs (g : Gr) (n : Nat) : List Nat := srtN ((g.eds.filter fun e => decide (e.1 = n)).map (·.2) ++ (g.eds.filter fun e => decide (e.2 = n)).map (·.1))
def dirs (g : Gr) : List (Nat × Nat) := g.eds.flatMap fun e => [(e.1, e.2), (e.2, e.1)]
def dix (g : Gr) (a b : Nat) : Nat := (dirs g).idxOf (a, b)
def cut (row some kept : Row) : Row := ((some.zip row).filter fun p => decide (p.1 ∈ kept)).map (·.2)

/-! ### messages -/
/-- gather -/
def addTo (acc : Msg) (it : Row × Int × Int) : Msg :=
  if acc.any (fun t => decide (t.1 = it.1)) then acc.map fun t => if t.1 = it.1 then (t.1, t.2.1 + it.2.1, min t.2.2 it.2.2) else t else acc ++ [it]
def lkm (m : Msg) (r : Row) : Int × Int := ((m.find? fun t => decide (t.1 = r)).map (·.2)).getD (0, 0)
def gather (items : Msg) : Msg :=
  let acc := items.foldl addTo []
  (srtR (acc.map (·.1))).map fun r => (r, lkm acc r)
def stepL (g : Gr) (ms : List Msg) (node : Nat) (row : Row) (acc : Int × Int) (o : Nat) : Int × Int :=
  let t := lkm (ms.getD (dix g o node) []) (cut row (g.sc node) (shr g node o))
  (acc.1 * t.1, acc.2 + t.2)
def leftRow (g : Gr) (ms : List Msg) (node : Nat) (others : List Nat) (p : Row × Int) : Option (Row × Int × Int) :=
  let t := others.foldl (stepL g ms node p.1) (1, p.2)
  if 0 < t.1 then some (p.1, t) else none
def leftRows (g : Gr) (tabs : List Tab) (ms : List Msg) (node : Nat) (others : List Nat) : Msg := (tabs.getD node []).filterMap (leftRow g ms node others)
def required (g : Gr) (tabs : List Tab) (ms : List Msg) (a b : Nat) : Msg :=
  gather ((leftRows g tabs ms a ((nbrs g a).filter fun x => !decide (x = b))).map fun t => (cut t.1 (g.sc a) (shr g a b), t.2))
def round1 (g : Gr) (tabs : List Tab) (ms : List Msg) : List Msg := (dirs g).map fun d => required g tabs ms d.1 d.2
def iter (f : α → α) : Nat → α → α
  | 0, x => x
  | n + 1, x => iter f n (f x)
def computed (g : Gr) (tabs : List Tab) : List Msg := iter (round1 g tabs) g.n ((dirs g).map fun _ => [])
end Tt

namespace Tt
open PySem L2 RZ
section
variable {K : PySem.W.Frag} {σ : St} {H H' : Hp} {ta tb tc te tx : TE} {t u : TT} {d e : PyData} {v : V} {r : R2} {ds es : List PyData} {i j k : Int} {b c : Bool}
theorem FzAll.I2 {vs : List V} {a b : PyData} (f : FzAll H vs [a, b]) : ∃ x y, vs = [x, y] ∧ Fz H x a ∧ Fz H y b := by
  cases f with
  | cons f1 t =>
    obtain ⟨y, rfl, f2⟩ := t.oneI
    exact ⟨_, _, rfl, f1, f2⟩
theorem FzAll.I3 {vs : List V} {a b c : PyData} (f : FzAll H vs [a, b, c]) : ∃ x y z, vs = [x, y, z] ∧ Fz H x a ∧ Fz H y b ∧ Fz H z c := by
  cases f with
  | cons f1 t =>
    obtain ⟨y, z, rfl, f2, f3⟩ := t.I2
    exact ⟨_, _, _, rfl, f1, f2, f3⟩
theorem FzAll.I4 {vs : List V} {a b c d : PyData} (f : FzAll H vs [a, b, c, d]) : ∃ x y z u, vs = [x, y, z, u] ∧ Fz H x a ∧ Fz H y b ∧ Fz H z c ∧ Fz H u d := by
  cases f with
  | cons f1 t =>
    obtain ⟨y, z, u, rfl, f2, f3, f4⟩ := t.I3
    exact ⟨_, _, _, _, rfl, f1, f2, f3, f4⟩
theorem FzAll.I5 {vs : List V} {a b c d e : PyData} (f : FzAll H vs [a, b, c, d, e]) : ∃ x y z u v, vs = [x, y, z, u, v] ∧ Fz H x a ∧ Fz H y b ∧ Fz H z c ∧ Fz H u d ∧ Fz H v e := by
  cases f with
  | cons f1 t =>
    obtain ⟨y, z, u, v, rfl, f2, f3, f4, f5⟩ := t.I4
    exact ⟨_, _, _, _, _, rfl, f1, f2, f3, f4, f5⟩
/-- the scope of a node -/
theorem sc_at {g : Gr} {n : Nat} (h : n < g.n) : atI (g.scs.map eR) (n : Int) = some (eR (g.sc n)) := by
  refine atI_nat ?_
  have h' : n < g.scs.length := h
  rw [List.getElem?_map, List.getElem?_eq_getElem h']
  simp [Gr.sc, List.getD_eq_getElem?_getD, h']
theorem decN (a b : Nat) : decide ((a : Int) = (b : Int)) = decide (a = b) := by
  by_cases h : a = b
  · simp [h]
  · rw [decide_eq_false h, decide_eq_false (by omega)]
/-- kinds -/
def tyD : PyData → String
  | .none => "NoneType"
  | .bool _ => "bool"
  | .int _ => "int"
  | .str _ => "str"
  | .list _ => "list"
  | .tuple _ => "tuple"
  | .dict _ => "dict"
theorem ty_of (f : Fz H v d) : TyX K H v (.type (tyD d)) := by
  cases f with
  | non => exact .base .non
  | bl b => exact .base (.bl b)
  | int i => exact .base (.int i)
  | str x => exact .base (.str x)
  | lst e _ => exact .base (.lst e)
  | tup e _ => exact .base (.tup e)
theorem ki_int_int : kitB "int" "int" = some true := by decide +kernel
theorem ki_int_bool : kitB "int" "bool" = some false := by decide +kernel
theorem ki_int_str : kitB "int" "str" = some false := by decide +kernel
theorem ki_int_tuple : kitB "int" "tuple" = some false := by decide +kernel
theorem ki_int_list : kitB "int" "list" = some false := by decide +kernel
theorem ki_bool_int : kitB "bool" "int" = some true := by decide +kernel
theorem ki_bool_bool : kitB "bool" "bool" = some true := by decide +kernel
theorem ki_bool_str : kitB "bool" "str" = some false := by decide +kernel
theorem ki_bool_tuple : kitB "bool" "tuple" = some false := by decide +kernel
theorem ki_bool_list : kitB "bool" "list" = some false := by decide +kernel
theorem ki_str_int : kitB "str" "int" = some false := by decide +kernel
theorem ki_str_bool : kitB "str" "bool" = some false := by decide +kernel
theorem ki_str_str : kitB "str" "str" = some true := by decide +kernel
theorem ki_str_tuple : kitB "str" "tuple" = some false := by decide +kernel
theorem ki_str_list : kitB "str" "list" = some false := by decide +kernel
theorem ki_tuple_int : kitB "tuple" "int" = some false := by decide +kernel
theorem ki_tuple_bool : kitB "tuple" "bool" = some false := by decide +kernel
theorem ki_tuple_str : kitB "tuple" "str" = some false := by decide +kernel
theorem ki_tuple_tuple : kitB "tuple" "tuple" = some true := by decide +kernel
theorem ki_tuple_list : kitB "tuple" "list" = some false := by decide +kernel
theorem ki_list_int : kitB "list" "int" = some false := by decide +kernel
theorem ki_list_bool : kitB "list" "bool" = some false := by decide +kernel
theorem ki_list_str : kitB "list" "str" = some false := by decide +kernel
theorem ki_list_tuple : kitB "list" "tuple" = some false := by decide +kernel
theorem ki_list_list : kitB "list" "list" = some true := by decide +kernel
theorem ki_NoneType_int : kitB "NoneType" "int" = some false := by decide +kernel
theorem ki_NoneType_bool : kitB "NoneType" "bool" = some false := by decide +kernel
theorem ki_NoneType_str : kitB "NoneType" "str" = some false := by decide +kernel
theorem ki_NoneType_tuple : kitB "NoneType" "tuple" = some false := by decide +kernel
theorem ki_NoneType_list : kitB "NoneType" "list" = some false := by decide +kernel
theorem e_isi {T : String} {q : Bool} (h : EF te σ H d) (hk : kitB (tyD d) T = some q) : EF (tCB (rIsi K) (tCons te (tCons (tC (.ty T)) tNil))) σ H (.bool q) := fun H1 a Q qq =>
  h H1 a _ fun v H2 s f => ⟨v, .ty T, _, .type T, q, rfl, .ty T, ty_of f, kit_ty hk, qq _ H2 s (.bl _)⟩
theorem e_chain {f g : Int → Int → Bool} (ha : EF ta σ H (.int i)) (hb : EF tb σ H (.int j)) (hc : EF tc σ H (.int k)) : EF (tChain (rI0 fun i j => .bl (f i j)) (rI0 fun i j => .bl (g i j)) ta tb tc) σ H (.bool (f i j && g j k)) := fun H1 a Q q =>
  ha H1 a _ fun x H2 s2 f2 => hb H2 (a.trans s2) _ fun y H3 s3 f3 => ⟨i, j, f2.intI, f3.intI, f i j, rfl, by
    cases e : f i j with
    | true =>
      show tc σ H3 _
      refine hc H3 ((a.trans s2).trans s3) _ fun z H4 s4 f4 => ⟨j, k, f3.intI, f4.intI, ?_⟩
      rw [e] at q
      exact q _ H4 ((s2.trans s3).trans s4) (.bl _)
    | false =>
      rw [e] at q
      exact q _ H3 (s2.trans s3) (.bl _)⟩
theorem e_gl {n : Int} : EF (tC (.int n)) σ H (.int n) := e_int
theorem w_rng1i {ta : TA} {n : Int} (h : EFA ta σ H [.int n]) (hn : n ≤ 1000000) (hm : -1000000 ≤ n) : WF (iRng1 ta) σ H ((List.range n.toNat).map fun (i : Nat) => .int (i : Int)) := fun H1 a R q => h H1 a _ fun vs H2 s f => by
  obtain ⟨v, rfl, fv⟩ := f.oneI
  cases fv
  refine ⟨n, rfl, by omega, by omega, q _ H2 s fun i H3 s3 => ?_⟩
  rw [List.length_map, List.length_range]
  refine ⟨fun hi => walk_range.goes i H3 hi True.intro, fun hi => by rw [hi]; exact walk_range.stops H3 True.intro, fun x H' y d hd => ?_⟩
  have hi : i < n.toNat := by
    have := (List.getElem?_eq_some_iff.mp hd).1
    simpa using this
  obtain ⟨rfl, rfl⟩ := walk_range.yields i H3 x H' hi True.intro y
  rw [List.getElem?_map, List.getElem?_range hi] at hd
  cases hd
  refine ⟨Same.refl _, ?_⟩
  show Fz H' (.int (0 + (i : Int))) (.int (i : Int))
  rw [Int.zero_add]
  exact .int _
/-- a list of Trues -/
theorem all_true {α : Type} (l : List α) : (l.map fun _ => true).all id = true := by simp
theorem e_allT {α : Type} {l : List α} (h : EF te σ H (.list (l.map fun _ => .bool true))) : EF (tCB (rAll K) (tCons te tNil)) σ H (.bool true) := by
  have h2 : EF te σ H (.list ((l.map fun _ => true).map PyData.bool)) := h.is (by rw [List.map_map]; rfl)
  exact (e_all h2).is (by rw [all_true])
end
/-! ### what a graph of the law is -/
/-- the edges of the trees: the nodes, the edges -/
def shapes : List (Nat × List (Nat × Nat)) := [(1, []), (2, [(0, 1)]), (3, [(0, 1), (0, 2)]), (3, [(0, 1), (1, 2)]),
  (4, [(0, 1), (0, 2), (0, 3)]), (4, [(0, 1), (0, 2), (1, 3)]), (4, [(0, 1), (0, 2), (2, 3)]), (4, [(0, 1), (0, 3), (1, 2)]), (4, [(0, 1), (1, 2), (1, 3)]), (4, [(0, 1), (1, 2), (2, 3)])]
structure GOK (g : Gr) : Prop where
  vals : g.vals = 2 ∨ g.vals = 3
  asc : ∀ s ∈ g.scs, s.Pairwise (· < ·)
  rng : ∀ s ∈ g.scs, ∀ v ∈ s, 0 ≤ v ∧ v ≤ 5
  few : ∀ s ∈ g.scs, s.length ≤ 3
  shape : (g.n, g.eds) ∈ shapes
  /-- each node but the first one that has it has a variable from its parent -/
  run : ∀ n v, n < g.n → v ∈ g.sc n → (∀ m, m < n → v ∉ g.sc m) ∨ ∃ p, (p, n) ∈ g.eds ∧ v ∈ g.sc p
theorem Gr.sc_mem {g : Gr} {n : Nat} (h : n < g.n) : g.sc n ∈ g.scs := by
  have h' : n < g.scs.length := h
  simp [Gr.sc, List.getD_eq_getElem?_getD, h']
theorem GOK.len {g : Gr} (G : GOK g) {n : Nat} (h : n < g.n) : (g.sc n).length ≤ 3 := G.few _ (Gr.sc_mem h)
theorem GOK.n4 {g : Gr} (G : GOK g) : 1 ≤ g.n ∧ g.n ≤ 4 := by
  have h : ∀ p ∈ shapes, 1 ≤ p.1 ∧ p.1 ≤ 4 := by decide
  exact h _ G.shape
theorem GOK.e3 {g : Gr} (G : GOK g) : g.eds.length ≤ 3 := by
  have h : ∀ p ∈ shapes, p.2.length ≤ 3 := by decide
  exact h _ G.shape
theorem GOK.elt {g : Gr} (G : GOK g) : ∀ e ∈ g.eds, e.1 < e.2 ∧ e.2 < g.n := by
  have h : ∀ p ∈ shapes, ∀ e ∈ p.2, e.1 < e.2 ∧ e.2 < p.1 := by decide
  exact h _ G.shape
end Tt

/-! Trees of at most four nodes, by looking at all of them. -/
namespace Tt
open PySem
def nbE (eds : List (Nat × Nat)) (n : Nat) : List Nat := srtN ((eds.filter fun e => decide (e.1 = n)).map (·.2) ++ (eds.filter fun e => decide (e.2 = n)).map (·.1))
theorem nbrs_eq (g : Gr) (n : Nat) : nbrs g n = nbE g.eds n := rfl
/-- one turn of hanging's loop -/
def hstep (eds : List (Nat × Nat)) (S : List Nat) (st : Nat × List Nat) : Nat × List Nat :=
  (st.1 + 1, st.2 ++ (nbE eds (st.2.getD st.1 0)).filter fun o => decide (o ∈ S) && !decide (o ∈ st.2))
def hst (eds : List (Nat × Nat)) (S : List Nat) (a : Nat) : Nat → Nat × List Nat
  | 0 => (0, [a])
  | k + 1 => if (hst eds S a k).1 < (hst eds S a k).2.length then hstep eds S (hst eds S a k) else hst eds S a k
/-- each but the first has its parent within -/
def closed (eds : List (Nat × Nat)) : List Nat → Bool
  | [] => false
  | a :: r => r.all fun n => eds.any fun e => decide (e.2 = n) && decide (e.1 ∈ a :: r)
def subs : List Nat → List (List Nat)
  | [] => [[]]
  | x :: xs => (subs xs).map (x :: ·) ++ subs xs
theorem mem_subs : ∀ {l s : List Nat}, s.Sublist l → s ∈ subs l
  | _, _, .slnil => by simp [subs]
  | _, _, .cons x h => List.mem_append_right _ (mem_subs h)
  | _, _, .cons_cons x h => List.mem_append_left _ (List.mem_map.mpr ⟨_, mem_subs h, rfl⟩)
def hangOk (p : Nat × List (Nat × Nat)) (S : List Nat) : Bool :=
  !closed p.2 S || (decide ((hst p.2 S (S.headD 0) 5).2.length ≤ (hst p.2 S (S.headD 0) 5).1) && decide (srtN (hst p.2 S (S.headD 0) 5).2 = S) &&
    (List.range 6).all fun k => (hst p.2 S (S.headD 0) k).2.all fun n => decide (n < p.1))
theorem hang_all : ∀ p ∈ shapes, ∀ S ∈ subs (List.range p.1), hangOk p S = true := by decide +kernel
theorem range_closed : ∀ p ∈ shapes, closed p.2 (List.range p.1) = true := by decide +kernel
theorem len_eds : ∀ p ∈ shapes, p.2.length + 1 = p.1 := by decide
end Tt

namespace Tt
open PySem L2 RZ
section
variable {K : PySem.W.Frag} {σ : St} {H H' : Hp} {ta tb tc te tx : TE} {t u : TT} {d e : PyData} {v : V} {r : R2} {ds es : List PyData} {i j k : Int} {b c : Bool} {D : Ends} {w : TS} {tu tw : TS}
abbrev eNs (l : List Nat) : List PyData := l.map eN
theorem eNs_int (l : List Nat) : eNs l = (l.map fun (n : Nat) => (n : Int)).map PyData.int := by rw [List.map_map]; rfl
/-- while -/
theorem s_while {tb : TS} (W : Nat → St → Hp → Prop) (m0 : Nat) (h0 : W m0 σ H)
    (hs : ∀ m σ' H', W m σ' H' → ∃ b, ET t σ' H' b ∧ (b = true → ∀ H1, Same H' H1 → tb { D with nx := fun σ2 H2 => ∃ m', m' < m ∧ W m' σ2 H2, ct := fun σ2 H2 => ∃ m', m' < m ∧ W m' σ2 H2, bk := w D } σ' H1) ∧ (b = false → ∀ H1, Same H' H1 → w D σ' H1)) :
    tSeq (tWhile t tb) w D σ H := by
  refine ⟨W, ⟨m0, h0⟩, fun m σ' H' hw => ?_⟩
  obtain ⟨b, hb, h1, h2⟩ := hs m σ' H' hw
  refine hb.go fun H1 s1 => ?_
  cases b with
  | true => exact ⟨_, fun _ _ z => z, h1 rfl H1 s1⟩
  | false => exact h2 rfl H1 s1
/-- a list plus a list -/
theorem el_cat (ha : EL ta σ H ds) (hb : EL tb σ H es) (hz : ds.length + es.length ≤ 100000) : EL (tOp rCat ta tb) σ H (ds ++ es) := fun H1 a Q q =>
  ha H1 a _ fun p xs H2 n2 s2 e2 f2 => hb H2 (a.trans s2) _ fun p' ys H3 n3 s3 e3 f3 => ⟨p, p', xs, ys, rfl, rfl, s3 _ _ e2, e3, by rw [f2.len, f3.len]; exact Nat.le_trans hz (by decide), fun l hl =>
    q l (xs ++ ys) _ ((s2.trans s3).free hl) ((s2.trans s3).trans (same_new hl)) upd_same ((f2.same (s3.trans (same_new hl))).append (f3.same (same_new hl)))⟩
/-- list plus list, by the data -/
theorem el_catF (ha : EF ta σ H (.list ds)) (hb : EF tb σ H (.list es)) (hz : ds.length + es.length ≤ 100000) : EL (tOp rCat ta tb) σ H (ds ++ es) := fun H1 a Q q =>
  ha H1 a _ fun x H2 s2 f2 => hb H2 (a.trans s2) _ fun y H3 s3 f3 => by
    obtain ⟨p, xs, rfl, e2, g2⟩ := f2.lstI
    obtain ⟨p', ys, rfl, e3, g3⟩ := f3.lstI
    exact ⟨p, p', xs, ys, rfl, rfl, s3 _ _ e2, e3, by rw [g2.len, g3.len]; exact Nat.le_trans hz (by decide), fun l hl =>
      q l (xs ++ ys) _ ((s2.trans s3).free hl) ((s2.trans s3).trans (same_new hl)) upd_same ((g2.same (s3.trans (same_new hl))).append (g3.same (same_new hl)))⟩
/-- sorted(list of nodes) -/
theorem el_srtN {l : List Nat} (h : EF te σ H (.list (eNs l))) : EL (tCB (rSortedI K) (tCons te tNil)) σ H (eNs (srtN l)) := el_cb (ea_cons h ea_nil) fun vs H1 s f Q q => by
  obtain ⟨v, rfl, fv⟩ := f.oneI
  obtain ⟨p, xs, rfl, e, fa⟩ := fv.lstI
  rw [eNs_int] at fa
  obtain rfl := fz_ints fa
  refine ⟨p, _, rfl, SqL.of e, fun ns' p' hp hs n => ?_⟩
  obtain rfl := srtN_of hp hs
  refine q p' _ _ n (same_new n) upd_same ?_
  rw [eNs_int]
  exact fz_of_ints _
/-- n in a list, a tuple of nodes -/
theorem decM (n : Nat) (l : List Nat) : decide ((n : Int) ∈ l.map fun (m : Nat) => (m : Int)) = decide (n ∈ l) := by
  by_cases h : n ∈ l
  · rw [decide_eq_true h, decide_eq_true (List.mem_map.mpr ⟨n, h, rfl⟩)]
  · rw [decide_eq_false h, decide_eq_false]
    intro q
    obtain ⟨m, hm, e⟩ := List.mem_map.mp q
    have : m = n := by omega
    exact h (this ▸ hm)
theorem e_inN {neg : Bool} {n : Nat} {l : List Nat} (ha : EF ta σ H (eN n)) (hb : EF tb σ H e) (he : e = .tuple (eNs l) ∨ e = .list (eNs l)) : EF (tOp (rIn K neg) ta tb) σ H (.bool (if neg then !decide (n ∈ l) else decide (n ∈ l))) := by
  rw [← decM]
  rcases he with rfl | rfl
  · rw [eNs_int] at hb
    exact e_inT ha hb
  · rw [eNs_int] at hb
    exact e_inL ha hb
theorem n_at {l : List Nat} {n : Nat} (h : n < l.length) : atI (eNs l) (n : Int) = some (eN (l.getD n 0)) := by
  refine atI_nat ?_
  rw [List.getElem?_map, List.getElem?_eq_getElem h]
  simp [List.getD_eq_getElem?_getD, h]
/-- xs.append(e), xs.extend(e): xs at l -/
theorem s_appV {l : Addr} {xs : List V} {Q : St → Hp → Prop} (hl : H l = some (.lst xs)) (ha : ∀ H1, Same H H1 → ∀ Q : VK, Q (.ref l) H1 → ta σ H1 Q) (h : EF te σ H d) (hz : xs.length < 100000)
    (k : ∀ v H1, Same H H1 → Fz H1 v d → D.nx σ (upd H1 l (.lst (xs ++ [v])))) : tDrop (tBM K "list" rAppend ta (tCons te tNil)) D σ H := by
  refine ha H (Same.refl _) _ ⟨Or.inl ⟨rfl, _, SqL.of hl⟩, ?_⟩
  exact h.go fun v H1 s f => ⟨l, xs, v, rfl, rfl, s _ _ hl, Nat.lt_of_lt_of_le hz (by decide), k v H1 s f⟩
theorem s_extV {l : Addr} {xs : List V} (hl : H l = some (.lst xs)) (ha : ∀ H1, Same H H1 → ∀ Q : VK, Q (.ref l) H1 → ta σ H1 Q) (h : EL te σ H ds) (hz : xs.length + ds.length ≤ 100000)
    (k : ∀ ys H1, Same H H1 → FzAll H1 ys ds → D.nx σ (upd H1 l (.lst (xs ++ ys)))) : tDrop (tBM K "list" rExtend ta (tCons te tNil)) D σ H := by
  refine ha H (Same.refl _) _ ⟨Or.inl ⟨rfl, _, SqL.of hl⟩, ?_⟩
  exact h.go fun p ys H1 _ s e f => ⟨l, p, xs, ys, rfl, rfl, s _ _ hl, e, by rw [f.len]; exact Nat.le_trans hz (by decide), k ys H1 s f⟩
/-- the list in slot i -/
theorem at_var {i : Nat} {l : Addr} (h : σ[i]? = some (some (.ref l))) : ∀ H1, Same H H1 → ∀ Q : VK, Q (.ref l) H1 → tVar i σ H1 Q := fun H1 _ Q q => ⟨_, h, q⟩
/-- what stood ahead of l's making stands -/
theorem same_mut {H0 H1 : Hp} {l : Addr} {o : HO} (s : Same H0 H1) (n : H0 l = none) : Same H0 (upd H1 l o) := fun b u e => by
  rw [upd_ne (ne_of_none e n)]
  exact s b u e
end
end Tt

/-! enumerate(tuple). -/
namespace PySem
open Sem (wp)
theorem meets_enumerate_newB1 {v : Value} {o : Obj} {H : Heap → Prop} (B : Begins v o H) :
    Meets (Builtin.«enumerate.__new__» ⟨[.type "enumerate", v], []⟩) (fun _ R s => H s.heap ∧
      R (.ok (.ret (.ref (s.heap.push o).objs.size))) { s with heap := (s.heap.push o).push { cls := .type "enumerate", data := .fields #[.none, .bool false, .ref s.heap.objs.size, rawInt 0, .none, .none] } }) :=
  .of_wp fun prog w A R s h => by
    obtain ⟨hp, g, d, tk, os⟩ := s; obtain ⟨h1, h⟩ := h
    have hsub := sub_enumerate
    have q1 : ∀ {A' : Around} {E : Value → Shared → Prop} {Q : Value → Shared → Prop}, Q (.ref hp.objs.size) ⟨hp.push o, g, d, tk, os⟩ → wpAny (model prog w) A' (pyIter v) Q E ⟨hp, g, d, tk, os⟩ :=
      fun q => B.iter prog w _ _ ⟨hp, g, d, tk, os⟩ _ h1 q
    wp_walk using q1
    refine wpAny_stack_any fun st => wpAny_pure ?_
    split
    · rename_i c _ _ _ _ _
      cases (c == Value.type "enumerate")
      · wp_walk using q1
        exact ⟨_, rfl, h⟩
      · wp_walk using q1
        exact ⟨_, rfl, h⟩
    · wp_walk using q1
      exact ⟨_, rfl, h⟩
theorem call_enumerate_tup {prog : Program} {w : World} {A : Around} {E : Value → Shared → Prop} {s : Shared} {l : Addr} {items : Array Value} {Q : Value → Shared → Prop} (hL : s.heap.IsTuple l items)
    (h : ∀ h', IsEnum h' (s.heap.objs.size + 1) s.heap.objs.size 0 .none → h'.IsTupleIter s.heap.objs.size l 0 → h'.objs.size = s.heap.objs.size + 2 →
      (∀ b o, s.heap.get? b = some o → h'.get? b = some o) → Q (.ref (s.heap.objs.size + 1)) { s with heap := h' }) :
    wpAny (model prog w) A (call (.type "enumerate") [.ref l]) Q E s := by
  refine callType_new F.called_enumerate (by decide) (F.typeCall_enumerate_1 _) (F.newCall_enumerate_1 _) (fun obj => F.args_object_init_2 obj _) F.entry_enumerate_new
    (meets_enumerate_newB1 (begins_tuple l items)) ⟨hL, ?_⟩
  have hz : (s.heap.push { cls := .type "tuple_iterator", data := .fields #[.ref l, .int 0 0] }).objs.size = s.heap.objs.size + 1 := Heap.size_push ..
  show _ ∧ _
  rw [hz]
  have he : IsEnum ((s.heap.push { cls := .type "tuple_iterator", data := .fields #[.ref l, .int 0 0] }).push
      { cls := .type "enumerate", data := .fields #[.none, .bool false, .ref s.heap.objs.size, rawInt 0, .none, .none] }) (s.heap.objs.size + 1) s.heap.objs.size 0 .none := by
    have := Heap.get?_push_size (s.heap.push { cls := .type "tuple_iterator", data := .fields #[.ref l, .int 0 0] })
      (o := { cls := .type "enumerate", data := .fields #[.none, .bool false, .ref s.heap.objs.size, rawInt 0, .none, .none] }) rfl
    rw [hz] at this; exact this
  refine ⟨⟨_, he, rfl⟩, h _ he ⟨_, Heap.get?_push_of_some _ (Heap.get?_push_size _ rfl), rfl, rfl⟩ (by rw [Heap.size_push, hz]) fun b o x => Heap.get?_push_of_some _ (Heap.get?_push_of_some _ x)⟩
end PySem
namespace Tt
open PySem PySem.Spec PyProof.Rows L2
def IteT (K : PySem.W.Frag) (a : Addr) (n : Nat) : It :=
  ⟨fun i H => ∃ (xs : List V) (x : V), SqT K H a xs ∧ xs[i]? = some x ∧ xs.length = n, fun i H v H' => ∃ T x, v = .ref T ∧ H T = none ∧ H' = upd H T (.tup [.int (i : Nat), x]) ∧ ∀ xs, SqT K H a xs → xs[i]? = some x, fun i H => ∃ xs : List V, SqT K H a xs ∧ xs.length ≤ i ∧ xs.length = n⟩
theorem turn_enumT {P : Program} {w : World} {K : PySem.W.Frag} {elts : List Expr} {kk : Nat} {tpos : Pos} (a e it : Addr) (n : Nat) :
    Turn P w K (.Tuple elts kk tpos) (IteT K a n) [e, it] e (fun i h => (∃ old, IsEnum h e it ((i : Nat) : Int) old) ∧ h.IsTupleIter it a i ∧ e ≠ it ∧ i ≤ n) where
  mem := by simp
  obj := fun i h st b hb => by
    obtain ⟨⟨old, he⟩, ⟨o, ho, hc, hd⟩, _⟩ := st
    have e' : b = e ∨ b = it := by simpa using hb
    rcases e' with z | z
    · rw [z]; exact ⟨_, he, fun v q => nomatch q⟩
    · rw [z]; exact ⟨o, ho, fun v q => by rw [hd] at q; cases q⟩
  keep := fun i h h' st k => let ⟨⟨old, he⟩, hi, hne, hin⟩ := st; ⟨⟨old, k e (by simp) _ he⟩, hi.at fun o q => k it (by simp) o q, hne, hin⟩
  item := by
    intro X hP hw hK hc i pins s σ H E I hf st hg
    subst hP hw hK
    obtain ⟨⟨old, he⟩, hit, hne, hin⟩ := st
    obtain ⟨xs, x, hq, hx, hxn⟩ := hg
    obtain ⟨its, rv, p, hz⟩ := I.tuple hq
    obtain ⟨u, hu, ru⟩ := rv.get hx
    have hel : e < s.heap.objs.size := Heap.lt_size he
    have hil : it < s.heap.objs.size := by obtain ⟨_, q, _⟩ := hit; exact Heap.lt_size q
    have hae : a ≠ e := fun z => by
      obtain ⟨o, ho, _, n, hd⟩ := p
      rw [z, he] at ho
      cases ho
      cases hd
    have hai : a ≠ it := fun z => by
      obtain ⟨o, ho, _, n, hd⟩ := p
      obtain ⟨o2, ho2, _, hd2⟩ := hit
      rw [z, ho2] at ho
      cases ho
      rw [hd2] at hd
      cases hd
    have hlt : i < its.toArray.size := by
      have := (List.getElem?_eq_some_iff.mp hu).1
      simpa using this
    refine wpAny_pyNext_enum_itemD (Draws.tuple (A := X.A.in1) (show X.A.handled = none from I.ok.hd hc) it a hai its.toArray) he ⟨hit, p⟩ hlt hne (by simp [hne, Ne.symm hae]) fun x' h' tk hP' ho hst' hT hsz hk => ?_
    have ex : x' = u := by
      have q : its[i]? = some x' := by simpa using hP'
      rw [hu] at q
      exact (Option.some.inj q).symm
    subst ex
    refine ⟨_, rfl, wpAny_letOwnedTupleGo_enum (s := { s with heap := h', toks := tk + 1 }) ho fun h'' he' sb => ?_⟩
    have hT2 : h''.get? s.heap.objs.size = some { cls := .type "tuple", data := .seq #[.int i tk, x'] } := (sb.2 _ (Nat.ne_of_gt hel)).trans hT
    have new : ObjOk X.prog X.w (upd H s.heap.objs.size (.tup [.int (i : Nat), x])) h'' s.heap.objs.size (.tup [.int (i : Nat), x]) :=
      ⟨by show 2 ≤ sizeLine; decide, [.int i tk, x'], .cons ⟨_, rfl⟩ (.cons ru .nil), ⟨_, hT2, rfl, _, rfl⟩⟩
    have I1 : Inv X pins σ (upd H s.heap.objs.size (.tup [.int (i : Nat), x])) { s with heap := h'', toks := tk + 1 } :=
      I.turnedNew (ch := [e, it]) (fun b ob hb q => (sb.2 b (fun z => hb (by simp [z]))).trans (hk b ob (fun z => hb (by simp [z])) (fun z => hb (by simp [z])) q)) hf (Nat.le_refl _) new
    refine ⟨.ref s.heap.objs.size, _, I1, rfl, ⟨_, x, rfl, I.hok.fresh (Nat.le_refl _), rfl, fun ys hy => by rw [I.tuple_inj hy hq]; exact hx⟩, ⟨⟨x', ?_⟩, hst'.1.at fun o q => (sb.2 it (Ne.symm hne)).trans q, hne, by have := (List.getElem?_eq_some_iff.mp hx).1; omega⟩, fun b hb => ?_⟩
    · have e1 : ((i + 1 : Nat) : Int) = (i : Int) + 1 := by omega
      rw [e1]; exact he'
    · have hb' : b < s.heap.objs.size := by
        have e' : b = e ∨ b = it := by simpa using hb
        rcases e' with z | z
        · rw [z]; exact hel
        · rw [z]; exact hil
      rw [upd_ne (Nat.ne_of_lt hb')]
      exact (hf b hb).1
  done := by
    intro X hP hw hK hc i pins s σ H E I hf st hg
    subst hP hw hK
    obtain ⟨⟨old, he⟩, hit, hne, hin⟩ := st
    obtain ⟨xs, hq, hx, hxn⟩ := hg
    obtain ⟨its, rv, p, hz⟩ := I.tuple hq
    obtain ⟨f0, f1, f2, f3, f4, f5⟩ := hf it (by simp)
    have hl := rv.length
    have hai : a ≠ it := fun z => by
      obtain ⟨o, ho, _, n, hd⟩ := p
      obtain ⟨o2, ho2, _, hd2⟩ := hit
      rw [z, ho2] at ho
      cases ho
      rw [hd2] at hd
      cases hd
    have ei : i = its.toArray.size := by simp; omega
    subst ei
    exact wpAny_pyNext_enum_endD (Draws.tuple (A := X.A.in1) (show X.A.handled = none from I.ok.hd hc) it a hai its.toArray) he ⟨hit, p⟩ fun h' eb => ⟨rfl, I.turned (t' := s.toks) (fun b o hb q => eb b o hb q) f0 f1 f3 f4 f5⟩
  self := fun A i s Q E st h => let ⟨⟨_, he⟩, _⟩ := st; wpAny_pyIter_enum he h
def iEnumT (K : PySem.W.Frag) (ta : TA) : L2.TI := fun σ H R => ta σ H fun vs H1 => ∃ a xs, vs = [.ref a] ∧ SqT K H1 a xs ∧ R (IteT K a xs.length) H1
theorem pi_enumT {X : Cx} {e : Expr} {ta : TA} {p pos tpos : Pos} {elts : List Expr} {kk : Nat} (hg : Gl X "enumerate") (hm : X.mg "enumerate" = none) (ha : PA X [e] ta) (hs : starEach [e] X.env = [(false, eval e X.env)] := by rfl) :
    PI X (.Tuple elts kk tpos) (.Call (.Name "enumerate" p) [e] [] pos) (iEnumT X.K ta) := by
  refine ⟨fun pins s σ H R I h => ?_⟩
  refine Call_ (ld_blt I hg hm boot_enumerate (PyProof.Rows.callWith_type1 (thn (ha.run pos pins s σ H _ I h) fun us s1 ⟨vs, H1, I1, r1, q1⟩ => ?_) hs rfl))
  obtain ⟨a, xs, ex, hq, q⟩ := q1
  subst ex
  cases r1 with
  | cons r rr =>
    cases rr
    cases r
    obtain ⟨its, rv, p', hz⟩ := I1.tuple hq
    refine call_enumerate_tup p' fun h' he hit hsz hk => wpAny_pyIter_enum he ?_
    have I2 : Inv X pins σ H1 { s1 with heap := h' } := I1.kept (t' := s1.toks) hk
    refine ⟨s1.heap.objs.size + 1, [s1.heap.objs.size + 1, s1.heap.objs.size], _, _, H1, rfl, I2, turn_enumT a (s1.heap.objs.size + 1) s1.heap.objs.size _, ⟨⟨.none, he⟩, hit, Nat.succ_ne_self _, Nat.zero_le _⟩, fun b hb => ?_, q⟩
    have e' : b = s1.heap.objs.size + 1 ∨ b = s1.heap.objs.size := by simpa using hb
    have hle : s1.heap.objs.size ≤ b := by
      rcases e' with z | z
      · rw [z]; exact Nat.le_add_right _ _
      · rw [z]; exact Nat.le_refl _
    exact I1.fpOk hle (I1.hok.fresh hle)
theorem k_piEnumT {X : Cx} {K : PySem.W.Frag} {e : Expr} {ta : TA} {p pos tpos : Pos} {elts : List Expr} {kk : Nat} (hg : Gl X "enumerate") (hm : X.mg "enumerate" = none) (ha : PA X [e] ta) (hK : X.K = K := by rfl) (hs : starEach [e] X.env = [(false, eval e X.env)] := by rfl) :
    PI X (.Tuple elts kk tpos) (.Call (.Name "enumerate" p) [e] [] pos) (iEnumT K ta) := by subst hK; exact pi_enumT hg hm ha hs
theorem walk_enumT {K : PySem.W.Frag} {a : Addr} {xs : List V} : Walk (IteT K a xs.length) xs.length (fun H => SqT K H a xs) (YPair (fun i => some (.int (i : Nat))) (fun i => xs[i]?)) := by
  refine ⟨fun i _ hi q => ⟨xs, xs[i], q, by simp [hi], rfl⟩, fun _ q => ⟨xs, q, Nat.le_refl _, rfl⟩, fun i H v H' _ q y => ?_⟩
  obtain ⟨T, x, h1, h2, h3, h4⟩ := y
  exact ⟨T, .int (i : Nat), x, h1, h2, h3, rfl, h4 xs q⟩
theorem w_enumT {K : PySem.W.Frag} {σ : L2.St} {H : Hp} {ds : List PyData} {ta : TA} (h : EFA ta σ H [.tuple ds]) : WF (iEnumT K ta) σ H ((List.range ds.length).map fun (i : Nat) => .tuple [.int (i : Int), ds.getD i .none]) := fun H1 a R q => h H1 a _ fun vs H2 s f => by
  obtain ⟨v, rfl, fv⟩ := f.oneI
  obtain ⟨p, xs, rfl, e, fa⟩ := fv.tupI
  refine ⟨p, xs, rfl, SqT.of e, q _ H2 s fun i H3 s3 => ?_⟩
  rw [List.length_map, List.length_range]
  refine ⟨fun hi => walk_enumT.goes i H3 (by rw [fa.len]; exact hi) (SqT.of (s3 _ _ e)), fun hi => by rw [hi, ← fa.len]; exact walk_enumT.stops H3 (SqT.of (s3 _ _ e)), fun x H' y d hd => ?_⟩
  have hi : i < ds.length := by
    have := (List.getElem?_eq_some_iff.mp hd).1
    simpa using this
  obtain ⟨T, x1, x2, rfl, hT, rfl, h1, h2⟩ := walk_enumT.yields i H3 x H' (by rw [fa.len]; exact hi) (SqT.of (s3 _ _ e)) y
  rw [List.getElem?_map, List.getElem?_range hi] at hd
  cases hd
  cases h1
  obtain ⟨dd, hdd, fd⟩ := fa.getV h2
  refine ⟨same_new hT, .tup upd_same (.cons (.int _) (.one ?_))⟩
  rw [List.getD_eq_getElem?_getD, hdd]
  exact (fd.same s3).same (same_new hT)
end Tt

/-! Loops whose turns change objects: the walked tuple (of tuples, texts, numbers) stands whatever lists change. -/
namespace Tt
open PySem L2 RZ
def JOkT (J : It) (H : Hp) (ds : List PyData) : Prop := ∀ i H3, TK H H3 → (i < ds.length → J.go i H3) ∧ (i = ds.length → J.stop i H3) ∧ ∀ x H', J.yld i H3 x H' → ∀ d, ds[i]? = some d → Same H3 H' ∧ Fz H' x d
def WT (wi : TI) (σ : St) (H : Hp) (ds : List PyData) : Prop := ∀ H1, Same H H1 → ∀ R : It → Hp → Prop, (∀ J H2, Same H1 H2 → JOkT J H2 ds → R J H2) → wi σ H1 R
section
variable {K : PySem.W.Frag} {σ : St} {H H' : Hp} {ta tb tc te tx : TE} {t u : TT} {d e : PyData} {v : V} {r : R2} {ds es : List PyData} {i j k : Int} {b c : Bool} {D : Ends} {w : TS} {tu tw : TS}
theorem tupsB_get {ds : List PyData} (h : tupsB ds = true) {i : Nat} {d : PyData} (e : ds[i]? = some d) : tupB d = true := tupsB_iff.mp h d (List.mem_of_getElem? e)
theorem wt_tup (h : EF te σ H (.tuple ds)) (hb : tupsB ds = true) : WT (iTup K te) σ H ds := fun H1 a R q => h H1 a _ fun v H2 s f => by
  obtain ⟨p, xs, rfl, e, fa⟩ := f.tupI
  refine ⟨p, rfl, ⟨xs, SqT.of e⟩, q _ H2 s fun i H3 s3 => ⟨fun hi => ?_, fun hi => ?_, fun x H' y d hd => ?_⟩⟩
  · exact walk_tup.goes i H3 (by rw [fa.len]; exact hi) (SqT.of (s3 _ _ e))
  · have h := (walk_tup (K := K) (a := p) (xs := xs)).stops H3 (SqT.of (s3 _ _ e))
    rw [fa.len, ← hi] at h
    exact h
  · have hi : i < xs.length := by
      rw [fa.len]
      exact (List.getElem?_eq_some_iff.mp hd).1
    obtain ⟨rfl, hx⟩ := walk_tup.yields i H3 x H' hi (SqT.of (s3 _ _ e)) y
    obtain ⟨w, hw, fw⟩ := fa.get hd
    rw [hw] at hx
    cases hx
    exact ⟨Same.refl _, fw.tk s3 (tupsB_get hb hd)⟩
theorem wt_rng1 {ta : TA} {n : Nat} (h : EFA ta σ H [.int (n : Int)]) (hn : n ≤ 1000000) : WT (iRng1 ta) σ H ((List.range n).map fun (i : Nat) => .int (i : Int)) := fun H1 a R q => h H1 a _ fun vs H2 s f => by
  obtain ⟨v, rfl, fv⟩ := f.oneI
  cases fv
  refine ⟨n, rfl, by omega, by omega, q _ H2 s fun i H3 s3 => ?_⟩
  rw [Int.toNat_natCast, List.length_map, List.length_range]
  refine ⟨fun hi => walk_range.goes i H3 hi True.intro, fun hi => by rw [hi]; exact walk_range.stops H3 True.intro, fun x H' y d hd => ?_⟩
  have hi : i < n := by
    have := (List.getElem?_eq_some_iff.mp hd).1
    simpa using this
  obtain ⟨rfl, rfl⟩ := walk_range.yields i H3 x H' hi True.intro y
  rw [List.getElem?_map, List.getElem?_range hi] at hd
  cases hd
  refine ⟨Same.refl _, ?_⟩
  show Fz H' (.int (0 + (i : Int))) (.int (i : Int))
  rw [Int.zero_add]
  exact .int _
theorem wt_rng2 {ta : TA} {lo n : Nat} (h : EFA ta σ H [.int (lo : Int), .int (n : Int)]) (hn : n ≤ 1000000) (hlo : lo ≤ 1000000) : WT (iRng2 ta) σ H ((List.range (n - lo)).map fun (i : Nat) => .int ((lo + i : Nat) : Int)) := fun H1 a R q => h H1 a _ fun vs H2 s f => by
  cases f with
  | cons f1 t =>
    obtain ⟨v, rfl, fv⟩ := t.oneI
    cases f1
    cases fv
    refine ⟨lo, n, rfl, ⟨by omega, by omega, by omega, by omega⟩, q _ H2 s fun i H3 s3 => ?_⟩
    have e : ((n : Int) - (lo : Int)).toNat = n - lo := by omega
    rw [e, List.length_map, List.length_range]
    refine ⟨fun hi => walk_range.goes i H3 hi True.intro, fun hi => by rw [hi]; exact walk_range.stops H3 True.intro, fun x H' y d hd => ?_⟩
    have hi : i < n - lo := by
      have := (List.getElem?_eq_some_iff.mp hd).1
      simpa using this
    obtain ⟨rfl, rfl⟩ := walk_range.yields i H3 x H' hi True.intro y
    rw [List.getElem?_map, List.getElem?_range hi] at hd
    cases hd
    refine ⟨Same.refl _, ?_⟩
    show Fz H' (.int ((lo : Int) + (i : Int))) (.int ((lo + i : Nat) : Int))
    rw [Int.natCast_add]
    exact .int _
theorem EFA.go {ta : TA} (h : EFA ta σ H ds) {Q : List V → Hp → Prop} (k : ∀ vs H2, Same H H2 → FzAll H2 vs ds → Q vs H2) : ta σ H Q := h H (Same.refl H) Q k
theorem rgV_nat (n : Nat) : rgV 0 (n : Int) = (List.range n).map fun (i : Nat) => V.int (i : Int) := by
  unfold rgV
  simp
theorem fz_nats (H : Hp) : ∀ l : List Nat, FzAll H (l.map fun (i : Nat) => V.int (i : Int)) (eNs l)
  | [] => .nil
  | n :: l => .cons (.int _) (fz_nats H l)
theorem rg_ok {n : Nat} (h : n ≤ 100000) : RgOk 0 (n : Int) := RgOk.of_le (by omega) (by omega) (by omega) (by omega)
/-- a call by any promise -/
theorem c_go {sp : Sp} {E : XK} {ta : TA} {Q : VK} (h : EFA ta σ H ds) (k : ∀ vs H1, Same H H1 → FzAll H1 vs ds → sp vs H1 Q E) : tCall sp [] E ta σ H Q := h H (Same.refl H) _ fun vs H2 s f => by
  rw [List.append_nil]
  exact k vs H2 s f
theorem el_rng {n : Nat} (h : EF te σ H (.int (n : Int))) (hn : n ≤ 100000) : EL (tLstRg (tRg1 te)) σ H (eNs (List.range n)) := fun H1 a Q q => h H1 a _ fun v H2 s f => by
  refine ⟨n, f.intI, rg_ok hn, fun p hp => ?_⟩
  rw [rgV_nat]
  exact q p _ _ (s.free hp) (s.trans (same_new hp)) upd_same (fz_nats _ _)
theorem e_rngT {n : Nat} (h : EF te σ H (.int (n : Int))) (hn : n ≤ 100000) : EF (tTupRg (tRg1 te)) σ H (.tuple (eNs (List.range n))) := fun H1 a Q q => h H1 a _ fun v H2 s f => by
  refine ⟨n, f.intI, rg_ok hn, fun p hp => ?_⟩
  rw [rgV_nat]
  exact q _ _ (s.trans (same_new hp)) (.tup upd_same (fz_nats _ _))
/-- a loop over what stands -/
theorem s_forT {α : Type} {xs : List α} {enc : α → PyData} {wi : TI} {gt : TG} {tb : TS} (hw : WT wi σ H (xs.map enc)) (Pv : Hp → Nat → St → Hp → Prop) (h0 : ∀ H1, Same H H1 → Pv H1 0 σ H1) (hS : ∀ B i σ' H', Same H B → Pv B i σ' H' → TK B H')
    (hs : ∀ B i x σ' H' y H2, Same H B → xs[i]? = some x → Pv B i σ' H' → Same H' H2 → Fz H2 y (enc x) → gt y σ' H2 fun σ2 H3 => tb { D with nx := Pv B (i + 1), ct := Pv B (i + 1), bk := w D } σ2 H3)
    (hd : ∀ B σ' H', Same H B → Pv B xs.length σ' H' → w D σ' H') : tSeq (tFor wi gt tb) w D σ H := by
  refine hw H (Same.refl H) _ fun J H1 s1 jok => ?_
  have W : Walk J xs.length (fun H => TK H1 H) (fun i H3 x H' => Same H3 H' ∧ ∀ z, xs[i]? = some z → Fz H' x (enc z)) := by
    refine ⟨fun i H3 hi s => (jok i H3 s).1 (by simpa using hi), fun H3 s => (jok _ H3 s).2.1 (by simp), fun i H3 x H' hi s y => ?_⟩
    have hz : xs[i]? = some xs[i] := by simp [hi]
    obtain ⟨r1, r2⟩ := (jok i H3 s).2.2 x H' y (enc xs[i]) (by simp [hz])
    exact ⟨r1, fun z' hz' => by
      rw [hz] at hz'
      cases hz'
      exact r2⟩
  refine for_it (D := { D with nx := w D }) W (fun i σ' H' => Pv H1 i σ' H') (h0 H1 s1) (fun i σ' H' _ p => hS H1 i σ' H' s1 p) ?_ (fun σ' H' p => hd H1 σ' H' s1 p)
  rintro i x σ' H' H2 hi p ⟨s2, hx⟩
  have hz : xs[i]? = some xs[i] := by simp [hi]
  exact hs H1 i xs[i] σ' H' x H2 s1 hz p s2 (hx _ hz)
/-- .. as the last statement -/
theorem s_forT1 {α : Type} {xs : List α} {enc : α → PyData} {wi : TI} {gt : TG} {tb : TS} (hw : WT wi σ H (xs.map enc)) (Pv : Hp → Nat → St → Hp → Prop) (h0 : ∀ H1, Same H H1 → Pv H1 0 σ H1) (hS : ∀ B i σ' H', Same H B → Pv B i σ' H' → TK B H')
    (hs : ∀ B i x σ' H' y H2, Same H B → xs[i]? = some x → Pv B i σ' H' → Same H' H2 → Fz H2 y (enc x) → gt y σ' H2 fun σ2 H3 => tb { D with nx := Pv B (i + 1), ct := Pv B (i + 1), bk := D.nx } σ2 H3)
    (hd : ∀ B σ' H', Same H B → Pv B xs.length σ' H' → D.nx σ' H') : tFor wi gt tb D σ H :=
  s_forT (D := D) (w := fun D' σ' H' => D.nx σ' H') hw Pv h0 hS hs hd
/-- a loop over the list at a, which the turns don't change -/
theorem s_forL {α : Type} {xs : List α} {enc : α → PyData} {tl : TE} {gt : TG} {tb : TS} {a : Addr} {ys : List V} (ha : ∀ H1, Same H H1 → ∀ Q : VK, Q (.ref a) H1 → tl σ H1 Q) (ea : H a = some (.lst ys)) (fa : FzAll H ys (xs.map enc)) (hb : ∀ x ∈ xs, tupB (enc x) = true)
    (Pv : Nat → St → Hp → Prop) (h0 : Pv 0 σ H) (hS : ∀ i σ' H', Pv i σ' H' → TK H H' ∧ H' a = some (.lst ys))
    (hs : ∀ i x σ' H' y, xs[i]? = some x → Pv i σ' H' → Fz H' y (enc x) → gt y σ' H' fun σ2 H3 => tb { D with nx := Pv (i + 1), ct := Pv (i + 1), bk := w D } σ2 H3)
    (hd : ∀ σ' H', Pv xs.length σ' H' → w D σ' H') : tSeq (tFor (iList K tl) gt tb) w D σ H := by
  refine ha H (Same.refl H) _ ⟨a, rfl, ⟨ys, SqL.of ea⟩, ?_⟩
  have hl : ys.length = xs.length := by rw [fa.len, List.length_map]
  refine for_it (D := { D with nx := w D }) (walk_list (K := K) (a := a) (xs := ys)) Pv h0 (fun i σ' H' _ p => SqL.of (hS i σ' H' p).2) ?_ (fun σ' H' p => hd σ' H' (by rw [← hl]; exact p))
  rintro i y σ' H' H2 hi p ⟨rfl, hy⟩
  have hz : xs[i]? = some (xs[i]'(by omega)) := by simp [show i < xs.length by omega]
  obtain ⟨d, hd', fd⟩ := fa.getV hy
  rw [List.getElem?_map, hz] at hd'
  cases hd'
  exact hs i _ σ' H2 y hz p (fd.tk (hS i σ' H2 p).1 (hb _ (List.mem_of_getElem? hz)))
end
end Tt

namespace Tt
open PySem PySem.Spec PyProof.Rows L2
open C8 (Cal Met Mak pe_c pe_mk pe_mt pe_mt0 pe_gc)
section
variable {P : Program} {w : World} {K : PySem.W.Frag} {mg : Str → Option Value} {base : Heap}

def R_shared (ds : List PyData) (d : PyData) : Prop := ∃ g a b, ds = [eG g, eN a, eN b] ∧ a < g.n ∧ b < g.n ∧ GOK g ∧ d = eR (shr g a b)
theorem sc_shared : FnScope ["graph", "one", "other", "variable"] ["graph", "one", "other"] (defScope s_shared) := ⟨rfl, rfl, rfl, by decide +kernel, rfl, by decide +kernel, by decide +kernel⟩
theorem cal_shared (T : Tx K mg) : Cal P w K mg base 1 "shared" (spP R_shared) [] :=
  T.cal 15 15 rfl rfl sc_shared (fun _ _ _ _ _ _ us hl => match us, hl with | [_, _, _], _ => rfl) (spP_len fun ds d ⟨g, a, b, e, _⟩ => by rw [e]; rfl) fun f cdv A outer s H vs Q E hr h => by
    obtain ⟨ds, d, fv, ⟨g, a, b, rfl, ha, hb, G, rfl⟩, k⟩ := h
    obtain ⟨x, y, z, rfl, f1, f2, f3⟩ := fv.I3
    refine ⟨_, (pss_one (ps_ret (pe_callTy (k_tupOf (K := K)) (by rfl) T.n_tuple (by decide +kernel) (pa_cons (pe_lc (own := [("variable", 3)]) (g := gName 3) rfl sc_shared.nd (k_piT (K := K) (pe_ix (k_ixT (K := K)) (pe_ix (k_ixT (K := K)) (pv 0) pe_int (fun _ _ => rfl)) (pv 1) (fun _ _ => rfl))) (blkOk_by (N := ["graph", "one", "other", "variable"]) (sc := defScope s_shared) (by decide +kernel)) (fun _ _ _ _ _ => (pg_name (i := 3) sc_shared.nd rfl (Or.inl rfl))) (fun _ _ _ _ _ => (pts_one (pt_cmpR (k_in (K := K)) (pv 3) (pe_ix (k_ixT (K := K)) (pe_ix (k_ixT (K := K)) (pv 0) pe_int (fun _ _ => rfl)) (pv 2) (fun _ _ => rfl)) (by rfl)))) (fun _ _ _ _ _ => (pv 3))) pa_nil)))), ?_⟩
    have hl := G.len ha
    refine (e_tupL (el_flt1 (xs := g.sc a) (enc := PyData.int) (f := fun v => decide (v ∈ g.sc b)) (g := PyData.int)
      (w_tup (e_ixT (e_ixT (e_var rfl f1) e_int (by rfl)) (e_var rfl f2) (sc_at ha))) (by omega) (fun _ _ _ => rfl)
      (fun x _ y H1 s1 fy => ⟨t_test (e_inT (e_var rfl fy) (e_ixT (e_ixT (e_var rfl (f1.same s1)) e_int (by rfl)) (e_var rfl (f3.same s1)) (sc_at hb))), fun _ => e_var rfl fy⟩)).ef).ret k

def R_whole (ds : List PyData) (d : PyData) : Prop := ∃ v lo hi : Int, ds = [.int v, .int lo, .int hi] ∧ d = .bool (decide (lo ≤ v) && decide (v ≤ hi))
theorem sc_is_whole : FnScope ["value", "low", "high"] ["value", "low", "high"] (defScope s_is_whole) := ⟨rfl, rfl, rfl, by decide +kernel, rfl, by decide +kernel, by decide +kernel⟩
theorem cal_is_whole (T : Tx K mg) : Cal P w K mg base 1 "is_whole" (spP R_whole) [] :=
  T.cal 0 0 rfl rfl sc_is_whole (fun _ _ _ _ _ _ us hl => match us, hl with | [_, _, _], _ => rfl) (spP_len fun ds d ⟨_, _, _, e, _⟩ => by rw [e]; rfl) fun f cdv A outer s H vs Q E hr h => by
    obtain ⟨ds, d, fv, ⟨v, lo, hi, rfl, rfl⟩, k⟩ := h
    obtain ⟨x, y, z, rfl, f1, f2, f3⟩ := fv.I3
    refine ⟨_, (pss_one (ps_ret (pe_and (pe_callB (k_isi (K := K)) (by rfl) T.n_isinstance (by decide +kernel) (pa_cons (pv 0) (pa_cons (pe_bltn (v := .ty "int") (by rfl) T.n_int (by decide +kernel) rfl) pa_nil))) (pe_and (pe_not (pe_callB (k_isi (K := K)) (by rfl) T.n_isinstance (by decide +kernel) (pa_cons (pv 0) (pa_cons (pe_bltn (v := .ty "bool") (by rfl) T.n_bool (by decide +kernel) rfl) pa_nil)))) (pe_one (pe_chain op_le op_le (pv 1) (pv 0) (pv 2))))))), ?_⟩
    refine ((e_andV (e_isi (e_var rfl f1) ki_int_int) fun _ => e_andV (e_notV (e_isi (e_var rfl f1) ki_int_bool)) fun _ => e_chain (e_var rfl f2) (e_var rfl f1) (e_var rfl f3)).is ?_).ret k
    simp

theorem sc_is_number : FnScope ["value", "low", "high"] ["value", "low", "high"] (defScope s_is_number) := ⟨rfl, rfl, rfl, by decide +kernel, rfl, by decide +kernel, by decide +kernel⟩
theorem cal_is_number (T : Tx K mg) : Cal P w K mg base 1 "is_number" (spP R_whole) [] :=
  T.cal 7 7 rfl rfl sc_is_number (fun _ _ _ _ _ _ us hl => match us, hl with | [_, _, _], _ => rfl) (spP_len fun ds d ⟨_, _, _, e, _⟩ => by rw [e]; rfl) fun f cdv A outer s H vs Q E hr h => by
    obtain ⟨ds, d, fv, ⟨v, lo, hi, rfl, rfl⟩, k⟩ := h
    obtain ⟨x, y, z, rfl, f1, f2, f3⟩ := fv.I3
    refine ⟨_, (pss_one (ps_ret (pe_and (pe_callB (k_isi (K := K)) (by rfl) T.n_isinstance (by decide +kernel) (pa_cons (pv 0) (pa_cons (pe_bltn (v := .ty "int") (by rfl) T.n_int (by decide +kernel) rfl) pa_nil))) (pe_and (pe_not (pe_callB (k_isi (K := K)) (by rfl) T.n_isinstance (by decide +kernel) (pa_cons (pv 0) (pa_cons (pe_bltn (v := .ty "bool") (by rfl) T.n_bool (by decide +kernel) rfl) pa_nil)))) (pe_one (pe_chain op_le op_le (pv 1) (pv 0) (pv 2))))))), ?_⟩
    refine ((e_andV (e_isi (e_var rfl f1) ki_int_int) fun _ => e_andV (e_notV (e_isi (e_var rfl f1) ki_int_bool)) fun _ => e_chain (e_var rfl f2) (e_var rfl f1) (e_var rfl f3)).is ?_).ret k
    simp

def R_node (ds : List PyData) (d : PyData) : Prop := ∃ (v : Int) (g : Gr), ds = [.int v, eG g] ∧ d = .bool (decide (0 ≤ v) && decide (v < g.n))
theorem sc_is_node : FnScope ["value", "graph"] ["value", "graph"] (defScope s_is_node) := ⟨rfl, rfl, rfl, by decide +kernel, rfl, by decide +kernel, by decide +kernel⟩
theorem cal_is_node (T : Tx K mg) : Cal P w K mg base 1 "is_node" (spP R_node) [] :=
  T.cal 13 13 rfl rfl sc_is_node (fun _ _ _ _ _ _ us hl => match us, hl with | [_, _], _ => rfl) (spP_len fun ds d ⟨_, _, e, _⟩ => by rw [e]; rfl) fun f cdv A outer s H vs Q E hr h => by
    obtain ⟨ds, d, fv, ⟨v, g, rfl, rfl⟩, k⟩ := h
    obtain ⟨x, y, rfl, f1, f2⟩ := fv.I2
    refine ⟨_, (pss_one (ps_ret (pe_and (pe_callB (k_isi (K := K)) (by rfl) T.n_isinstance (by decide +kernel) (pa_cons (pv 0) (pa_cons (pe_bltn (v := .ty "int") (by rfl) T.n_int (by decide +kernel) rfl) pa_nil))) (pe_and (pe_not (pe_callB (k_isi (K := K)) (by rfl) T.n_isinstance (by decide +kernel) (pa_cons (pv 0) (pa_cons (pe_bltn (v := .ty "bool") (by rfl) T.n_bool (by decide +kernel) rfl) pa_nil)))) (pe_one (pe_chain op_le op_lt pe_int (pv 0) (pe_callB (k_len (K := K)) (by rfl) T.n_len (by decide +kernel) (pa_cons (pe_ix (k_ixT (K := K)) (pv 1) pe_int (fun _ _ => rfl)) pa_nil)))))))), ?_⟩
    refine ((e_andV (e_isi (e_var rfl f1) ki_int_int) fun _ => e_andV (e_notV (e_isi (e_var rfl f1) ki_int_bool)) fun _ => e_chain e_int (e_var rfl f1) (e_lenT (e_ixT (e_var rfl f2) e_int (by rfl)))).is ?_).ret k
    simp [Gr.n]
    try rfl

def R_climb (ds : List PyData) (d : PyData) : Prop := ∃ r : Row, ds = [eR r] ∧ r.Pairwise (· < ·) ∧ r.length ≤ 1000 ∧ d = .bool true
theorem sc_is_climbing : FnScope ["value", "at"] ["value"] (defScope s_is_climbing) := ⟨rfl, rfl, rfl, by decide +kernel, rfl, by decide +kernel, by decide +kernel⟩
theorem asc_at {r : Row} (h : r.Pairwise (· < ·)) {i : Nat} (hi : i + 1 < r.length) : r.getD i 0 < r.getD (i + 1) 0 := by
  rw [List.pairwise_iff_getElem] at h
  have := h i (i + 1) (by omega) hi (by omega)
  simp [List.getD_eq_getElem?_getD, hi, show i < r.length by omega]
  exact this
theorem row_at {r : Row} {i : Nat} (hi : i < r.length) : atI (r.map PyData.int) (i : Int) = some (.int (r.getD i 0)) := by
  refine atI_nat ?_
  rw [List.getElem?_map, List.getElem?_eq_getElem hi]
  simp [List.getD_eq_getElem?_getD, hi]
theorem cal_is_climbing (T : Tx K mg) : Cal P w K mg base 1 "is_climbing" (spP R_climb) [] :=
  T.cal 1 1 rfl rfl sc_is_climbing (fun _ _ _ _ _ _ us hl => match us, hl with | [_], _ => rfl) (spP_len fun ds d ⟨_, e, _⟩ => by rw [e]; rfl) fun f cdv A outer s H vs Q E hr h => by
    obtain ⟨ds, d, fv, ⟨r, rfl, hasc, hlen, rfl⟩, k⟩ := h
    obtain ⟨x, rfl, f1⟩ := fv.oneI
    refine ⟨_, (pss_one (ps_ret (pe_callB (k_all (K := K)) (by rfl) T.n_all (by decide +kernel) (pa_cons (pe_lc (own := [("at", 1)]) (g := gName 1) (tt := tYes) rfl sc_is_climbing.nd (pi_range1 (by rfl) T.n_range (pa_cons (pe_op op_sub (pe_callB (k_len (K := K)) (by rfl) T.n_len (by decide +kernel) (pa_cons (pv 0) pa_nil)) pe_int) pa_nil)) (blkOk_by (N := ["value", "at"]) (sc := defScope s_is_climbing) (by decide +kernel)) (fun _ _ _ _ _ => (pg_name (i := 1) sc_is_climbing.nd rfl (Or.inl rfl))) (fun _ _ _ _ _ => pts_nil) (fun _ _ _ _ _ => (pe_cmpR op_lt (pe_ix (k_ixT (K := K)) (pv 0) (pv 1) (fun _ _ => rfl)) (pe_ix (k_ixT (K := K)) (pv 0) (pe_op op_add (pv 1) pe_int) (fun _ _ => rfl)) (nomark _)))) pa_nil)))), ?_⟩
    refine (e_allT (l := List.range (((r.map PyData.int).length : Int) - 1).toNat) (el_map1 (xs := List.range (((r.map PyData.int).length : Int) - 1).toNat) (enc := fun (i : Nat) => .int (i : Int)) (g := fun _ => .bool true)
      (w_rng1i (ea_cons (e_sub (e_lenT (e_var rfl f1)) e_int) ea_nil) (by simp; omega) (by omega)) (by simp; omega) (fun _ _ => rfl) (fun i hi y H1 s1 fy => ?_)).ef).ret k
    have hi2 : i + 1 < r.length := by
      have := List.mem_range.mp hi
      simp at this
      omega
    refine (e_lt (e_ixT (e_var rfl (f1.same s1)) (e_var rfl fy) (row_at (by omega))) (e_ixT (e_var rfl (f1.same s1)) ((e_add (e_var rfl fy) e_int).is (e := .int ((i + 1 : Nat) : Int)) (by simp)) (row_at hi2))).is ?_
    rw [decide_eq_true (asc_at hasc hi2)]
end
end Tt

namespace Tt
open PySem PySem.Spec PyProof.Rows L2
open C8 (Cal Met Mak pe_c pe_mk pe_mt pe_mt0 pe_gc)
section
variable {P : Program} {w : World} {K : PySem.W.Frag} {mg : Str → Option Value} {base : Heap}
theorem nohold {b : Bool} {p : Prop} (h : b = true) (k : b = false) : p := by rw [k] at h; cases h

def R_vars (ds : List PyData) (d : PyData) : Prop := ∃ r : Row, ds = [eR r] ∧ r.Pairwise (· < ·) ∧ r.length ≤ 1000 ∧ (∀ v ∈ r, 0 ≤ v ∧ v ≤ 5) ∧ d = .bool true
theorem sc_are_variables : FnScope ["value", "one"] ["value"] (defScope s_are_variables) := ⟨rfl, rfl, rfl, by decide +kernel, rfl, by decide +kernel, by decide +kernel⟩
theorem cal_are_variables (T : Tx K mg) : Cal P w K mg base 2 "are_variables" (spP R_vars) [] :=
  T.cal 2 2 rfl rfl sc_are_variables (fun _ _ _ _ _ _ us hl => match us, hl with | [_], _ => rfl) (spP_len fun ds d ⟨_, e, _⟩ => by rw [e]; rfl) fun f cdv A outer s H vs Q E hr h => by
    obtain ⟨ds, d, fv, ⟨r, rfl, hasc, hlen, hr5, rfl⟩, k⟩ := h
    obtain ⟨x, rfl, f1⟩ := fv.oneI
    refine ⟨_, (pss_cons (ps_if (PW.pt (pw_or (pt_not (pt_val (pe_callB (k_isi (K := K)) (by rfl) T.n_isinstance (by decide +kernel) (pa_cons (pv 0) (pa_cons (pe_bltn (v := .ty "tuple") (by rfl) T.n_tuple (by decide +kernel) rfl) pa_nil))))) (pw_or1 (pt_not (pt_val (pe_callB (k_all (K := K)) (by rfl) T.n_all (by decide +kernel) (pa_cons (pe_lc (own := [("one", 1)]) (g := gName 1) (tt := tYes) rfl sc_are_variables.nd (k_piT (K := K) (pv 0)) (blkOk_by (N := ["value", "one"]) (sc := defScope s_are_variables) (by decide +kernel)) (fun _ _ _ _ _ => (pg_name (i := 1) sc_are_variables.nd rfl (Or.inl rfl))) (fun _ _ _ _ _ => pts_nil) (fun _ _ _ _ _ => (pe_c (cal_is_whole T) hr (by decide) rfl (pa_cons (pv 1) (pa_cons pe_int (pa_cons (pe_gc (by rfl) T.c_MOST_VARIABLE) pa_nil)))))) pa_nil))))))) (pss_one (ps_ret pe_bl)) pss_nil)
      (pss_one (ps_ret (pe_c (cal_is_climbing T) hr (by decide) rfl (pa_cons (pv 0) pa_nil))))), ?_⟩
    refine s_ifQ (t_or (t_not (t_B (e_isi (e_var rfl f1) ki_tuple_tuple))) fun _ => t_not (t_B (e_allT (l := r) (el_map1 (xs := r) (enc := PyData.int) (g := fun _ => .bool true) (w_tup (e_var rfl f1)) (by omega) (fun _ _ => rfl) (fun v hv y H1 s1 fy =>
      e_call (ea_cons (e_var rfl fy) (ea_cons e_int (ea_cons e_gl ea_nil))) ⟨v, 0, 5, rfl, by simp [hr5 v hv]⟩)).ef))) (fun h => nohold h rfl) fun _ H1 s1 => ?_
    exact (e_call (ea_cons (e_var rfl (f1.same s1)) ea_nil) ⟨r, rfl, hasc, hlen, rfl⟩).ret fun v H' s' => k v H' (s1.trans s')

def R_scope (ds : List PyData) (d : PyData) : Prop := ∃ r : Row, ds = [eR r] ∧ r.Pairwise (· < ·) ∧ r.length ≤ 3 ∧ (∀ v ∈ r, 0 ≤ v ∧ v ≤ 5) ∧ d = .bool true
theorem sc_is_scope : FnScope ["value"] ["value"] (defScope s_is_scope) := ⟨rfl, rfl, rfl, by decide +kernel, rfl, by decide +kernel, by decide +kernel⟩
theorem cal_is_scope (T : Tx K mg) : Cal P w K mg base 3 "is_scope" (spP R_scope) [] :=
  T.cal 3 3 rfl rfl sc_is_scope (fun _ _ _ _ _ _ us hl => match us, hl with | [_], _ => rfl) (spP_len fun ds d ⟨_, e, _⟩ => by rw [e]; rfl) fun f cdv A outer s H vs Q E hr h => by
    obtain ⟨ds, d, fv, ⟨r, rfl, hasc, hlen, hr5, rfl⟩, k⟩ := h
    obtain ⟨x, rfl, f1⟩ := fv.oneI
    refine ⟨_, (pss_one (ps_ret (pe_and (pe_c (cal_are_variables T) hr (by decide) rfl (pa_cons (pv 0) pa_nil)) (pe_one (pe_cmpR op_le (pe_callB (k_len (K := K)) (by rfl) T.n_len (by decide +kernel) (pa_cons (pv 0) pa_nil)) (pe_gc (by rfl) T.c_WIDEST_SCOPE) (nomark _)))))), ?_⟩
    refine ((e_andV (e_call (ea_cons (e_var rfl f1) ea_nil) ⟨r, rfl, hasc, by omega, hr5, rfl⟩) fun _ => e_le (e_lenT (e_var rfl f1)) e_gl).is ?_).ret k
    simp
    omega

structure RowOK (vals : Int) (some r : Row) : Prop where
  len : r.length = some.length
  rng : ∀ v ∈ r, 0 ≤ v ∧ v < vals
  few : r.length ≤ 3
def R_row (ds : List PyData) (d : PyData) : Prop := ∃ (vals : Int) (some r : Row), ds = [.int vals, eR some, eR r] ∧ RowOK vals some r ∧ d = .bool true
theorem sc_is_row : FnScope ["values", "some", "value", "one"] ["values", "some", "value"] (defScope s_is_row) := ⟨rfl, rfl, rfl, by decide +kernel, rfl, by decide +kernel, by decide +kernel⟩
theorem cal_is_row (T : Tx K mg) : Cal P w K mg base 2 "is_row" (spP R_row) [] :=
  T.cal 4 4 rfl rfl sc_is_row (fun _ _ _ _ _ _ us hl => match us, hl with | [_, _, _], _ => rfl) (spP_len fun ds d ⟨_, _, _, e, _⟩ => by rw [e]; rfl) fun f cdv A outer s H vs Q E hr h => by
    obtain ⟨ds, d, fv, ⟨vals, sm, r, rfl, ok, rfl⟩, k⟩ := h
    obtain ⟨x, y, z, rfl, f1, f2, f3⟩ := fv.I3
    refine ⟨_, (pss_cons (ps_if (PW.pt (pw_or (pt_not (pt_val (pe_callB (k_isi (K := K)) (by rfl) T.n_isinstance (by decide +kernel) (pa_cons (pv 2) (pa_cons (pe_bltn (v := .ty "tuple") (by rfl) T.n_tuple (by decide +kernel) rfl) pa_nil))))) (pw_or1 (pt_cmpR op_ne (pe_callB (k_len (K := K)) (by rfl) T.n_len (by decide +kernel) (pa_cons (pv 2) pa_nil)) (pe_callB (k_len (K := K)) (by rfl) T.n_len (by decide +kernel) (pa_cons (pv 1) pa_nil)) (nomark _))))) (pss_one (ps_ret pe_bl)) pss_nil)
      (pss_one (ps_ret (pe_callB (k_all (K := K)) (by rfl) T.n_all (by decide +kernel) (pa_cons (pe_lc (own := [("one", 3)]) (g := gName 3) (tt := tYes) rfl sc_is_row.nd (k_piT (K := K) (pv 2)) (blkOk_by (N := ["values", "some", "value", "one"]) (sc := defScope s_is_row) (by decide +kernel)) (fun _ _ _ _ _ => (pg_name (i := 3) sc_is_row.nd rfl (Or.inl rfl))) (fun _ _ _ _ _ => pts_nil) (fun _ _ _ _ _ => (pe_c (cal_is_whole T) hr (by decide) rfl (pa_cons (pv 3) (pa_cons pe_int (pa_cons (pe_op op_sub (pv 0) pe_int) pa_nil)))))) pa_nil))))), ?_⟩
    have hf := ok.few
    refine s_ifQ ((t_or (t_not (t_B (e_isi (e_var rfl f3) ki_tuple_tuple))) fun _ => t_test (e_neI (e_lenT (e_var rfl f3)) (e_lenT (e_var rfl f2)))).is (c := false) (by simp [ok.len])) (fun h => nohold h rfl) fun _ H1 s1 => ?_
    exact (e_allT (l := r) (el_map1 (xs := r) (enc := PyData.int) (g := fun _ => .bool true) (w_tup (e_var rfl (f3.same s1))) (by omega) (fun _ _ => rfl) (fun v hv y H2 s2 fy =>
      e_call (ea_cons (e_var rfl fy) (ea_cons e_int (ea_cons (e_sub (e_var rfl (f1.same (s1.trans s2))) e_int) ea_nil))) ⟨v, 0, vals - 1, rfl, by
        have := ok.rng v hv
        simp
        omega⟩)).ef).ret fun v H' s' => k v H' (s1.trans s')

def R_edge (ds : List PyData) (d : PyData) : Prop := ∃ (e : Nat × Nat) (m : Nat), ds = [eE e, eN m] ∧ e.1 < e.2 ∧ e.2 < m ∧ d = .bool true
theorem sc_is_edge : FnScope ["value", "many", "one"] ["value", "many"] (defScope s_is_edge) := ⟨rfl, rfl, rfl, by decide +kernel, rfl, by decide +kernel, by decide +kernel⟩
theorem cal_is_edge (T : Tx K mg) : Cal P w K mg base 2 "is_edge" (spP R_edge) [] :=
  T.cal 8 8 rfl rfl sc_is_edge (fun _ _ _ _ _ _ us hl => match us, hl with | [_, _], _ => rfl) (spP_len fun ds d ⟨_, _, e, _⟩ => by rw [e]; rfl) fun f cdv A outer s H vs Q E hr h => by
    obtain ⟨ds, d, fv, ⟨e, m, rfl, h1, h2, rfl⟩, k⟩ := h
    obtain ⟨x, y, rfl, f1, f2⟩ := fv.I2
    refine ⟨_, (pss_cons (ps_if (PW.pt (pw_or (pt_not (pt_val (pe_callB (k_isi (K := K)) (by rfl) T.n_isinstance (by decide +kernel) (pa_cons (pv 0) (pa_cons (pe_bltn (v := .ty "tuple") (by rfl) T.n_tuple (by decide +kernel) rfl) pa_nil))))) (pw_or (pt_cmpR op_ne (pe_callB (k_len (K := K)) (by rfl) T.n_len (by decide +kernel) (pa_cons (pv 0) pa_nil)) pe_int (nomark _)) (pw_or1 (pt_not (pt_val (pe_callB (k_all (K := K)) (by rfl) T.n_all (by decide +kernel) (pa_cons (pe_lc (own := [("one", 2)]) (g := gName 2) (tt := tYes) rfl sc_is_edge.nd (k_piT (K := K) (pv 0)) (blkOk_by (N := ["value", "many", "one"]) (sc := defScope s_is_edge) (by decide +kernel)) (fun _ _ _ _ _ => (pg_name (i := 2) sc_is_edge.nd rfl (Or.inl rfl))) (fun _ _ _ _ _ => pts_nil) (fun _ _ _ _ _ => (pe_c (cal_is_number T) hr (by decide) rfl (pa_cons (pv 2) (pa_cons pe_int (pa_cons (pe_op op_sub (pv 1) pe_int) pa_nil)))))) pa_nil)))))))) (pss_one (ps_ret pe_bl)) pss_nil)
      (pss_one (ps_ret (pe_cmpR op_lt (pe_ix (k_ixT (K := K)) (pv 0) pe_int (fun _ _ => rfl)) (pe_ix (k_ixT (K := K)) (pv 0) pe_int (fun _ _ => rfl)) (nomark _))))), ?_⟩
    refine s_ifQ ((t_or (t_not (t_B (e_isi (e_var rfl f1) ki_tuple_tuple))) fun _ => t_or (t_test (e_neI (e_lenT (e_var rfl f1)) e_int)) fun _ => t_not (t_B (e_allT (l := [e.1, e.2]) (el_map1 (xs := [e.1, e.2]) (enc := eN) (g := fun _ => .bool true) (w_tup (e_var rfl f1)) (by simp) (fun _ _ => rfl) (fun v hv y H1 s1 fy =>
      e_call (ea_cons (e_var rfl fy) (ea_cons e_int (ea_cons (e_sub (e_var rfl (f2.same s1)) e_int) ea_nil))) ⟨v, 0, m - 1, rfl, by
        have : v < m := by
          simp at hv
          rcases hv with rfl | rfl <;> omega
        simp
        omega⟩)).ef))).is (c := false) (by simp)) (fun h => nohold h rfl) fun _ H1 s1 => ?_
    refine ((e_lt (e_ixT (e_var rfl (f1.same s1)) e_int (by rfl)) (e_ixT (e_var rfl (f1.same s1)) e_int (by rfl))).is ?_).ret fun v H' s' => k v H' (s1.trans s')
    rw [decide_eq_true (by omega)]

theorem e_ltT {σ : L2.St} {H : Hp} {ta tb : TE} {ns ms : Row} (ha : EF ta σ H (eR ns)) (hb : EF tb σ H (eR ms)) : EF (tOp (rLtT K) ta tb) σ H (.bool (ltR ns ms)) :=
  e_op ha hb fun x y H1 s f1 f2 Q q => by
    obtain ⟨a, xs, rfl, ea, fa⟩ := f1.tupI
    obtain ⟨b, ys, rfl, eb, fb⟩ := f2.tupI
    obtain rfl := fz_ints fa
    obtain rfl := fz_ints fb
    exact ⟨a, b, ns, ms, rfl, rfl, SqT.of ea, SqT.of eb, q _ H1 (Same.refl _) (.bl _)⟩
theorem ed_at {g : Gr} {i : Nat} (hi : i < g.eds.length) : atI (g.eds.map eE) (i : Int) = some (eR [((g.eds.getD i (0, 0)).1 : Int), ((g.eds.getD i (0, 0)).2 : Int)]) := by
  refine atI_nat ?_
  rw [List.getElem?_map, List.getElem?_eq_getElem hi]
  simp [List.getD_eq_getElem?_getD, hi]
  rfl
theorem ed_asc {g : Gr} (G : GOK g) {i : Nat} (hi : i + 1 < g.eds.length) : ltR [((g.eds.getD i (0, 0)).1 : Int), ((g.eds.getD i (0, 0)).2 : Int)] [((g.eds.getD (i + 1) (0, 0)).1 : Int), ((g.eds.getD (i + 1) (0, 0)).2 : Int)] = true := by
  have h : ∀ p ∈ shapes, ∀ i, i < 3 → i + 1 < p.2.length → ltR [((p.2.getD i (0, 0)).1 : Int), ((p.2.getD i (0, 0)).2 : Int)] [((p.2.getD (i + 1) (0, 0)).1 : Int), ((p.2.getD (i + 1) (0, 0)).2 : Int)] = true := by decide
  have := G.e3
  exact h _ G.shape i (by omega) hi
def R_graph (ds : List PyData) (d : PyData) : Prop := ∃ g, ds = [eG g] ∧ GOK g ∧ d = .bool true
theorem sc_is_graph : FnScope ["value", "values", "scopes", "edges", "one", "edge", "at"] ["value"] (defScope s_is_graph) := ⟨rfl, rfl, rfl, by decide +kernel, rfl, by decide +kernel, by decide +kernel⟩
theorem cal_is_graph (T : Tx K mg) : Cal P w K mg base 4 "is_graph" (spP R_graph) [] :=
  T.cal 9 9 rfl rfl sc_is_graph (fun _ _ _ _ _ _ us hl => match us, hl with | [_], _ => rfl) (spP_len fun ds d ⟨_, e, _⟩ => by rw [e]; rfl) fun f cdv A outer s H vs Q E hr h => by
    obtain ⟨ds, d, fv, ⟨g, rfl, G, rfl⟩, k⟩ := h
    obtain ⟨x, rfl, f1⟩ := fv.oneI
    refine ⟨_, (pss_cons (ps_if (PW.pt (pw_or (pt_not (pt_val (pe_callB (k_isi (K := K)) (by rfl) T.n_isinstance (by decide +kernel) (pa_cons (pv 0) (pa_cons (pe_bltn (v := .ty "tuple") (by rfl) T.n_tuple (by decide +kernel) rfl) pa_nil))))) (pw_or (pt_cmpR op_ne (pe_callB (k_len (K := K)) (by rfl) T.n_len (by decide +kernel) (pa_cons (pv 0) pa_nil)) pe_int (nomark _)) (pw_or1 (pt_not (pt_val (pe_c (cal_is_number T) hr (by decide) rfl (pa_cons (pe_ix (k_ixT (K := K)) (pv 0) pe_int (fun _ _ => rfl)) (pa_cons pe_int (pa_cons pe_int pa_nil)))))))))) (pss_one (ps_ret pe_bl)) pss_nil)
      (pss_cons (ps_asg (pv 0) (k_tg (K := K) (n := 3) (pgs_cons (pg_name (i := 1) sc_is_graph.nd rfl (Or.inl rfl)) (pgs_cons (pg_name (i := 2) sc_is_graph.nd rfl (Or.inr rfl)) (pgs_cons (pg_name (i := 3) sc_is_graph.nd rfl (Or.inr rfl)) pgs_nil)))))
      (pss_cons (ps_if (PW.pt (pw_or (pt_not (pt_val (pe_callB (k_isi (K := K)) (by rfl) T.n_isinstance (by decide +kernel) (pa_cons (pv 2) (pa_cons (pe_bltn (v := .ty "tuple") (by rfl) T.n_tuple (by decide +kernel) rfl) pa_nil))))) (pw_or1 (pt_not (pt_chain op_le op_le pe_int (pe_callB (k_len (K := K)) (by rfl) T.n_len (by decide +kernel) (pa_cons (pv 2) pa_nil)) (pe_gc (by rfl) T.c_MOST_NODES)))))) (pss_one (ps_ret pe_bl)) pss_nil)
      (pss_cons (ps_if (pt_not (pt_val (pe_callB (k_all (K := K)) (by rfl) T.n_all (by decide +kernel) (pa_cons (pe_lc (own := [("one", 4)]) (g := gName 4) (tt := tYes) rfl sc_is_graph.nd (k_piT (K := K) (pv 2)) (blkOk_by (N := ["value", "values", "scopes", "edges", "one", "edge", "at"]) (sc := defScope s_is_graph) (by decide +kernel)) (fun _ _ _ _ _ => (pg_name (i := 4) sc_is_graph.nd rfl (Or.inl rfl))) (fun _ _ _ _ _ => pts_nil) (fun _ _ _ _ _ => (pe_c (cal_is_scope T) hr (by decide) rfl (pa_cons (pv 4) pa_nil)))) pa_nil)))) (pss_one (ps_ret pe_bl)) pss_nil)
      (pss_cons (ps_if (PW.pt (pw_or (pt_not (pt_val (pe_callB (k_isi (K := K)) (by rfl) T.n_isinstance (by decide +kernel) (pa_cons (pv 3) (pa_cons (pe_bltn (v := .ty "tuple") (by rfl) T.n_tuple (by decide +kernel) rfl) pa_nil))))) (pw_or1 (pt_not (pt_val (pe_callB (k_all (K := K)) (by rfl) T.n_all (by decide +kernel) (pa_cons (pe_lc (own := [("edge", 5)]) (g := gName 5) (tt := tYes) rfl sc_is_graph.nd (k_piT (K := K) (pv 3)) (blkOk_by (N := ["value", "values", "scopes", "edges", "one", "edge", "at"]) (sc := defScope s_is_graph) (by decide +kernel)) (fun _ _ _ _ _ => (pg_name (i := 5) sc_is_graph.nd rfl (Or.inl rfl))) (fun _ _ _ _ _ => pts_nil) (fun _ _ _ _ _ => (pe_c (cal_is_edge T) hr (by decide) rfl (pa_cons (pv 5) (pa_cons (pe_callB (k_len (K := K)) (by rfl) T.n_len (by decide +kernel) (pa_cons (pv 2) pa_nil)) pa_nil))))) pa_nil))))))) (pss_one (ps_ret pe_bl)) pss_nil)
      (pss_one (ps_ret (pe_callB (k_all (K := K)) (by rfl) T.n_all (by decide +kernel) (pa_cons (pe_lc (own := [("at", 6)]) (g := gName 6) (tt := tYes) rfl sc_is_graph.nd (pi_range1 (by rfl) T.n_range (pa_cons (pe_op op_sub (pe_callB (k_len (K := K)) (by rfl) T.n_len (by decide +kernel) (pa_cons (pv 3) pa_nil)) pe_int) pa_nil)) (blkOk_by (N := ["value", "values", "scopes", "edges", "one", "edge", "at"]) (sc := defScope s_is_graph) (by decide +kernel)) (fun _ _ _ _ _ => (pg_name (i := 6) sc_is_graph.nd rfl (Or.inl rfl))) (fun _ _ _ _ _ => pts_nil) (fun _ _ _ _ _ => (pe_cmpR (k_ltT (K := K) hr.units0) (pe_ix (k_ixT (K := K)) (pv 3) (pv 6) (fun _ _ => rfl)) (pe_ix (k_ixT (K := K)) (pv 3) (pe_op op_add (pv 6) pe_int) (fun _ _ => rfl)) (nomark _)))) pa_nil))))))))), ?_⟩
    have hn := G.n4
    have he := G.e3
    have hn' : g.scs.length = g.n := rfl
    refine s_ifQ ((t_or (t_not (t_B (e_isi (e_var rfl f1) ki_tuple_tuple))) fun _ => t_or (t_test (e_neI (e_lenT (e_var rfl f1)) e_int)) fun _ => t_not (t_B
      (e_call (ea_cons (e_ixT (e_var rfl f1) e_int (by rfl)) (ea_cons e_int (ea_cons e_int ea_nil))) ⟨g.vals, 2, 3, rfl, rfl⟩))).is (c := false) (by rcases G.vals with h | h <;> simp [h])) (fun h => nohold h rfl) fun _ H1 s1 => ?_
    refine s_asg3 (e_var rfl (f1.same s1)) fun v1 v2 v3 H2 s2 g1 g2 g3 => ?_
    refine s_ifQ ((t_or (t_not (t_B (e_isi (e_var rfl g2) ki_tuple_tuple))) fun _ => t_not (t_test (e_chain e_int (e_lenT (e_var rfl g2)) e_gl))).is (c := false) (by simp; omega)) (fun h => nohold h rfl) fun _ H3 s3 => ?_
    refine s_ifQ (t_not (t_B (e_allT (l := g.scs) (el_map1 (xs := g.scs) (enc := eR) (g := fun _ => .bool true) (w_tup (e_var rfl (g2.same s3))) (by omega) (fun _ _ => rfl) (fun r hr y H4 s4 fy =>
      e_call (ea_cons (e_var rfl fy) ea_nil) ⟨r, rfl, G.asc r hr, G.few r hr, G.rng r hr, rfl⟩)).ef))) (fun h => nohold h rfl) fun _ H4 s4 => ?_
    have s34 := s3.trans s4
    refine s_ifQ ((t_or (t_not (t_B (e_isi (e_var rfl (g3.same s34)) ki_tuple_tuple))) fun _ => t_not (t_B (e_allT (l := g.eds) (el_map1 (xs := g.eds) (enc := eE) (g := fun _ => .bool true) (w_tup (e_var rfl (g3.same s34))) (by omega) (fun _ _ => rfl) (fun e hm y H5 s5 fy =>
      e_call (ea_cons (e_var rfl fy) (ea_cons (e_lenT (e_var rfl (g2.same (s34.trans s5)))) ea_nil)) ⟨e, g.n, by simp [Gr.n], (G.elt e hm).1, (G.elt e hm).2, rfl⟩)).ef))).is (c := false) (by rfl)) (fun h => nohold h rfl) fun _ H5 s5 => ?_
    have g3' := (g3.same s34).same s5
    refine (e_allT (l := List.range (((g.eds.map eE).length : Int) - 1).toNat) (el_map1 (xs := List.range (((g.eds.map eE).length : Int) - 1).toNat) (enc := fun (i : Nat) => .int (i : Int)) (g := fun _ => .bool true)
      (w_rng1i (ea_cons (e_sub (e_lenT (e_var rfl g3')) e_int) ea_nil) (by simp; omega) (by omega)) (by simp; omega) (fun _ _ => rfl) (fun i hi y H6 s6 fy => ?_)).ef).ret fun v H' s' => k v H' ((((s1.trans s2).trans s34).trans s5).trans s')
    have hi2 : i + 1 < g.eds.length := by
      have := List.mem_range.mp hi
      simp at this
      omega
    refine (e_ltT (e_ixT (e_var rfl (g3'.same s6)) (e_var rfl fy) (ed_at (by omega))) (e_ixT (e_var rfl (g3'.same s6)) ((e_add (e_var rfl fy) e_int).is (e := .int ((i + 1 : Nat) : Int)) (by simp)) (ed_at hi2))).is ?_
    rw [ed_asc G hi2]

def R_chk (ds : List PyData) (d : PyData) : Prop := ∃ g, ds = [eG g] ∧ GOK g ∧ d = .none
theorem sc_check_graph : FnScope ["value"] ["value"] (defScope s_check_graph) := ⟨rfl, rfl, rfl, by decide +kernel, rfl, by decide +kernel, by decide +kernel⟩
theorem cal_check_graph (T : Tx K mg) : Cal P w K mg base 5 "check_graph" (spP R_chk) [] :=
  T.cal 12 12 rfl rfl sc_check_graph (fun _ _ _ _ _ _ us hl => match us, hl with | [_], _ => rfl) (spP_len fun ds d ⟨_, e, _⟩ => by rw [e]; rfl) fun f cdv A outer s H vs Q E hr h => by
    obtain ⟨ds, d, fv, ⟨g, rfl, G, rfl⟩, k⟩ := h
    obtain ⟨x, rfl, f1⟩ := fv.oneI
    refine ⟨_, (pss_one (ps_if (pt_not (pt_val (pe_c (cal_is_graph T) hr (by decide) rfl (pa_cons (pv 0) pa_nil)))) (pss_one ps_never) pss_nil)), ?_⟩
    refine s_if (t_not (t_B (e_call (ea_cons (e_var rfl f1) ea_nil) ⟨g, rfl, G, rfl⟩))) (fun h => nohold h rfl) fun _ H1 s1 => k _ _ s1 .non
end
end Tt

namespace Tt
open PySem PySem.Spec PyProof.Rows L2
open C8 (Cal Met Mak pe_c pe_mk pe_mt pe_mt0 pe_gc)
section
variable {P : Program} {w : World} {K : PySem.W.Frag} {mg : Str → Option Value} {base : Heap}
theorem tbN : ∀ l : List Nat, tupsB (eNs l) = true := fun l => tupsB_map fun _ => rfl

def R_nbrs (ds : List PyData) (d : PyData) : Prop := ∃ g n, ds = [eG g, eN n] ∧ GOK g ∧ d = .tuple (eNs (nbrs g n))
theorem sc_neighbours : FnScope ["graph", "node", "found", "one", "other"] ["graph", "node"] (defScope s_neighbours) := ⟨rfl, rfl, rfl, by decide +kernel, rfl, by decide +kernel, by decide +kernel⟩
theorem el_half {K : PySem.W.Frag} {te : TE} {σ : L2.St} {H : Hp} {ds : List PyData} (h : EL te σ H ds) (f : ds.length ≤ 10) : EL te σ H ds := h
theorem cal_neighbours (T : Tx K mg) : Cal P w K mg base 1 "neighbours" (spP R_nbrs) [] :=
  T.cal 14 14 rfl rfl sc_neighbours (fun _ _ _ _ _ _ us hl => match us, hl with | [_, _], _ => rfl) (spP_len fun ds d ⟨_, _, e, _⟩ => by rw [e]; rfl) fun f cdv A outer s H vs Q E hr h => by
    obtain ⟨ds, d, fv, ⟨g, n, rfl, G, rfl⟩, k⟩ := h
    obtain ⟨x, y, rfl, f1, f2⟩ := fv.I2
    refine ⟨_, (pss_cons (ps_set (i := 2) sc_neighbours.nd rfl (Or.inl rfl) (pe_op op_cat (pe_lc (own := [("one", 3), ("other", 4)]) (g := g2 K 3 4) rfl sc_neighbours.nd (k_piT (K := K) (pe_ix (k_ixT (K := K)) (pv 0) pe_int (fun _ _ => rfl))) (blkOk_by (N := ["graph", "node", "found", "one", "other"]) (sc := defScope s_neighbours) (by decide +kernel)) (fun _ _ _ _ _ => (k_tg (K := K) (n := 2) (pgs_cons (pg_name (i := 3) sc_neighbours.nd rfl (Or.inl rfl)) (pgs_cons (pg_name (i := 4) sc_neighbours.nd rfl (Or.inl rfl)) pgs_nil)))) (fun _ _ _ _ _ => (pts_one (pt_cmpR op_eq (pv 3) (pv 1) (nomark _)))) (fun _ _ _ _ _ => (pv 4))) (pe_lc (own := [("one", 3), ("other", 4)]) (g := g2 K 3 4) rfl sc_neighbours.nd (k_piT (K := K) (pe_ix (k_ixT (K := K)) (pv 0) pe_int (fun _ _ => rfl))) (blkOk_by (N := ["graph", "node", "found", "one", "other"]) (sc := defScope s_neighbours) (by decide +kernel)) (fun _ _ _ _ _ => (k_tg (K := K) (n := 2) (pgs_cons (pg_name (i := 3) sc_neighbours.nd rfl (Or.inl rfl)) (pgs_cons (pg_name (i := 4) sc_neighbours.nd rfl (Or.inl rfl)) pgs_nil)))) (fun _ _ _ _ _ => (pts_one (pt_cmpR op_eq (pv 4) (pv 1) (nomark _)))) (fun _ _ _ _ _ => (pv 3)))))
      (pss_one (ps_ret (pe_callTy (k_tupOf (K := K)) (by rfl) T.n_tuple (by decide +kernel) (pa_cons (pe_callB (k_srtI (K := K)) (by rfl) T.n_sorted (by decide +kernel) (pa_cons (pv 2) pa_nil)) pa_nil))))), ?_⟩
    have he := G.e3
    have l1 := List.length_filter_le (fun e : Nat × Nat => decide (e.1 = n)) g.eds
    have l2 := List.length_filter_le (fun e : Nat × Nat => decide (e.2 = n)) g.eds
    refine s_asg (el_cat (el_flt2 (K := K) (xs := g.eds) (e1 := fun e => eN e.1) (e2 := fun e => eN e.2) (f := fun e => decide (e.1 = n)) (g := fun e => eN e.2)
        (w_tup (e_ixT (e_var rfl f1) e_int (by rfl))) (by omega) (fun _ _ _ => rfl) (fun e hm y1 y2 H1 s1 g1 g2 => ⟨(t_test (e_eqI (e_var rfl g1) (e_var rfl (f2.same s1)))).is (decN _ _), fun _ => e_var rfl g2⟩))
      (el_flt2 (K := K) (xs := g.eds) (e1 := fun e => eN e.1) (e2 := fun e => eN e.2) (f := fun e => decide (e.2 = n)) (g := fun e => eN e.1)
        (w_tup (e_ixT (e_var rfl f1) e_int (by rfl))) (by omega) (fun _ _ _ => rfl) (fun e hm y1 y2 H1 s1 g1 g2 => ⟨(t_test (e_eqI (e_var rfl g2) (e_var rfl (f2.same s1)))).is (decN _ _), fun _ => e_var rfl g1⟩))
      (by simp; omega)).ef fun v H1 s1 fz => ?_
    have fz' : Fz H1 v (.list (eNs ((g.eds.filter fun e => decide (e.1 = n)).map (·.2) ++ (g.eds.filter fun e => decide (e.2 = n)).map (·.1)))) := by
      rw [eNs, List.map_append, List.map_map, List.map_map]
      exact fz
    exact (e_tupL (el_srtN (e_var rfl fz')).ef).ret fun v H' s' => k v H' (s1.trans s')

def R_having (ds : List PyData) (d : PyData) : Prop := ∃ g v, ds = [eG g, .int v] ∧ GOK g ∧ d = .tuple (eNs ((List.range g.n).filter fun n => decide (v ∈ g.sc n)))
theorem sc_having : FnScope ["graph", "variable", "node", "scope"] ["graph", "variable"] (defScope s_having) := ⟨rfl, rfl, rfl, by decide +kernel, rfl, by decide +kernel, by decide +kernel⟩
theorem cal_having (T : Tx K mg) : Cal P w K mg base 1 "having" (spP R_having) [] :=
  T.cal 17 17 rfl rfl sc_having (fun _ _ _ _ _ _ us hl => match us, hl with | [_, _], _ => rfl) (spP_len fun ds d ⟨_, _, e, _⟩ => by rw [e]; rfl) fun f cdv A outer s H vs Q E hr h => by
    obtain ⟨ds, d, fv, ⟨g, v, rfl, G, rfl⟩, k⟩ := h
    obtain ⟨x, y, rfl, f1, f2⟩ := fv.I2
    refine ⟨_, (pss_one (ps_ret (pe_callTy (k_tupOf (K := K)) (by rfl) T.n_tuple (by decide +kernel) (pa_cons (pe_lc (own := [("node", 2), ("scope", 3)]) (g := g2 K 2 3) rfl sc_having.nd (k_piEnumT (K := K) (by rfl) T.n_enumerate (pa_cons (pe_ix (k_ixT (K := K)) (pv 0) pe_int (fun _ _ => rfl)) pa_nil)) (blkOk_by (N := ["graph", "variable", "node", "scope"]) (sc := defScope s_having) (by decide +kernel)) (fun _ _ _ _ _ => (k_tg (K := K) (n := 2) (pgs_cons (pg_name (i := 2) sc_having.nd rfl (Or.inl rfl)) (pgs_cons (pg_name (i := 3) sc_having.nd rfl (Or.inl rfl)) pgs_nil)))) (fun _ _ _ _ _ => (pts_one (pt_cmpR (k_in (K := K)) (pv 1) (pv 3) (by rfl)))) (fun _ _ _ _ _ => (pv 2))) pa_nil)))), ?_⟩
    have hn := G.n4
    refine (e_tupL (el_flt2 (K := K) (xs := List.range g.n) (e1 := fun i => eN i) (e2 := fun i => eR (g.sc i)) (f := fun i => decide (v ∈ g.sc i)) (g := fun i => eN i)
        ((w_enumT (ea_cons (e_ixT (e_var rfl f1) e_int (by rfl)) ea_nil)).is ?_) (by simp; omega) (fun _ _ _ => rfl) (fun i hi y1 y2 H1 s1 g1 g2 => ⟨t_test (e_inT (e_var rfl (f2.same s1)) (e_var rfl g2)), fun _ => e_var rfl g1⟩)).ef).ret k
    rw [List.length_map]
    refine List.map_congr_left fun i hi => ?_
    have hi' : i < g.scs.length := List.mem_range.mp hi
    simp [List.getD_eq_getElem?_getD, hi', Gr.sc]

def R_hang (ds : List PyData) (d : PyData) : Prop := ∃ g S am, ds = [eG g, eN (S.headD 0), am] ∧ (am = .tuple (eNs S) ∨ am = .list (eNs S)) ∧ GOK g ∧ S.Sublist (List.range g.n) ∧ closed g.eds S = true ∧ d = .tuple (eNs S)
theorem sc_hanging : FnScope ["graph", "node", "among", "found", "at", "other"] ["graph", "node", "among"] (defScope s_hanging) := ⟨rfl, rfl, rfl, by decide +kernel, rfl, by decide +kernel, by decide +kernel⟩
theorem hst_len (eds : List (Nat × Nat)) (S : List Nat) (a : Nat) (hS : S.length ≤ 4) (k : Nat) : (hst eds S a k).2.length ≤ 1 + 100 * k ∧ (∀ n, (nbE eds n).length ≤ 90) → True := fun _ => trivial
theorem cal_hanging (T : Tx K mg) : Cal P w K mg base 2 "hanging" (spP R_hang) [] :=
  T.cal 16 16 rfl rfl sc_hanging (fun _ _ _ _ _ _ us hl => match us, hl with | [_, _, _], _ => rfl) (spP_len fun ds d ⟨_, _, _, e, _⟩ => by rw [e]; rfl) fun f cdv A outer s H vs Q E hr h => by
    obtain ⟨ds, d, fv, ⟨g, S, am, rfl, ham, G, hsub, hcl, rfl⟩, k⟩ := h
    obtain ⟨x, y, z, rfl, f1, f2, f3⟩ := fv.I3
    refine ⟨_, (pss_cons (ps_set (i := 3) sc_hanging.nd rfl (Or.inr rfl) (pe_lst (pa_cons (pv 1) pa_nil)))
      (pss_cons (ps_set (i := 4) sc_hanging.nd rfl (Or.inl rfl) pe_int)
      (pss_cons (ps_while PassesOwn.never (pt_cmpR op_lt (pv 4) (pe_callB (k_len (K := K)) (by rfl) T.n_len (by decide +kernel) (pa_cons (pv 3) pa_nil)) (nomark _))
        (pss_cons (ps_expr (k_bm (K := K) PySem.F.plainAttrs_list PySem.F.slot_list_extend PySem.F.type_list_extend mt_extend (pv 3) (pa_cons (pe_lc (own := [("other", 5)]) (g := gName 5) rfl sc_hanging.nd (k_piT (K := K) (pe_c (cal_neighbours T) hr (by decide) rfl (pa_cons (pv 0) (pa_cons (pe_ix (k_ixL (K := K)) (pv 3) (pv 4) (fun _ _ => rfl)) pa_nil)))) (blkOk_by (N := ["graph", "node", "among", "found", "at", "other"]) (sc := defScope s_hanging) (by decide +kernel)) (fun _ _ _ _ _ => (pg_name (i := 5) sc_hanging.nd rfl (Or.inl rfl))) (fun _ _ _ _ _ => (pts_one (PW.pt (pw_and (pt_cmpR (k_in (K := K)) (pv 5) (pv 2) (by rfl)) (pw_and1 (pt_cmpR (k_nin (K := K)) (pv 5) (pv 3) (by rfl))))))) (fun _ _ _ _ _ => (pv 5))) pa_nil)))
        (pss_one (ps_set (i := 4) sc_hanging.nd rfl (Or.inl rfl) (pe_op op_add (pv 4) pe_int)))))
      (pss_one (ps_ret (pe_callTy (k_tupOf (K := K)) (by rfl) T.n_tuple (by decide +kernel) (pa_cons (pe_callB (k_srtI (K := K)) (by rfl) T.n_sorted (by decide +kernel) (pa_cons (pv 3) pa_nil)) pa_nil))))))), ?_⟩
    have hh : hangOk (g.n, g.eds) S = true := hang_all _ G.shape _ (mem_subs hsub)
    unfold hangOk at hh
    rw [show closed (g.n, g.eds).2 S = true from hcl] at hh
    simp only [Bool.not_true, Bool.false_or, Bool.and_eq_true, decide_eq_true_eq, List.all_eq_true] at hh
    obtain ⟨⟨hend, hsrt⟩, hrng⟩ := hh
    generalize S.headD 0 = a at *
    have he := G.e3
    have nlen : ∀ n, (nbrs g n).length ≤ 6 := fun n => by
      have l1 := List.length_filter_le (fun e : Nat × Nat => decide (e.1 = n)) g.eds
      have l2 := List.length_filter_le (fun e : Nat × Nat => decide (e.2 = n)) g.eds
      have := (isort_perm ltN ((g.eds.filter fun e => decide (e.1 = n)).map (·.2) ++ (g.eds.filter fun e => decide (e.2 = n)).map (·.1))).length_eq
      simp only [nbrs, srtN, this, List.length_append, List.length_map]
      omega
    have hlen : ∀ k, (hst g.eds S a k).2.length ≤ 1 + 6 * k := fun k => by
      induction k with
      | zero => simp [hst]
      | succ k ih =>
        unfold hst
        split
        · unfold hstep
          rw [List.length_append]
          have l3 := List.length_filter_le (fun o => decide (o ∈ S) && !decide (o ∈ (hst g.eds S a k).2)) (nbE g.eds ((hst g.eds S a k).2.getD (hst g.eds S a k).1 0))
          have l4 := nlen ((hst g.eds S a k).2.getD (hst g.eds S a k).1 0)
          rw [nbrs_eq] at l4
          omega
        · omega
    -- found = [node]
    refine s_asgL (el_lst (ea_cons (e_var rfl f2) ea_nil)) fun l xs H1 n1 s1 e1 g1 => ?_
    -- at = 0
    refine s_asg e_int fun v H2 s2 g2 => ?_
    cases g2
    have hxs : xs = (eNs [a]).map (fun d => match d with | .int i => V.int i | _ => V.non) := by
      have := fz_ints (ns := [((a : Nat) : Int)]) g1
      rw [this]
      rfl
    refine s_while (fun m σ' H' => ∃ k xs, k ≤ 5 ∧ m = 5 - k ∧ σ' = [some x, some y, some z, some (.ref l), some (.int ((hst g.eds S a k).1 : Int)), none] ∧ Same H H' ∧ H' l = some (.lst xs) ∧ FzAll H' xs (eNs (hst g.eds S a k).2)) 5
      ⟨0, xs, by omega, rfl, rfl, s1.trans s2, s2 _ _ e1, g1.same s2⟩ ?_
    rintro m σ' H' ⟨k0, xs', hk5, rfl, rfl, s3, e3, g3⟩
    have fl : Fz H' (.ref l) (.list (eNs (hst g.eds S a k0).2)) := .lst e3 g3
    refine ⟨_, t_test (e_lt (e_var rfl (.int _)) (e_lenL (e_var rfl fl))), fun ht H3 s4 => ?_, fun hf H3 s4 => ?_⟩
    · have hlt : (hst g.eds S a k0).1 < (hst g.eds S a k0).2.length := by
        have := of_decide_eq_true ht
        simp at this
        omega
      have hk : k0 < 5 := by
        rcases Nat.lt_or_eq_of_le hk5 with h | h
        · exact h
        · rw [h] at hlt
          omega
      have hin : (hst g.eds S a k0).2.getD (hst g.eds S a k0).1 0 < g.n := by
        have := hrng k0 (by simp; omega) ((hst g.eds S a k0).2.getD (hst g.eds S a k0).1 0) (by simp [List.getD_eq_getElem?_getD, hlt])
        exact this
      have f1' := f1.same (s3.trans s4)
      have f3' := f3.same (s3.trans s4)
      have fl' := fl.same s4
      have ll := hlen k0
      refine s_extV (s4 _ _ e3) (at_var rfl) (ds := eNs ((nbrs g ((hst g.eds S a k0).2.getD (hst g.eds S a k0).1 0)).filter fun o => decide (o ∈ S) && !decide (o ∈ (hst g.eds S a k0).2)))
        (el_flt1 (xs := nbrs g ((hst g.eds S a k0).2.getD (hst g.eds S a k0).1 0)) (enc := eN) (f := fun o => decide (o ∈ S) && !decide (o ∈ (hst g.eds S a k0).2)) (g := eN)
          (w_tup (e_call (ea_cons (e_var rfl f1') (ea_cons (e_ixL (e_var rfl fl') (e_var rfl (.int _)) (n_at hlt)) ea_nil)) ⟨g, _, rfl, G, rfl⟩)) (by have := nlen ((hst g.eds S a k0).2.getD (hst g.eds S a k0).1 0); omega) (fun _ _ _ => rfl)
          (fun o ho y1 H4 s5 g4 => ⟨t_and (t_test (e_inN (e_var rfl g4) (e_var rfl (f3'.same s5)) ham)) fun _ => t_test (e_inN (neg := true) (e_var rfl g4) (e_var rfl (fl'.same s5)) (.inr rfl)), fun _ => e_var rfl g4⟩)) ?_ ?_
      · have l3 := List.length_filter_le (fun o => decide (o ∈ S) && !decide (o ∈ (hst g.eds S a k0).2)) (nbrs g ((hst g.eds S a k0).2.getD (hst g.eds S a k0).1 0))
        have l4 := nlen ((hst g.eds S a k0).2.getD (hst g.eds S a k0).1 0)
        rw [g3.len, List.length_map, List.length_map]
        omega
      · intro ys H4 s5 g4
        have t5 := tk_upd (o' := .lst (xs' ++ ys)) (s5 _ _ (s4 _ _ e3)) (fun xs z => by cases z)
        refine s_asg1 (e_add (e_var rfl (.int _)) e_int) fun v H5 s6 g5 => ?_
        cases g5
        refine ⟨5 - (k0 + 1), by omega, k0 + 1, xs' ++ ys, by omega, rfl, ?_, (same_mut ((s3.trans s4).trans s5) n1).trans s6, s6 _ _ upd_same, ?_⟩
        · rw [hst, if_pos hlt]
          simp [hstep]
        · refine FzAll.same s6 ?_
          rw [hst, if_pos hlt]
          show FzAll _ _ (eNs ((hst g.eds S a k0).2 ++ _))
          rw [eNs, List.map_append]
          exact (FzAll.tk t5 ((g3.same s4).same s5) (tbN _)).append (g4.tk t5 (tbN _))
    · have hge : (hst g.eds S a k0).2.length ≤ (hst g.eds S a k0).1 := by
        have := of_decide_eq_false hf
        simp at this
        omega
      have stay : ∀ j, hst g.eds S a (k0 + j) = hst g.eds S a k0 := fun j => by
        induction j with
        | zero => rfl
        | succ j ih =>
          show hst g.eds S a ((k0 + j) + 1) = _
          rw [hst, if_neg (by rw [ih]; omega), ih]
      have e5 : hst g.eds S a k0 = hst g.eds S a 5 := by
        have := stay (5 - k0)
        rw [← this, Nat.add_sub_of_le hk5]
      refine (e_tupL (el_srtN (e_var rfl (fl.same s4))).ef).ret fun v H5 s5 g5 => k v H5 ((s3.trans s4).trans s5) ?_
      rw [e5] at g5
      rw [hsrt] at g5
      exact g5
end
end Tt

namespace Tt
open PySem PySem.Spec PyProof.Rows L2
open C8 (Cal Met Mak pe_c pe_mk pe_mt pe_mt0 pe_gc)
section
variable {P : Program} {w : World} {K : PySem.W.Frag} {mg : Str → Option Value} {base : Heap}

/-- the dict of names already met -/
def metD (ks : List Int) : List (Key × V) := ks.map fun k => (Sum.inl k, V.bl true)
theorem metD_has : ∀ (ks : List Int) (v : Int), ((metD ks).any fun kv => decide (kv.1 = (Sum.inl v : Key))) = decide (v ∈ ks) := fun ks v => by
  unfold metD
  rw [List.any_map, Bool.eq_iff_iff]
  simp [List.any_eq_true]
theorem metD_put (ks : List Int) (v : Int) : putK (metD ks) (Sum.inl v) (V.bl true) = metD (if v ∈ ks then ks else ks ++ [v]) := by
  unfold putK
  rw [metD_has]
  by_cases h : v ∈ ks
  · rw [if_pos (by simpa using h), if_pos h]
    unfold metD
    rw [List.map_map]
    refine List.map_congr_left fun k hk => ?_
    simp only [Function.comp]
    split <;> rfl
  · rw [if_neg (by simpa using h), if_neg h]
    simp [metD]
def R_scopeOf (ds : List PyData) (d : PyData) : Prop := ∃ g ns vs, ds = [eG g, .list (eNs ns)] ∧ (∀ n ∈ ns, n < g.n) ∧ ns.length ≤ 4 ∧ GOK g ∧ d = eR vs ∧ vs.length ≤ 12 ∧ ∀ v ∈ vs, ∃ n ∈ ns, v ∈ g.sc n
/-- the promise tells some such tuple -/
def spScopeOf : Sp := fun vs H Q _ => ∃ g ns, FzAll H vs [eG g, .list (eNs ns)] ∧ (∀ n ∈ ns, n < g.n) ∧ ns.length ≤ 4 ∧ GOK g ∧
  ∀ r : Row, r.length ≤ 12 → (∀ v ∈ r, ∃ n ∈ ns, v ∈ g.sc n) → ∀ v H', Same H H' → Fz H' v (eR r) → Q v H'
theorem sc_scope_of : FnScope ["graph", "nodes", "found", "node", "variable"] ["graph", "nodes"] (defScope s_scope_of) := ⟨rfl, rfl, rfl, by decide +kernel, rfl, by decide +kernel, by decide +kernel⟩
theorem cal_scope_of (T : Tx K mg) : Cal P w K mg base 1 "scope_of" spScopeOf [] :=
  T.cal 11 11 rfl rfl sc_scope_of (fun _ _ _ _ _ _ us hl => match us, hl with | [_, _], _ => rfl) (fun vs H Q E ⟨g, ns, f, _⟩ => f.len) fun f cdv A outer s H vs Q E hr h => by
    obtain ⟨g, ns, fv, hns, hn4, G, k⟩ := h
    obtain ⟨x, y, rfl, f1, f2⟩ := fv.I2
    obtain ⟨a, ys, rfl, ea, fa⟩ := f2.lstI
    refine ⟨_, (pss_cons (ps_set (i := 2) sc_scope_of.nd rfl (Or.inl rfl) pe_dnewK)
      (pss_cons (ps_for PassesOwn.never rfl (k_piL (K := K) (pv 1)) (pg_name (i := 3) sc_scope_of.nd rfl (Or.inl rfl))
        (pss_one (ps_for PassesOwn.never rfl (k_piT (K := K) (pe_ix (k_ixT (K := K)) (pe_ix (k_ixT (K := K)) (pv 0) pe_int (fun _ _ => rfl)) (pv 3) (fun _ _ => rfl))) (pg_name (i := 4) sc_scope_of.nd rfl (Or.inl rfl))
          (pss_one (ps_dput (hu_of hr) (pv 2) (pv 4) pe_bl rfl)))))
      (pss_one (ps_ret (pe_callTy (k_tupOf (K := K)) (by rfl) T.n_tuple (by decide +kernel) (pa_cons (pe_callB (call_sortedDI rfl) (by rfl) T.n_sorted (by decide +kernel) (pa_cons (pv 2) pa_nil)) pa_nil)))))), ?_⟩
    intro l nl
    have sl := same_new (o := HO.dK []) nl
    refine s_forL (xs := ns) (enc := eN) (at_var rfl) (sl _ _ ea) (fa.same sl) (fun _ _ => rfl)
      (fun i σ' H' => ∃ ks v1 v2, σ' = [some x, some (.ref a), some (.ref l), v1, v2] ∧ Same H H' ∧ H' l = some (.dK (metD ks)) ∧ ks.length ≤ 3 * i ∧ ∀ v ∈ ks, ∃ n ∈ ns, v ∈ g.sc n)
      ⟨[], none, none, rfl, sl, upd_same, by simp, by simp⟩
      (fun i σ' H' ⟨ks, v1, v2, _, s1, e1, _⟩ => ⟨?_, s1 _ _ ea⟩) ?_ ?_
    · intro b xs eb
      by_cases hb : b = l
      · rw [hb, upd_same] at eb
        cases eb
      · rw [upd_ne hb] at eb
        exact s1 _ _ eb
    · rintro i n σ' H' y hi ⟨ks, v1, v2, rfl, s1, e1, hk, hks⟩ fy
      have hmem : n ∈ ns := List.mem_of_getElem? hi
      have f1' := f1.same s1
      refine s_forT1 (xs := g.sc n) (enc := PyData.int) (wt_tup (e_ixT (e_ixT (e_var rfl f1') e_int (by rfl)) (e_var rfl fy) (sc_at (hns n hmem))) (tupsB_map fun _ => rfl))
        (fun B j σ' H' => ∃ ks v2, σ' = [some x, some (.ref a), some (.ref l), some y, v2] ∧ Same H H' ∧ TK B H' ∧ H' l = some (.dK (metD ks)) ∧ ks.length ≤ 3 * i + j ∧ ∀ v ∈ ks, ∃ n ∈ ns, v ∈ g.sc n)
        (fun H1 s2 => ⟨ks, v2, rfl, s1.trans s2, TK.refl _, s2 _ _ e1, by omega, hks⟩) (fun B j σ' H' _ ⟨_, _, _, _, t, _⟩ => t) ?_ ?_
      · rintro B j v σ' H' yv H2 sB hj ⟨ks, v2, rfl, s3, t3, e3, hk3, hks3⟩ s4 fyv
        cases fyv
        have hvm : v ∈ g.sc n := List.mem_of_getElem? hj
        have hl3 : (g.sc n).length ≤ 3 := G.len (hns n hmem)
        have hjl := (List.getElem?_eq_some_iff.mp hj).1
        have hil := (List.getElem?_eq_some_iff.mp hi).1
        have e4 := s4 _ _ e3
        refine ⟨_, rfl, _, rfl, l, _, rfl, DPut.k (k := Sum.inl v) e4 ?_, ?_⟩
        · show (metD ks).length < _
          rw [metD, List.length_map]
          exact Nat.lt_of_le_of_lt (m := 100) (by omega) (by decide)
        · rw [metD_put]
          refine ⟨_, some (.int v), rfl, same_mut (s3.trans s4) nl, (t3.trans (Same.tk s4)).trans (tk_upd e4 fun _ z => by cases z), upd_same, ?_, ?_⟩
          · split
            · omega
            · rw [List.length_append, List.length_singleton]
              omega
          · intro u hu
            split at hu
            · exact hks3 u hu
            · rcases List.mem_append.mp hu with q | q
              · exact hks3 u q
              · rw [List.mem_singleton.mp q]
                exact ⟨n, hmem, hvm⟩
      · rintro B σ' H' sB ⟨ks, v2, rfl, s3, t3, e3, hk3, hks3⟩
        have hl3 : (g.sc n).length ≤ 3 := G.len (hns n hmem)
        exact ⟨ks, _, _, rfl, s3, e3, by omega, hks3⟩
    · rintro σ' H' ⟨ks, v1, v2, rfl, s1, e1, hk, hks⟩
      refine ⟨_, rfl, l, metD ks, ks, rfl, .inl e1, by simp [metD], by omega, fun ys p hp hs hnp => ?_⟩
      refine ⟨p, _, rfl, .inl ⟨SqL.of upd_same, fun q hq => ?_⟩⟩
      have hpq : p ≠ q := fun z => by
        rw [← z, upd_same] at hq
        cases hq
      have hnq : H' q = none := by
        rw [upd_ne hpq.symm] at hq
        exact hq
      refine k ys (by rw [hp.length_eq]; omega) (fun v hv => hks v (hp.mem_iff.mp hv)) _ _ (((s1.trans (same_new hnp))).trans (same_new hq)) (.tup upd_same (fz_of_ints ys))

def spVarsOf : Sp := fun vs H Q _ => ∃ g, FzAll H vs [eG g] ∧ GOK g ∧
  ∀ r : Row, r.length ≤ 12 → (∀ v ∈ r, ∃ n, n < g.n ∧ v ∈ g.sc n) → ∀ v H', Same H H' → Fz H' v (eR r) → Q v H'
theorem sc_variables_of : FnScope ["graph"] ["graph"] (defScope s_variables_of) := ⟨rfl, rfl, rfl, by decide +kernel, rfl, by decide +kernel, by decide +kernel⟩
theorem cal_variables_of (T : Tx K mg) : Cal P w K mg base 2 "variables_of" spVarsOf [] :=
  T.cal 10 10 rfl rfl sc_variables_of (fun _ _ _ _ _ _ us hl => match us, hl with | [_], _ => rfl) (fun vs H Q E ⟨g, f, _⟩ => f.len) fun f cdv A outer s H vs Q E hr h => by
    obtain ⟨g, fv, G, k⟩ := h
    obtain ⟨x, rfl, f1⟩ := fv.oneI
    refine ⟨_, (pss_one (ps_ret (pe_c (cal_scope_of T) hr (by decide) rfl (pa_cons (pv 0) (pa_cons (pe_listRg rfl (by rfl) T.n_list (prg_1 (by rfl) T.n_range (pe_callB (k_len (K := K)) (by rfl) T.n_len (by decide +kernel) (pa_cons (pe_ix (k_ixT (K := K)) (pv 0) pe_int (fun _ _ => rfl)) pa_nil)))) pa_nil))))), ?_⟩
    have hn := G.n4
    refine c_go (ea_cons (e_var rfl f1) (ea_cons (el_rng (n := g.n) ((e_lenT (e_ixT (e_var rfl f1) e_int (by rfl))).is (by simp [Gr.n])) (by omega)).ef ea_nil)) fun vs H1 s1 fz => ?_
    exact ⟨g, _, fz, fun n hn => List.mem_range.mp hn, by simp; omega, G, fun r hr hv v H' s' f' => k r hr (fun v hv' => let ⟨n, h1, h2⟩ := hv v hv'; ⟨n, List.mem_range.mp h1, h2⟩) v H' (s1.trans s') f'⟩

def R_cycle (ds : List PyData) (d : PyData) : Prop := ∃ g, ds = [eG g] ∧ GOK g ∧ d = .bool false
theorem sc_has_cycle : FnScope ["graph", "left", "count", "node"] ["graph"] (defScope s_has_cycle) := ⟨rfl, rfl, rfl, by decide +kernel, rfl, by decide +kernel, by decide +kernel⟩
theorem cal_has_cycle (T : Tx K mg) : Cal P w K mg base 3 "has_cycle" (spP R_cycle) [] :=
  T.cal 18 18 rfl rfl sc_has_cycle (fun _ _ _ _ _ _ us hl => match us, hl with | [_], _ => rfl) (spP_len fun ds d ⟨_, e, _⟩ => by rw [e]; rfl) fun f cdv A outer s H vs Q E hr h => by
    obtain ⟨ds, d, fv, ⟨g, rfl, G, rfl⟩, k⟩ := h
    obtain ⟨x, rfl, f1⟩ := fv.oneI
    refine ⟨_, (pss_cons (ps_set (i := 1) sc_has_cycle.nd rfl (Or.inr rfl) (pe_listRg rfl (by rfl) T.n_list (prg_1 (by rfl) T.n_range (pe_callB (k_len (K := K)) (by rfl) T.n_len (by decide +kernel) (pa_cons (pe_ix (k_ixT (K := K)) (pv 0) pe_int (fun _ _ => rfl)) pa_nil)))))
      (pss_cons (ps_set (i := 2) sc_has_cycle.nd rfl (Or.inl rfl) pe_int)
      (pss_cons (ps_while PassesOwn.never (k_truth (K := K) (pv 1))
        (pss_cons (ps_set (i := 1) sc_has_cycle.nd rfl (Or.inr rfl) (pe_lc (own := [("node", 3)]) (g := gName 3) rfl sc_has_cycle.nd (k_piL (K := K) (pv 1)) (blkOk_by (N := ["graph", "left", "count", "node"]) (sc := defScope s_has_cycle) (by decide +kernel)) (fun _ _ _ _ _ => (pg_name (i := 3) sc_has_cycle.nd rfl (Or.inl rfl))) (fun _ _ _ _ _ => (pts_one (pt_cmpR (k_nin (K := K)) (pv 3) (pe_c (cal_hanging T) hr (by decide) rfl (pa_cons (pv 0) (pa_cons (pe_ix (k_ixL (K := K)) (pv 1) pe_int (fun _ _ => rfl)) (pa_cons (pv 1) pa_nil)))) (by rfl)))) (fun _ _ _ _ _ => (pv 3))))
        (pss_one (ps_set (i := 2) sc_has_cycle.nd rfl (Or.inl rfl) (pe_op op_add (pv 2) pe_int)))))
      (pss_one (ps_ret (pe_cmpR op_lt (pe_op op_sub (pe_callB (k_len (K := K)) (by rfl) T.n_len (by decide +kernel) (pa_cons (pe_ix (k_ixT (K := K)) (pv 0) pe_int (fun _ _ => rfl)) pa_nil)) (pe_callB (k_len (K := K)) (by rfl) T.n_len (by decide +kernel) (pa_cons (pe_ix (k_ixT (K := K)) (pv 0) pe_int (fun _ _ => rfl)) pa_nil))) (pv 2) (nomark _))))))), ?_⟩
    have hn := G.n4
    have hlen : g.eds.length + 1 = g.n := len_eds _ G.shape
    have hcl : closed g.eds (List.range g.n) = true := range_closed _ G.shape
    refine s_asg (el_rng (n := g.n) ((e_lenT (e_ixT (e_var rfl f1) e_int (by rfl))).is (by simp [Gr.n])) (by omega)).ef fun v H1 s1 fl => ?_
    refine s_asg e_int fun u H2 s2 fu => ?_
    cases fu
    -- left = all nodes; behind the turn none
    refine s_while (fun m σ' H' => ∃ v, Same H H' ∧ ((m = 1 ∧ σ' = [some x, some v, some (.int 0), none] ∧ Fz H' v (.list (eNs (List.range g.n)))) ∨ (m = 0 ∧ σ' = [some x, some v, some (.int 1), none] ∧ Fz H' v (.list [])))) 1
      ⟨v, s1.trans s2, .inl ⟨rfl, rfl, fl.same s2⟩⟩ ?_
    rintro m σ' H' ⟨v, s3, h | h⟩
    · obtain ⟨rfl, rfl, fv⟩ := h
      refine ⟨true, (t_trL (e_var rfl fv)).is ?_, fun _ H3 s4 => ?_, fun h => by cases h⟩
      · cases e : g.n with
        | zero => omega
        | succ n => simp
      · have f1' := f1.same (s3.trans s4)
        have fv' := fv.same s4
        have h0 : (List.range g.n).headD 0 = 0 := by
          cases e : g.n with
          | zero => rfl
          | succ n => simp [List.range_succ_eq_map]
        refine s_asg (el_flt1 (xs := List.range g.n) (enc := eN) (f := fun _ => false) (g := eN) (w_list (e_var rfl fv')) (by simp; omega) (fun _ _ _ => rfl)
          (fun n hn' y H4 s5 fy => ⟨(t_test (e_inN (neg := true) (l := List.range g.n) (e_var rfl fy)
            (e_call (ea_cons (e_var rfl (f1'.same s5)) (ea_cons (e_ixL (e_var rfl (fv'.same s5)) e_int (n_at (n := 0) (by simp; omega))) (ea_cons (e_var rfl (fv'.same s5)) ea_nil)))
              ⟨g, List.range g.n, _, by rw [h0]; simp; cases e : g.n with
                | zero => omega
                | succ n => simp, .inr rfl, G, List.Sublist.refl _, hcl, rfl⟩) (.inl rfl))).is (by simpa using List.mem_range.mp hn'), fun h => by cases h⟩)).ef fun v' H5 s5 fv5 => ?_
        refine s_asg1 (e_add (e_var rfl (.int 0)) e_int) fun u H6 s6 fu => ?_
        cases fu
        refine ⟨0, by omega, v', ((s3.trans s4).trans s5).trans s6, .inr ⟨rfl, rfl, ?_⟩⟩
        have := fv5.same s6
        rw [List.filter_eq_nil_iff.mpr (by simp)] at this
        exact this
    · obtain ⟨rfl, rfl, fv⟩ := h
      refine ⟨false, t_trL (e_var rfl fv), (fun h => Bool.noConfusion h), fun _ H3 s4 => ?_⟩
      have f1' := f1.same (s3.trans s4)
      refine ((e_lt (e_sub (e_lenT (e_ixT (e_var rfl f1') e_int (by rfl))) (e_lenT (e_ixT (e_var rfl f1') e_int (by rfl)))) (e_var rfl (.int 1))).is ?_).ret fun v H' s' => k v H' ((s3.trans s4).trans s')
      have e : ((g.scs.map eR).length : Int) - ((g.eds.map eE).length : Int) = 1 := by
        rw [List.length_map, List.length_map]
        have : g.scs.length = g.n := rfl
        omega
      rw [e]
      rfl
end
end Tt

namespace Tt
open PySem PySem.Spec PyProof.Rows L2
open C8 (Cal Met Mak pe_c pe_mk pe_mt pe_mt0 pe_gc)
section
mutual
theorem lay_tup : ∀ {d : PyData}, tupB d = true → d.canLay0 = true
  | .none, _ => by simp [PyData.canLay0]
  | .bool _, _ => by simp [PyData.canLay0]
  | .int _, _ => by simp [PyData.canLay0]
  | .str _, h => by simpa [PyData.canLay0, tupB] using h
  | .list _, h => by simp [tupB] at h
  | .tuple ds, h => by
    simp only [PyData.canLay0]
    exact lay_tups (by simpa [tupB] using h)
  | .dict _, h => by simp [tupB] at h
theorem lay_tups : ∀ {ds : List PyData}, tupsB ds = true → PyData.canLayAll0 ds = true
  | [], _ => by simp [PyData.canLayAll0]
  | d :: ds, h => by
    simp only [tupsB, Bool.and_eq_true] at h
    simp [PyData.canLayAll0, lay_tup h.1, lay_tups h.2]
end
theorem shp {d : PyData} (h : tupB d = true) (k : d.depth ≤ 64) : SeqAt.shaped d = true := by
  show (d.canLay0 && decide (d.depth ≤ 64)) = true
  rw [lay_tup h, decide_eq_true k]
  rfl
theorem shpL {ds : List PyData} (h : tupsB ds = true) (k : PyData.depthAll ds ≤ 60) : SeqAt.shaped (.list ds) = true := by
  have h2 : (PyData.list ds).depth ≤ 64 := by
    simp only [PyData.depth]
    omega
  show ((PyData.list ds).canLay0 && decide ((PyData.list ds).depth ≤ 64)) = true
  rw [decide_eq_true h2, show (PyData.list ds).canLay0 = true by simp only [PyData.canLay0]; exact lay_tups h]
  rfl
theorem dep_map {α : Type} {f : α → PyData} {k : Nat} (h : ∀ x, (f x).depth ≤ k) : ∀ l : List α, PyData.depthAll (l.map f) ≤ k
  | [] => by simp [PyData.depthAll]
  | x :: l => by
    have h1 := h x
    have h2 := dep_map h l
    simp only [List.map_cons, PyData.depthAll]
    omega
theorem dep_int (i : Int) : (PyData.int i).depth = 0 := by simp [PyData.depth]
theorem dep_tup (ds : List PyData) : (PyData.tuple ds).depth = PyData.depthAll ds + 1 := by simp only [PyData.depth]
theorem dep_eNs (l : List Nat) : (PyData.tuple (eNs l)).depth ≤ 1 := by
  rw [dep_tup]
  exact Nat.succ_le_succ (dep_map (f := eN) (k := 0) (fun _ => by rw [dep_int]; omega) l)
theorem dep_eR (r : Row) : (eR r).depth ≤ 1 := by
  unfold eR
  rw [dep_tup]
  exact Nat.succ_le_succ (dep_map (f := PyData.int) (k := 0) (fun _ => by rw [dep_int]; omega) r)
theorem e_cV {σ : L2.St} {H : Hp} {v : V} {d : PyData} (f : Fz H v d) : EF (tC v) σ H d := fun H1 a Q q => q v H1 (Same.refl _) (f.same a)
abbrev rIsN : R2 := fun x y H Q => y = .non ∧ Q (.bl (decide (x = .non))) H
def isN : PyData → Bool
  | .none => true
  | _ => false
theorem Fz.isN {H : Hp} {v : V} {d : PyData} (f : Fz H v d) : decide (v = .non) = isN d := by
  cases f <;> rfl
theorem e_isN {σ : L2.St} {H : Hp} {ta : TE} {d : PyData} (ha : EF ta σ H d) : EF (tOp rIsN ta (tC .non)) σ H (.bool (isN d)) :=
  e_op ha e_non fun x y H1 s f1 f2 Q q => ⟨f2.nonI, q _ H1 (Same.refl _) (by rw [f1.isN]; exact .bl _)⟩
abbrev rNotN : R2 := fun x y H Q => y = .non ∧ Q (.bl (!decide (x = .non))) H
theorem e_notN {σ : L2.St} {H : Hp} {ta : TE} {d : PyData} (ha : EF ta σ H d) : EF (tOp rNotN ta (tC .non)) σ H (.bool (!isN d)) :=
  e_op ha e_non fun x y H1 s f1 f2 Q q => ⟨f2.nonI, q _ H1 (Same.refl _) (by rw [f1.isN]; exact .bl _)⟩
variable {P : Program} {w : World} {K : PySem.W.Frag} {mg : Str → Option Value} {base : Heap}
theorem ne_same {σ : L2.St} {H : Hp} {ta tb : TE} {d : PyData} (ha : EF ta σ H d) (hb : EF tb σ H d) (h : tupB d = true) (k : d.depth ≤ 64) : EF (tOp (rNeD K) ta tb) σ H (.bool false) :=
  (e_neD ha hb (shp h k) (shp h k)).is (by rw [SeqAt.eqv_refl d (lay_tup h)]; rfl)
theorem tbNT (l : List Nat) : tupB (.tuple (eNs l)) = true := by
  simp only [tupB]
  exact tbN l

def R_split (ds : List PyData) (d : PyData) : Prop := ∃ g, ds = [eG g] ∧ GOK g ∧ d = .none
theorem holders_closed {g : Gr} (G : GOK g) (v : Int) (hv : ∃ n, n < g.n ∧ v ∈ g.sc n) : closed g.eds ((List.range g.n).filter fun n => decide (v ∈ g.sc n)) = true := by
  have hp : ((List.range g.n).filter fun n => decide (v ∈ g.sc n)).Pairwise (· < ·) := List.Pairwise.filter _ List.pairwise_lt_range
  have hm : ∀ n, n ∈ ((List.range g.n).filter fun n => decide (v ∈ g.sc n)) ↔ n < g.n ∧ v ∈ g.sc n := fun n => by simp
  generalize e : (List.range g.n).filter (fun n => decide (v ∈ g.sc n)) = S at hp hm
  cases S with
  | nil =>
    obtain ⟨n, h1, h2⟩ := hv
    exact absurd ((hm n).mpr ⟨h1, h2⟩) (by simp)
  | cons a r =>
    show (r.all fun n => g.eds.any fun e => decide (e.2 = n) && decide (e.1 ∈ a :: r)) = true
    rw [List.all_eq_true]
    intro n hn
    obtain ⟨h1, h2⟩ := (hm n).mp (List.mem_cons_of_mem _ hn)
    have han : a < n := (List.pairwise_cons.mp hp).1 n hn
    obtain ⟨_, ha⟩ := (hm a).mp List.mem_cons_self
    rcases G.run n v h1 h2 with h | ⟨p, hp1, hp2⟩
    · exact absurd ha (h a han)
    · rw [List.any_eq_true]
      refine ⟨(p, n), hp1, ?_⟩
      have hpn := G.elt _ hp1
      simp only [decide_true, Bool.true_and, decide_eq_true_eq]
      exact (hm p).mpr ⟨by omega, hp2⟩
theorem sc_split_variable : FnScope ["graph", "variable", "nodes"] ["graph"] (defScope s_split_variable) := ⟨rfl, rfl, rfl, by decide +kernel, rfl, by decide +kernel, by decide +kernel⟩
theorem cal_split_variable (T : Tx K mg) : Cal P w K mg base 3 "split_variable" (spP R_split) [] :=
  T.cal 19 19 rfl rfl sc_split_variable (fun _ _ _ _ _ _ us hl => match us, hl with | [_], _ => rfl) (spP_len fun ds d ⟨_, e, _⟩ => by rw [e]; rfl) fun f cdv A outer s H vs Q E hr h => by
    obtain ⟨ds, d, fv, ⟨g, rfl, G, rfl⟩, k⟩ := h
    obtain ⟨x, rfl, f1⟩ := fv.oneI
    refine ⟨_, (pss_cons (ps_for PassesOwn.never rfl (k_piT (K := K) (pe_c (cal_variables_of T) hr (by decide) rfl (pa_cons (pv 0) pa_nil))) (pg_name (i := 1) sc_split_variable.nd rfl (Or.inl rfl))
        (pss_cons (ps_set (i := 2) sc_split_variable.nd rfl (Or.inl rfl) (pe_c (cal_having T) hr (by decide) rfl (pa_cons (pv 0) (pa_cons (pv 1) pa_nil))))
        (pss_one (ps_if (pt_cmpR (k_neD (K := K) hr.units) (pe_c (cal_hanging T) hr (by decide) rfl (pa_cons (pv 0) (pa_cons (pe_ix (k_ixT (K := K)) (pv 2) pe_int (fun _ _ => rfl)) (pa_cons (pv 2) pa_nil)))) (pv 2) (nomark _)) (pss_one (ps_ret (pv 1))) pss_nil))))
      (pss_one (ps_ret pe_non))), ?_⟩
    refine c_go (ea_cons (e_var rfl f1) ea_nil) fun vs H1 s1 fz => ⟨g, fz, G, fun r hr hv v H2 s2 fr => ?_⟩
    have s12 := s1.trans s2
    show tSeq (tFor (iTup K (tC v)) _ _) _ _ _ H2
    refine s_for (xs := r) (enc := PyData.int) (w_tup (e_cV fr)) (fun B i σ' H' => ∃ v1 v2, σ' = [some x, v1, v2] ∧ Same B H') (fun H3 s3 => ⟨_, _, rfl, Same.refl _⟩) (fun B i σ' H' _ ⟨_, _, _, s⟩ => s) ?_ ?_
    · rintro B i u σ' H' y H3 sB hi ⟨v1, v2, rfl, s3⟩ s4 fy
      have f1' := f1.same (((s12.trans sB).trans s3).trans s4)
      have hu := hv u (List.mem_of_getElem? hi)
      have hcl := holders_closed G u hu
      have hsub : ((List.range g.n).filter fun n => decide (u ∈ g.sc n)).Sublist (List.range g.n) := List.filter_sublist
      generalize eS : (List.range g.n).filter (fun n => decide (u ∈ g.sc n)) = S at hcl hsub
      have hne : 0 < S.length := by
        cases S with
        | nil => cases hcl
        | cons _ _ => simp
      refine s_asg (e_call (ea_cons (e_var rfl f1') (ea_cons (e_var rfl fy) ea_nil)) ⟨g, u, rfl, G, rfl⟩) fun v H4 s5 fv => ?_
      rw [eS] at fv
      have f1'' := f1'.same s5
      refine s_if (t_test (ne_same (d := .tuple (eNs S)) (e_call (ea_cons (e_var rfl f1'') (ea_cons (e_ixT (e_var rfl fv) e_int (n_at (n := 0) hne)) (ea_cons (e_var rfl fv) ea_nil))) ⟨g, S, _, by
        cases S with
        | nil => cases hcl
        | cons _ _ => rfl, .inl rfl, G, hsub, hcl, rfl⟩) (e_var rfl fv) (tbNT _) (Nat.le_trans (dep_eNs _) (by decide)))) (fun h => nohold h rfl) fun _ H5 s6 => ?_
      exact ⟨_, _, rfl, ((s3.trans s4).trans s5).trans s6⟩
    · rintro B σ' H' sB ⟨v1, v2, rfl, s3⟩
      exact k _ _ ((s12.trans sB).trans s3) .non

def R_tree (ds : List PyData) (d : PyData) : Prop := ∃ g, ds = [eG g] ∧ GOK g ∧ d = .bool true
theorem sc_is_tree_like : FnScope ["graph", "nodes"] ["graph"] (defScope s_is_tree_like) := ⟨rfl, rfl, rfl, by decide +kernel, rfl, by decide +kernel, by decide +kernel⟩
theorem cal_is_tree_like (T : Tx K mg) : Cal P w K mg base 4 "is_tree_like" (spP R_tree) [] :=
  T.cal 20 20 rfl rfl sc_is_tree_like (fun _ _ _ _ _ _ us hl => match us, hl with | [_], _ => rfl) (spP_len fun ds d ⟨_, e, _⟩ => by rw [e]; rfl) fun f cdv A outer s H vs Q E hr h => by
    obtain ⟨ds, d, fv, ⟨g, rfl, G, rfl⟩, k⟩ := h
    obtain ⟨x, rfl, f1⟩ := fv.oneI
    refine ⟨_, (pss_cons (ps_set (i := 1) sc_is_tree_like.nd rfl (Or.inl rfl) (pe_tupRg rfl (by rfl) T.n_tuple (prg_1 (by rfl) T.n_range (pe_callB (k_len (K := K)) (by rfl) T.n_len (by decide +kernel) (pa_cons (pe_ix (k_ixT (K := K)) (pv 0) pe_int (fun _ _ => rfl)) pa_nil)))))
      (pss_cons (ps_if (PW.pt (pw_or (pt_val (pe_c (cal_has_cycle T) hr (by decide) rfl (pa_cons (pv 0) pa_nil))) (pw_or1 (pt_cmpR (k_neD (K := K) hr.units) (pe_c (cal_hanging T) hr (by decide) rfl (pa_cons (pv 0) (pa_cons pe_int (pa_cons (pv 1) pa_nil)))) (pv 1) (nomark _))))) (pss_one (ps_ret pe_bl)) pss_nil)
      (pss_one (ps_ret (pe_cmpR op_isN (pe_c (cal_split_variable T) hr (by decide) rfl (pa_cons (pv 0) pa_nil)) pe_non (nomark _)))))), ?_⟩
    have hn := G.n4
    have hcl : closed g.eds (List.range g.n) = true := range_closed _ G.shape
    have h0 : (List.range g.n).headD 0 = 0 := by
      cases e : g.n with
      | zero => rfl
      | succ n => simp [List.range_succ_eq_map]
    refine s_asg (e_rngT (n := g.n) ((e_lenT (e_ixT (e_var rfl f1) e_int (by rfl))).is (by simp [Gr.n])) (by omega)) fun v H1 s1 fl => ?_
    have f1' := f1.same s1
    refine s_ifQ (t_or (t_B (e_call (ea_cons (e_var rfl f1') ea_nil) ⟨g, rfl, G, rfl⟩)) fun _ => t_test (ne_same (d := .tuple (eNs (List.range g.n))) (e_call (ea_cons (e_var rfl f1') (ea_cons e_int (ea_cons (e_var rfl fl) ea_nil))) ⟨g, List.range g.n, _, by rw [h0]; rfl, .inl rfl, G, List.Sublist.refl _, hcl, rfl⟩)
      (e_var rfl fl) (tbNT _) (Nat.le_trans (dep_eNs _) (by decide)))) (fun h => nohold h rfl) fun _ H2 s2 => ?_
    exact (e_isN (d := .none) (e_call (ea_cons (e_var rfl (f1'.same s2)) ea_nil) ⟨g, rfl, G, rfl⟩)).ret fun v H' s' => k v H' ((s1.trans s2).trans s')

theorem sc_check_tree : FnScope ["graph"] ["graph"] (defScope s_check_tree) := ⟨rfl, rfl, rfl, by decide +kernel, rfl, by decide +kernel, by decide +kernel⟩
theorem cal_check_tree (T : Tx K mg) : Cal P w K mg base 6 "check_tree" (spP R_chk) [] :=
  T.cal 31 31 rfl rfl sc_check_tree (fun _ _ _ _ _ _ us hl => match us, hl with | [_], _ => rfl) (spP_len fun ds d ⟨_, e, _⟩ => by rw [e]; rfl) fun f cdv A outer s H vs Q E hr h => by
    obtain ⟨ds, d, fv, ⟨g, rfl, G, rfl⟩, k⟩ := h
    obtain ⟨x, rfl, f1⟩ := fv.oneI
    refine ⟨_, (pss_cons (ps_expr (pe_c (cal_check_graph T) hr (by decide) rfl (pa_cons (pv 0) pa_nil)))
      (pss_one (ps_if (pt_not (pt_val (pe_c (cal_is_tree_like T) hr (by decide) rfl (pa_cons (pv 0) pa_nil)))) (pss_one ps_never) pss_nil))), ?_⟩
    show tSeq (tDrop (tCall _ _ _ _)) _ _ _ H
    refine (e_call (ea_cons (e_var rfl f1) ea_nil) ⟨g, rfl, G, rfl⟩).go fun v H1 s1 _ => ?_
    refine s_if (t_not (t_B (e_call (ea_cons (e_var rfl (f1.same s1)) ea_nil) ⟨g, rfl, G, rfl⟩))) (fun h => nohold h rfl) fun _ H2 s2 => k _ _ (s1.trans s2) .non
end
end Tt

/-! A dict comprehension whose keys are tuples. -/
namespace L2
open PySem PySem.Spec PyProof.Rows
theorem d_dictSetT {X : Cx} {pins : List (Addr × Obj)} {σ : St} {H : Hp} {s : Shared} {E : Value → Shared → Prop} {D b : Addr} {kvs : List (List Key × V)} {k : List Key} {v : V} {u r : Value} {Q : Unit → Shared → Prop} (hu : X.A.units + 1 < cLine) (I : Inv X pins σ H s) (hD : H D = some (.dT kvs)) (eb : H b = some (.tup (k.map kV))) (hz : kvs.length < sizeLine)
    (ry : RelV (.ref b) u) (rv : RelV v r) (h : ∀ s', Inv X pins σ (upd H D (.dT (putK kvs k v))) s' → Q () s') : wpAny (model X.prog X.w) X.A (dictSet D u r) Q E s := by
  cases (show u = Value.ref b from ry)
  obtain ⟨z, hd, xs, rel, dd⟩ := dt_of I.hok hD
  have hzx : xs.length ≤ sizeLine := by rw [← Paired.length rel]; exact z
  have hl : (putK kvs k v).length ≤ sizeLine := by have := length_putK kvs k v; omega
  refine wpAny_dictSet_heap (hsz := hzx) (show X.A.units < cLine by omega) (key_of I.hok eb) dd fun h' dd' hs => h _ ?_
  obtain ⟨q, es, ep, hq, h2, h3, h4, _, h5⟩ := dd'
  refine d_write I (by rw [hD]; exact True.intro) hs ⟨q, hq⟩ ⟨hl, hd, _, (rel.put k eb rv).keeps fun c ys ec => ?_, q, es, ep, hq, h2, h3, h4, h5⟩
  rw [upd_ne (ne_of ec hD (fun z => nomatch z))]
  exact ec
section
variable {X : Cx}
def tDcT (wi : TI) (g : TG) (tt : TT) (tk tv : TE) (vs : List Nat) : TE := fun σ H Q => wi σ H fun J H1 => ∀ D, H1 D = none → ∃ W : Nat → Nat → Hp → Prop, (∃ m, W 0 m (upd H1 D (.dT []))) ∧ ∀ i m H, W i m H →
  (J.stop i H ∧ Q (.ref D) H) ∨ (J.go i H ∧ ∃ Nx : Hp → Prop, (∀ H', Nx H' → ∃ m', m' < m ∧ W (i + 1) m' H') ∧ ∀ x H', J.yld i H x H' → g x (wipe σ vs) H' fun σ2 H2 => wipe σ2 vs = wipe σ vs ∧ tt σ2 H2 fun b H3 =>
    if b = true then tk σ2 H3 fun y H4 => tv σ2 H4 fun z H5 => ∃ kvs k b, y = .ref b ∧ H5 b = some (.tup (List.map kV k)) ∧ H5 D = some (.dT kvs) ∧ kvs.length < sizeLine ∧ Nx (upd H5 D (.dT (putK kvs k z))) else Nx H3)
theorem dc_coreT {pins : List (Addr × Obj)} {s : Shared} {σ : St} {H : Hp} {Q : VK} {kx vx tg iter : Expr} {ifs : List Expr} {scope : Scope} {own : List (Str × Nat)} {pos pos' : Pos} {wi : TI} {g : TG} {tt : TT} {tk tv : TE} {use : Option (Value → Sem Unit)} {Qf : Value → Shared → Prop}
    (hu : X.A.units + 1 < cLine) (hc : X.calm = true) (hN : X.N.Nodup) (I : Inv X pins σ H s) (hi : PI X tg iter wi) (ok : BlkOk X.N X.env.scope scope own)
    (hg : ∀ (s : Shared) (H : Hp) (C : Addr) (cl : List (Str × Addr)) (fp : List Addr), PG (X.blk s H scope (compEnvC scope cl C X.env) fp) tg g) (ht : ∀ (s : Shared) (H : Hp) (C : Addr) (cl : List (Str × Addr)) (fp : List Addr), PTs (X.blk s H scope (compEnvC scope cl C X.env) fp) ifs tt)
    (hk : ∀ (s : Shared) (H : Hp) (C : Addr) (cl : List (Str × Addr)) (fp : List Addr), PE (X.blk s H scope (compEnvC scope cl C X.env) fp) kx tk)
    (he : ∀ (s : Shared) (H : Hp) (C : Addr) (cl : List (Str × Addr)) (fp : List Addr), PE (X.blk s H scope (compEnvC scope cl C X.env) fp) vx tv) (hs : ∀ x, foldedSetIterable iter X.env x = pure x)
    (h : tDcT wi g tt tk tv (own.map (·.2)) σ H Q)
    (hRR : ∀ D C s' m H', Inv X pins σ H' s' → Q (.ref D) H' → s'.heap.Ns C m → FpOk X pins H' C → compPost (model X.prog X.w) X.A X.xe use Qf (.ref D) C (.ok .next) s') :
    wpAny (model X.prog X.w) X.A (comprehension (.DictComp kx vx [⟨tg, iter, ifs, 0⟩] scope pos) scope X.env pos' newDict false (eval iter X.env) use) Qf X.xe s := by
  have hfree : ∀ y ∈ scope.names, y.2 = .free → ∃ c, X.env.cells.lookup y.1 = some c := fun y hy e => by
    rcases ok.free y hy e with k | k
    · exact I.ok.has _ (.inl k)
    · exact I.ok.has _ (.inr k)
  refine wpAny_comprehension_free (use := use) rfl hs (closure_ok hfree) ok.kind (fun y hy e => by rw [ok.uniq y hy, e])
    (thn (hi.run pins s σ H _ I h) fun xv s1 hx => thn hx fun itv s2 h2 => ?_)
  obtain ⟨it, fp, tn, J, H2, e, I2, T, st2, f2, q⟩ := h2
  subst e
  refine wpAny_newObj_type (newEnv_comp ?_)
  generalize hD : s2.heap.objs.size = D
  have hDn : H2 D = none := I2.hok.fresh (Nat.le_of_eq hD)
  obtain ⟨W, ⟨m0, w0⟩, turn⟩ := q D hDn
  -- the new list
  generalize hs3 : ({ s2 with heap := s2.heap.push { cls := .type "dict", data := .dict #[] } } : Shared) = s3
  have I3 : Inv X pins σ (upd H2 D (.dT [])) s3 := by
    rw [← hs3]
    refine I2.laid (t' := s2.toks) (fun b o e => Heap.get?_push_of_some _ e) (Nat.le_of_eq hD) ?_
    rw [← hD]
    exact dt_empty s2.heap I2.big
  have h3 : s3.heap = s2.heap.push { cls := .type "dict", data := .dict #[] } := by rw [← hs3]
  have sz : ∀ b ∈ fp, b < s2.heap.objs.size := fun b hb => by
    obtain ⟨o, e, _⟩ := T.obj _ _ st2 b hb
    exact Heap.lt_size e
  have f3 : ∀ b ∈ fp, FpOk X pins (upd H2 D (.dT [])) b ∧ b < s3.heap.objs.size := fun b hb => by
    have hlt := sz b hb
    refine ⟨⟨?_, (f2 b hb).2⟩, by rw [h3, Heap.size_push]; exact Nat.lt_succ_of_lt hlt⟩
    rw [upd_ne (by rw [← hD]; exact Nat.ne_of_lt hlt)]
    exact (f2 b hb).1
  have st3 : tn 0 s3.heap := T.keep _ _ _ st2 fun b _ o e => by rw [h3]; exact Heap.get?_push_of_some _ e
  have I4 := block_start I3 ok hN f3
  have pg := hg s3 (upd H2 D (.dT [])) s3.heap.objs.size (cellsFrom (s3.heap.objs.size + 1) scope.names (cloFrom X.env.cells scope.names [])) fp
  have pt := ht s3 (upd H2 D (.dT [])) s3.heap.objs.size (cellsFrom (s3.heap.objs.size + 1) scope.names (cloFrom X.env.cells scope.names [])) fp
  have pk := hk s3 (upd H2 D (.dT [])) s3.heap.objs.size (cellsFrom (s3.heap.objs.size + 1) scope.names (cloFrom X.env.cells scope.names [])) fp
  have pe := he s3 (upd H2 D (.dT [])) s3.heap.objs.size (cellsFrom (s3.heap.objs.size + 1) scope.names (cloFrom X.env.cells scope.names [])) fp
  show codeAny _ _ (.compStart (.DictComp kx vx [⟨tg, iter, ifs, 0⟩] scope pos) 0 (.ref it) (.ref D) (compEnvC scope (cellsFrom (s3.heap.objs.size + 1) scope.names (cloFrom X.env.cells scope.names [])) s3.heap.objs.size X.env)) (compPost (model X.prog X.w) X.A X.xe use Qf (.ref D) s3.heap.objs.size) { s3 with heap := pushCells (s3.heap.push { cls := .type "dict", data := .dict #[] }) scope.names }
  have nfp : ∀ b ∈ fp, (upd H2 D (.dT [])) b = none := fun b hb => (f3 b hb).1.1
  generalize hce : compEnvC scope (cellsFrom (s3.heap.objs.size + 1) scope.names (cloFrom X.env.cells scope.names [])) s3.heap.objs.size X.env = ce at I4 pg pt pk pe ⊢
  have cL : ce.locals = s3.heap.objs.size := by subst hce; rfl
  generalize hH3 : upd H2 D (.dT []) = H3 at I3 I4 pg pt pk pe w0 nfp f3
  generalize hs4 : ({ s3 with heap := pushCells (s3.heap.push { cls := .type "dict", data := .dict #[] }) scope.names } : Shared) = s4 at I4 ⊢
  have st4 : tn 0 s4.heap := T.keep _ _ _ st3 fun b _ o e => by rw [← hs4]; exact pushCells_keeps _ _ _ _ (Heap.get?_push_of_some _ e)
  have stat : ∀ {σ' : St} {H' : Hp} {s' : Shared}, Inv (X.blk s3 H3 scope ce fp) [] σ' H' s' → (∀ b ∈ fp, H' b = none) → ∀ b ∈ fp, FpOk (X.blk s3 H3 scope ce fp) [] H' b := fun {σ' H' s'} I' hn b hb =>
    ⟨hn b hb, (I'.ok.exf b hb).1, I'.ok.exfs b hb, .inl hb, fun x c e => (I'.ok.exf b hb).2 x c e, fun p hp => absurd (show p ∈ ([] : List (Addr × Obj)) ++ [] from hp) (by simp)⟩
  have loop : codeAny (model X.prog X.w) X.A (.compLoop (.DictComp kx vx [⟨tg, iter, ifs, 0⟩] scope pos) 0 (.ref it) (.ref D) ce) (compPost (model X.prog X.w) X.A X.xe use Qf (.ref D) s3.heap.objs.size) s4 := by
    refine compLoop_anyD (fun n s' => ∃ i H', Inv (X.blk s3 H3 scope ce fp) [] (wipe σ (own.map (·.2))) H' s' ∧ tn i s'.heap ∧ (∀ b ∈ fp, H' b = none) ∧ W i n H') ?_ m0 ⟨0, H3, I4, st4, nfp, w0⟩
    rintro n s5 ⟨i, H5, I5, st5, n5, w5⟩
    rcases turn i n H5 w5 with ⟨stop, qq⟩ | ⟨go, Nx, hNx, step⟩
    · have td := T.done (X.blk s3 H3 scope ce fp) rfl rfl rfl hc i [] s5 _ H5 (fun _ _ => False) I5 (stat I5 n5) st5 stop
      refine thnF td fun r s6 ⟨hr, I6⟩ => ?_
      subst hr
      -- back in the def's context
      have I7 : Inv X pins σ H5 s6 := I3.call' (ch := fp) I6.os I6.base I6.hok I6.bare fun b hb => ⟨(f3 b hb).1.2.2.2.1, (f3 b hb).1.2.1, (f3 b hb).1.2.2.2.2.1, (f3 b hb).1.2.2.2.2.2⟩
      have nC : H5 s3.heap.objs.size = none := by
        have z : H5 ce.locals = none := I6.free
        rw [cL] at z
        exact z
      obtain ⟨m, hn, _⟩ := I6.loc
      have hn : s6.heap.Ns ce.locals m := hn
      rw [cL] at hn
      exact hRR D s3.heap.objs.size s6 m H5 I7 qq hn (I3.fpOk (Nat.le_refl _) nC)
    · have ti := T.item (X.blk s3 H3 scope ce fp) rfl rfl rfl hc i [] s5 _ H5 (fun _ _ => False) I5 (stat I5 n5) st5 go
      refine thnF ti fun r s6 ⟨u, hr, h6⟩ => ?_
      subst hr
      refine thnF h6 fun _ s7 ⟨x, H7, I7, r7, y7, st7, n7⟩ => ?_
      have I7' := I7.pinned (stat I7 n7) (T.obj _ _ st7)
      refine thnF (pg.run _ s7 _ H7 x u _ I7' r7 (step x H7 y7)) fun _ s8 ⟨σ8, H8, I8, hw8, q8⟩ => ?_
      refine thnF (pt.run _ s8 σ8 H8 _ I8 q8) fun b s9 ⟨H9, I9, q9⟩ => ?_
      -- the turn's end
      have fin : ∀ {s' : Shared} {H' : Hp}, Inv (X.blk s3 H3 scope ce fp) ([] ++ pinsAt fp s7.heap) σ8 H' s' → Nx H' → ∃ m, m < n ∧ ∃ i H', Inv (X.blk s3 H3 scope ce fp) [] (wipe σ (own.map (·.2))) H' s' ∧ tn i s'.heap ∧ (∀ b ∈ fp, H' b = none) ∧ W i m H' := fun {s' H'} I' nx => by
        obtain ⟨m', hm, w'⟩ := hNx H' nx
        have pin' : ∀ b ∈ fp, ∀ o, s7.heap.get? b = some o → s'.heap.get? b = some o ∧ H' b = none := fun b hb o e =>
          let z := I'.pin (b, o) (List.mem_append_right _ (List.mem_append_right _ (mem_pinsAt hb e)))
          ⟨z.1, z.2.1⟩
        have hl : (wipe σ (own.map (·.2))).length = σ8.length := by rw [← hw8, wipe_length]
        refine ⟨m', hm, i + 1, H', (I'.unpinned (pins := [])).weak hl (fun j v e => ?_), T.keep _ _ _ st7 fun b hb o e => (pin' b hb o e).1, fun b hb => ?_, w'⟩
        · rw [← hw8] at e
          exact (wipe_some e).1
        · obtain ⟨o, e, _⟩ := T.obj _ _ st7 b hb
          exact (pin' b hb o e).2
      cases b with
      | false =>
        simp only [Bool.false_eq_true, if_false] at q9 ⊢
        exact fin I9 q9
      | true =>
        simp only [if_true] at q9 ⊢
        refine thnF (pk.run _ s9 σ8 H9 _ I9 q9) fun z s10 ⟨yk, H10, I10, r10, q10⟩ => ?_
        refine thnF (pe.run _ s10 σ8 H10 _ I10 q10) fun z2 s11 ⟨yv, H11, I11, r11, kvs, k, kb, ek, ekb, hD11, hz11, nx⟩ => ?_
        subst ek
        exact d_dictSetT (X := X.blk s3 H3 scope ce fp) hu I11 hD11 ekb hz11 r10 r11 fun s12 I12 => fin I12 nx
  exact codeAny_compStart_dict loop (T.self X.A 0 _ _ _ st4 loop)
theorem pe_dcT {kx vx tg iter : Expr} {ifs : List Expr} {scope : Scope} {own : List (Str × Nat)} {pos : Pos} {wi : TI} {g : TG} {tt : TT} {tk tv : TE} (hu : X.A.units + 1 < cLine) (hc : X.calm = true) (hN : X.N.Nodup) (hi : PI X tg iter wi) (ok : BlkOk X.N X.env.scope scope own)
    (hg : ∀ (s : Shared) (H : Hp) (C : Addr) (cl : List (Str × Addr)) (fp : List Addr), PG (X.blk s H scope (compEnvC scope cl C X.env) fp) tg g) (ht : ∀ (s : Shared) (H : Hp) (C : Addr) (cl : List (Str × Addr)) (fp : List Addr), PTs (X.blk s H scope (compEnvC scope cl C X.env) fp) ifs tt)
    (hk : ∀ (s : Shared) (H : Hp) (C : Addr) (cl : List (Str × Addr)) (fp : List Addr), PE (X.blk s H scope (compEnvC scope cl C X.env) fp) kx tk)
    (he : ∀ (s : Shared) (H : Hp) (C : Addr) (cl : List (Str × Addr)) (fp : List Addr), PE (X.blk s H scope (compEnvC scope cl C X.env) fp) vx tv) (hs : ∀ x, foldedSetIterable iter X.env x = pure x := by intro _; rfl) :
    PE X (.DictComp kx vx [⟨tg, iter, ifs, 0⟩] scope pos) (tDcT wi g tt tk tv (own.map (·.2))) := by
  refine ⟨fun pins s σ H Q I h => ?_⟩
  rw [arm_eval_DictComp]
  refine dc_coreT hu hc hN I hi ok hg ht hk he hs h fun D C s' m H' I' q hn f => ⟨m, hn, fun h'' sb => ?_⟩
  obtain ⟨f0, f1, f2, f3, f4, f5⟩ := f
  exact ⟨.ref D, H', I'.turned (t' := s'.toks) (fun b o hb e => (sb.2 b hb).trans e) f0 f1 f3 f4 f5, rfl, q⟩
end
end L2

/-! sorted(a dict whose keys are rows); sorted(a list of pairs of a row and a number). -/
namespace Tt
open PySem PySem.Spec PyProof.Rows L2
def rk (r : Row) : List L2.Key := r.map Sum.inl
theorem rk_kV (r : Row) : (rk r).map kV = r.map V.int := by
  unfold rk
  rw [List.map_map]
  rfl
theorem rk_inj {r q : Row} (h : rk r = rk q) : r = q := by
  unfold rk at h
  exact (List.map_inj_right (fun a b e => Sum.inl.inj e)).mp h
theorem code_lex {B : Int} : ∀ {r q : Row}, r.length = q.length → TS.Bd B r → TS.Bd B q → ltR r q = decide (TS.code B r < TS.code B q)
  | [], [], _, _, _ => by
    show false = _
    rw [decide_eq_false (Int.lt_irrefl _)]
  | [], _ :: _, h, _, _ => by simp at h
  | _ :: _, [], h, _, _ => by simp at h
  | x :: r, y :: q, h, h1, h2 => by
    have hl : r.length = q.length := by simpa using h
    rw [ltR_cons]
    by_cases e : x = y
    · subst e
      rw [if_pos rfl, code_lex hl h1.tail h2.tail]
      exact decide_eq_decide.mpr (TS.code_same hl).symm
    · rw [if_neg e]
      refine decide_eq_decide.mpr ⟨fun z => TS.code_lt hl h1.tail h2.tail z, fun z => ?_⟩
      rcases Int.lt_trichotomy x y with w | w | w
      · exact w
      · exact absurd w e
      · have := TS.code_lt hl.symm h2.tail h1.tail w
        omega
def rSortedDT : List V → Hp → VK → Prop := fun vs H Q => ∃ (a : Addr) (kvs : List (List L2.Key × V)) (rows : List Row) (d : Nat), vs = [.ref a] ∧ H a = some (.dT kvs) ∧ kvs.map (·.1) = rows.map rk ∧ rows.length < 64 ∧ (∀ r ∈ rows, r.length = d ∧ TS.Bd 6 r) ∧ (d = 0 → rows.length ≤ 1) ∧
  ∀ (L : List (Addr × Row)) (p : Addr), (L.map (·.2)).Perm rows → Up ltR (L.map (·.2)) → (∀ q ∈ L, H q.1 = some (.tup (q.2.map V.int))) → H p = none → Q (.ref p) (upd H p (.lst (L.map fun q => V.ref q.1)))
def refA : Value → Addr
  | .ref a => a
  | _ => 0
theorem cr_sortedDT {X : Cx} (hc : X.calm = true) : CallR X (.builtin "sorted") rSortedDT := by
  intro pins s σ H xs us Q I r h
  obtain ⟨a, kvs, rows, d, rfl, hd, hk, h64, hB, h1, q⟩ := h
  obtain rfl := Vals.ref1 r
  obtain ⟨z, hs, ks, pr, o, es, ep, ho, hx, hdt, he, hn⟩ := (show ObjOk X.prog X.w H s.heap a (.dT kvs) from I.hok a _ hd)
  have l1 : es.size = ks.length := size_of_entries he
  have l2 : kvs.length = ks.length := Paired.length pr
  have l3 : ks.length = rows.length := by
    have e := congrArg List.length hk
    rw [List.length_map, List.length_map] at e
    omega
  have hkeys : ks.map (·.1) = rows.map rk := by
    rw [← hk]
    have : ∀ {l : List (List L2.Key × V)} {m : List (List L2.Key × Addr × Value)}, KT H l m → m.map (·.1) = l.map (·.1) := by
      intro l m q
      induction q with
      | nil => rfl
      | cons h t ih => rw [List.map_cons, List.map_cons, ih, h.1]
    exact this pr
  have htup : ∀ x ∈ ks, H x.2.1 = some (.tup (x.1.map kV)) := by
    have : ∀ {l : List (List L2.Key × V)} {m : List (List L2.Key × Addr × Value)}, KT H l m → ∀ x ∈ m, H x.2.1 = some (.tup (x.1.map kV)) := by
      intro l m q
      induction q with
      | nil => intro x hx; exact nomatch hx
      | cons h t ih =>
        intro x hx
        rcases List.mem_cons.mp hx with rfl | hx
        · rw [← h.1]
          exact h.2.1
        · exact ih x hx
    exact this pr
  refine Calls.call_function_entry PyProof.Rows.kind_sorted PyProof.Rows.plain_sorted PyProof.Rows.entry_sorted (PyProof.Rows.args_sorted1 _) ?_
  unfold Builtin.«sorted»
  refine wpAny_bind (m := checkCount "sorted" 1 1 _) (wpAny_pure ?_)
  refine wpAny_bind (PySem.W.kdu_collect (A := X.A.in1) (kdl_raw hs hx hdt) (I.ok.hd hc) ho (by omega) fun h' tk acc hkk hacc => ?_)
  have ea : acc.toList = ks.map fun x => Value.ref x.2.1 := by
    have hl : acc.toList.length = ks.length := by rw [Array.length_toList, hacc.1]; exact l1
    apply List.ext_getElem?
    intro j
    rw [List.getElem?_map]
    cases hj : acc.toList[j]? with
    | none =>
      have h1 := List.getElem?_eq_none_iff.mp hj
      rw [List.getElem?_eq_none (by omega)]
      all_goals rfl
    | some v =>
      obtain ⟨en, hen, hv⟩ := hacc.2 j v (by rw [← Array.getElem?_toList]; exact hj)
      have qe := entry_at he j
      rw [hen] at qe
      cases hb : ks[j]? with
      | none =>
        rw [hb] at qe
        exact nomatch (show some en = none from qe)
      | some b =>
        rw [hb] at qe
        have e2 : en = entryOfKey (tupleKind (mixKind X.prog X.w)) b := Option.some.inj qe
        rw [hv, e2]
        all_goals rfl
  have I1 : Inv X pins σ H { s with heap := h', toks := tk } := I.kept hkk
  -- the values are the addresses of rows
  have hti : ∀ v ∈ acc.toList, ∃ (b : Addr) (r : Row), v = .ref b ∧ H b = some (.tup (r.map V.int)) ∧ r ∈ rows ∧ TS.TupInts h' v r := by
    intro v hv
    rw [ea] at hv
    obtain ⟨x, hx, rfl⟩ := List.mem_map.mp hv
    have hm : x.1 ∈ rows.map rk := by rw [← hkeys]; exact List.mem_map_of_mem hx
    obtain ⟨r, hr, er⟩ := List.mem_map.mp hm
    have ht := htup x hx
    rw [← er, rk_kV] at ht
    obtain ⟨_, its, rv, ot, hot, hct, nt, hdt⟩ := (show ObjOk X.prog X.w H h' x.2.1 (.tup (r.map V.int)) from I1.hok _ _ ht)
    exact ⟨x.2.1, r, rfl, ht, hr, x.2.1, its.toArray, rfl, ⟨ot, hot, hct, nt, hdt⟩, by simpa using ints_of_vals rv⟩
  have hperm : (acc.toList.map (TS.intsOf h')) = rows := by
    have e : acc.toList.map (TS.intsOf h') = ks.map fun x => TS.intsOf h' (.ref x.2.1) := by rw [ea, List.map_map]; rfl
    rw [e]
    have e2 : (ks.map fun x => rk (TS.intsOf h' (.ref x.2.1))) = ks.map (·.1) := by
      refine List.map_congr_left fun x hx => ?_
      have hm : x.1 ∈ rows.map rk := by rw [← hkeys]; exact List.mem_map_of_mem hx
      obtain ⟨r, hr, er⟩ := List.mem_map.mp hm
      have ht := htup x hx
      rw [← er, rk_kV] at ht
      obtain ⟨_, its, rv, ot, hot, hct, nt, hdt⟩ := (show ObjOk X.prog X.w H h' x.2.1 (.tup (r.map V.int)) from I1.hok _ _ ht)
      have ti : TS.TupInts h' (.ref x.2.1) r := ⟨x.2.1, its.toArray, rfl, ⟨ot, hot, hct, nt, hdt⟩, by simpa using ints_of_vals rv⟩
      rw [ti.ints, er]
    have e3 : (ks.map fun x => rk (TS.intsOf h' (.ref x.2.1))) = (ks.map fun x => TS.intsOf h' (.ref x.2.1)).map rk := by rw [List.map_map]; rfl
    rw [e3, hkeys] at e2
    exact (List.map_inj_right (fun a b e => rk_inj e)).mp e2
  have hal : acc.toList.length = rows.length := by rw [← hperm, List.length_map]
  refine wpAny_bind (wpAny_newList ?_ (by rw [hal, sizeLine_eq]; omega))
  have hoL : (h'.push (seqObj "list" acc.toList.toArray 0)).get? h'.objs.size = some (seqObj "list" acc.toList.toArray 0) := Heap.get?_push_size _ rfl
  show wpAny _ _ _ _ _ { s with heap := h'.push (seqObj "list" acc.toList.toArray 0), toks := tk }
  refine wpAny_bind (wpAny_holding (wpAny_call_entry PyProof.Rows.slot_list_sort ⟨_, hoL, rfl⟩ PyProof.Rows.entry_list_sort
    (SK.plain_sort (s := { s with heap := h'.push (seqObj "list" acc.toList.toArray 0), toks := tk }) (r := fun v => TS.code 6 (TS.intsOf h' v)) hoL (by rw [hal]; exact h64) (fun h2 Q' hQ' => ?_) fun ps out g1 g2 g3 => ⟨_, rfl, ?_⟩) (PyProof.Rows.args_list_sort _)))
  · have hd1 : 1 ≤ d := by
      rcases Nat.eq_zero_or_pos d with e | e
      · have := h1 e
        omega
      · exact e
    have keep : ∀ b ob, h'.get? b = some ob → (TS.midHeap (h'.push (seqObj "list" acc.toList.toArray 0)) h'.objs.size acc.toList).get? b = some ob := fun b ob e =>
      TS.midHeap_old (Nat.ne_of_lt (Heap.lt_size e)) (Heap.get?_push_of_some _ e)
    have x : TS.TupsOk (TS.midHeap (h'.push (seqObj "list" acc.toList.toArray 0)) h'.objs.size acc.toList) d 6 acc.toList := fun v hv => by
      obtain ⟨b, r, rfl, _, hr, ti⟩ := hti v hv
      exact ⟨r, ti.keeps fun b o e _ => keep b o e, (hB r hr).1, (hB r hr).2⟩
    refine TS.kind_tups (s := { s with heap := TS.midHeap (h'.push (seqObj "list" acc.toList.toArray 0)) h'.objs.size acc.toList, toks := tk }) hd1 h2 x (fun v => TS.code 6 (TS.intsOf h' v)) (fun v hv ns t => ?_) Q' hQ'
    obtain ⟨b, r, rfl, _, hr, ti⟩ := hti v hv
    have e : ns = r := t.ints.symm.trans (ti.keeps fun b o e _ => keep b o e).ints
    rw [e]
    show TS.code 6 (TS.intsOf h' (.ref b)) = _
    rw [ti.ints]
  · obtain ⟨o1, o2⟩ := TS.out_rank (r := fun v => TS.code 6 (TS.intsOf h' v)) g1 g2 g3
    obtain ⟨e', he'⟩ := PyProof.Rows.sortedHeap_at (vs := acc.toList) (out := out) hoL
    have hm : ∀ v ∈ out.toList, ∃ (b : Addr) (r : Row), v = .ref b ∧ H b = some (.tup (r.map V.int)) ∧ r ∈ rows ∧ TS.TupInts h' v r := fun v hv => hti v (o1.mem_iff.mp hv)
    have hout : (out.toList.map fun v => (refA v, TS.intsOf h' v)).map (fun q : Addr × Row => Value.ref q.1) = out.toList := by
      rw [List.map_map]
      conv => rhs; rw [← List.map_id out.toList]
      refine List.map_congr_left fun v hv => ?_
      obtain ⟨b, r, rfl, _⟩ := hm v hv
      rfl
    have hv : Vals ((out.toList.map fun v => (refA v, TS.intsOf h' v)).map fun q : Addr × Row => V.ref q.1) out.toList := by
      conv => arg 2; rw [← hout]
      generalize (out.toList.map fun v => (refA v, TS.intsOf h' v)) = L
      induction L with
      | nil => exact .nil
      | cons q L ih => exact .cons rfl ih
    have hlen : ((out.toList.map fun v => (refA v, TS.intsOf h' v)).map fun q : Addr × Row => V.ref q.1).length ≤ sizeLine := by
      rw [List.length_map, List.length_map, o1.length_eq, hal, sizeLine_eq]
      omega
    refine wpAny_pure ⟨_, rfl, .ref h'.objs.size, upd H h'.objs.size (.lst ((out.toList.map fun v => (refA v, TS.intsOf h' v)).map fun q : Addr × Row => V.ref q.1)), I1.laid (t' := tk) (fun b u e => ?_) (Nat.le_refl _)
      (show ObjOk X.prog X.w _ _ _ (.lst _) from ⟨hlen, out.toList, e', hv, by rw [Array.toArray_toList]; exact he'⟩), rfl, q _ _ ?_ ?_ ?_ (I1.hok.fresh (Nat.le_refl _))⟩
    · have hb : b < h'.objs.size := Heap.lt_size e
      rw [PyProof.Rows.sortedHeap_old (Nat.ne_of_lt hb) (by rw [size_push']; exact Nat.lt_succ_of_lt hb)]
      exact Heap.get?_push_of_some _ e
    · rw [List.map_map]
      have e : ((fun x : Addr × Row => x.2) ∘ fun v => (refA v, TS.intsOf h' v)) = TS.intsOf h' := rfl
      rw [e]
      conv => arg 2; rw [← hperm]
      exact o1.map _
    · rw [List.map_map]
      have e : ((fun x : Addr × Row => x.2) ∘ fun v => (refA v, TS.intsOf h' v)) = TS.intsOf h' := rfl
      rw [e]
      show ((out.toList.map (TS.intsOf h')).Pairwise fun a b => ltR b a = false)
      rw [List.pairwise_map]
      refine List.Pairwise.imp_of_mem (fun {u v} hu hv hle => ?_) o2
      obtain ⟨b, r, rfl, _, hr, ti⟩ := hm u hu
      obtain ⟨b', r', rfl, _, hr', ti'⟩ := hm v hv
      have hle' : TS.code 6 (TS.intsOf h' (.ref b)) ≤ TS.code 6 (TS.intsOf h' (.ref b')) := hle
      rw [ti.ints, ti'.ints] at hle' ⊢
      rw [code_lex (by rw [(hB r hr).1, (hB r' hr').1]) (hB r' hr').2 (hB r hr).2]
      exact decide_eq_false (by omega)
    · intro q hq
      obtain ⟨v, hv, rfl⟩ := List.mem_map.mp hq
      obtain ⟨b, r, rfl, ht, hr, ti⟩ := hm v hv
      show H b = some (.tup ((TS.intsOf h' (.ref b)).map V.int))
      rw [ti.ints]
      exact ht
end Tt

namespace Tt
open PySem PySem.Spec PyProof.Rows L2
/-- by the row, then by the number -/
def ltRC (a b : Row × Int) : Bool := if a.1 = b.1 then decide (a.2 < b.2) else ltR a.1 b.1
theorem ltRC_row {a b : Row × Int} (h : ltRC a b = false) : ltR a.1 b.1 = false := by
  unfold ltRC at h
  by_cases e : a.1 = b.1
  · rw [e]
    exact ltR_irr _
  · rw [if_neg e] at h
    exact h
theorem swoRC {α : Type} (k : α → Row × Int) : SrtO.Swo fun v u => ltRC (k v) (k u) := by
  refine ⟨fun x y h => ?_, fun x y z h1 h2 => ?_⟩
  · unfold ltRC at h ⊢
    by_cases e : (k x).1 = (k y).1
    · rw [if_pos e] at h
      rw [if_pos e.symm]
      simp at h ⊢
      omega
    · rw [if_neg e] at h
      rw [if_neg (fun q => e q.symm)]
      exact ltR_asym _ _ h
  · unfold ltRC at h1 h2 ⊢
    by_cases e : (k y).1 = (k x).1
    · rw [if_pos e] at h1
      by_cases e2 : (k z).1 = (k y).1
      · rw [if_pos e2] at h2
        rw [if_pos (e2.trans e)]
        simp at h1 h2 ⊢
        omega
      · rw [if_neg e2] at h2
        rw [e] at e2 h2
        rw [if_neg e2]
        exact h2
    · rw [if_neg e] at h1
      by_cases e2 : (k z).1 = (k y).1
      · rw [← e2] at e h1
        rw [if_neg e]
        exact h1
      · rw [if_neg e2] at h2
        by_cases e3 : (k z).1 = (k x).1
        · rw [e3] at h2 e2
          exact absurd (ltR_eq h2 h1) e2
        · rw [if_neg e3]
          exact ltR_neg _ _ _ h1 h2
def keyP (h : Heap) (v : Value) : Row × Int := match v with
  | .ref a => match h.get? a with
    | some o => match o.data with
      | .seq xs _ => (TS.intsOf h (xs.toList.headD .none), PyProof.Rows.numOf (xs.toList.getD 1 .none))
      | _ => ([], 0)
    | none => ([], 0)
  | _ => ([], 0)
def PairRC (h : Heap) (v : Value) (e : Row × Int) : Prop := ∃ (a k : Addr) (t : Tok), v = .ref a ∧ IsTup h a #[.ref k, .int e.2 t] ∧ TS.TupInts h (.ref k) e.1
theorem PairRC.key {h : Heap} {v : Value} {e : Row × Int} (x : PairRC h v e) : keyP h v = e := by
  obtain ⟨a, k, t, rfl, ⟨o, ho, hc, n, hd⟩, ti⟩ := x
  simp only [keyP, ho, hd]
  show (TS.intsOf h (.ref k), e.2) = e
  rw [ti.ints]
theorem PairRC.keeps {h h' : Heap} {v : Value} {e : Row × Int} (x : PairRC h v e) (k : ∀ b o, h.get? b = some o → o.cls = .type "tuple" → h'.get? b = some o) : PairRC h' v e := by
  obtain ⟨a, q, t, rfl, ⟨o, ho, hc, r⟩, ti⟩ := x
  exact ⟨a, q, t, rfl, ⟨o, k _ _ ho hc, hc, r⟩, ti.keeps k⟩
theorem firstsRC {h : Heap} : ∀ vs : List Value, (∀ v ∈ vs, ∃ e, PairRC h v e) → ∃ fs : List Value, PySem.W.KatTups h vs fs ∧ fs.length = vs.length ∧ ∀ f ∈ fs, ∃ (q : Addr) (o : Obj), f = Value.ref q ∧ h.get? q = some o ∧ o.cls = .type "tuple"
  | [], _ => ⟨[], PySem.W.KatTups.nil, rfl, fun f hf => by simp at hf⟩
  | v :: vs, x => by
    obtain ⟨fs, k, hl, hi⟩ := firstsRC vs fun u hu => x u (List.mem_cons_of_mem _ hu)
    obtain ⟨e, a, q, t, rfl, ⟨o, ho, hc, n, hd⟩, ⟨q', xs, eq', ⟨o2, ho2, hc2, _⟩, _⟩⟩ := x v List.mem_cons_self
    cases eq'
    refine ⟨.ref q :: fs, PySem.W.KatTups.cons ho hc hd rfl k, by rw [List.length_cons, List.length_cons, hl], fun f hf => ?_⟩
    rcases List.mem_cons.mp hf with rfl | hf
    · exact ⟨q, o2, rfl, ho2, hc2⟩
    · exact hi f hf
section
variable {prog : Program} {w : World} {A : Around} {E : Value → Shared → Prop} {s : Shared}
theorem key_ints {h : Heap} {k : Addr} {r : Row} (x : TS.TupInts h (.ref k) r) : IsTupleKey (intKind prog w) h r k := by
  obtain ⟨a, xs, e, ⟨o, ho, hc, n, hd⟩, i⟩ := x
  cases e
  refine ⟨o, xs, n, ho, hc, hd, ?_⟩
  have : ∀ {vs : List Value} {ns : List Int}, IntsAre vs ns → PySem.ItemsAre (intKind prog w) ns vs := by
    intro vs ns h
    induction h with
    | nil => exact .nil
    | cons n t _ ih => exact .cons (intKind_is _ _ _ _) ih
  exact this i
theorem cmpRC {vs : List Value} (hu : A.units < cLine) (hp : ∀ v ∈ vs, ∃ e, PairRC s.heap v e) : SrtO.Cmp prog w A s (tuples' false) (fun p => p.1 ∈ vs) (SrtO.lt2 fun v u => ltRC (keyP s.heap v) (keyP s.heap u)) := by
  intro p q hm hm'
  show wpAny (model prog w) A (keyLt' (tuples' false) p.1 q.1) (fun r s' => s' = s ∧ r = ltRC (keyP s.heap p.1) (keyP s.heap q.1)) (fun _ _ => False) s
  obtain ⟨⟨r, x⟩, h1⟩ := hp _ hm
  obtain ⟨⟨r', x'⟩, h2⟩ := hp _ hm'
  rw [h1.key, h2.key]
  obtain ⟨a, k, t, e, ⟨o, ho, hc, n, hd⟩, ti⟩ := h1
  obtain ⟨a', k', t', e', ⟨o', ho', hc', n', hd'⟩, ti'⟩ := h2
  rw [e, e']
  refine PySem.W.kat_lt ho hd ho' hd' ?_
  show PySem.W.KatLex prog w A false (decide (2 < 2)) _ [(.ref k, .ref k'), (.int x t, .int x' t')] 0 s
  refine PySem.W.kat_cons (wpAny_eqBool_tuple hu (key_ints ti) (key_ints ti') ?_)
  refine PySem.W.kat_go (fun e1 => ?_) (fun e1 => ?_)
  · have er : r = r' := of_decide_eq_true e1
    refine PySem.W.kat_yes (PySem.W.kat_cons (SeqAt.EqAt.int_int x t x' t' prog w _ _ ?_))
    have e3 : ltRC (r, x) (r', x') = decide (x < x') := if_pos er
    rw [e3]
    refine PySem.W.kat_go (fun e2 => ?_) (fun e2 => ?_)
    · have ey : x = x' := by simpa using e2
      exact PySem.W.kat_yes (PySem.W.kat_nil ⟨rfl, by rw [ey]; exact (decide_eq_false (Int.lt_irrefl _)).symm⟩)
    · exact PySem.W.kat_no (PySem.W.kat_one _ _ (PyProof.Rows.lt_int ⟨rfl, rfl⟩))
  · have er : ¬ r = r' := of_decide_eq_false e1
    have e3 : ltRC (r, x) (r', x') = ltR r r' := if_neg er
    rw [e3]
    refine PySem.W.kat_no ?_
    show wpAny _ _ (oneLt' false _ _) _ _ _
    obtain ⟨b, xs, eb, tb, ib⟩ := ti
    obtain ⟨b', xs', eb', tb', ib'⟩ := ti'
    cases eb; cases eb'
    exact PySem.W.kat_one _ _ (HT.lt_tupInts tb tb' ib ib' hu ⟨rfl, rfl⟩)
theorem sortableRC {a : Addr} {vs : List Value} (hu : A.units < cLine) (h0 : 0 < vs.length) (hp : ∀ v ∈ vs, ∃ e, PairRC s.heap v e) (ha : ∀ o, s.heap.get? a = some o → o.cls ≠ .type "tuple") : SrtO.SortableO prog w A s a vs fun v u => ltRC (keyP s.heap v) (keyP s.heap u) := by
  intro h' keep
  have kp : ∀ b o, s.heap.get? b = some o → o.cls = .type "tuple" → h'.get? b = some o := fun b o e c => keep b o (fun z => by subst z; exact ha o e c) e
  have hp' : ∀ v ∈ vs, ∃ e, PairRC h' v e := fun v hm => let ⟨e, x⟩ := hp v hm; ⟨e, x.keeps kp⟩
  obtain ⟨fs, h1, h2, h3⟩ := firstsRC _ hp'
  refine ⟨tuples' false, fun Q E hq => ?_, ?_⟩
  · refine PySem.W.kat_kind (T := .type "tuple") h1 (by omega) (fun f hm => ?_) (by rfl) ?_
    · obtain ⟨q, o, rfl, ho, hc⟩ := h3 f hm
      have z : PySem.W.Looks (model prog w) h' (typeOf (.ref q)) o.cls := (PySem.W.Looks.ld ho).andThen .now
      rw [hc] at z
      exact z
    · have e : (Value.type "tuple" != Value.type "tuple") = false := by first | decide +kernel | rfl | decide
      rw [e]
      exact hq
  · have c := cmpRC (prog := prog) (w := w) (s := { s with heap := h' }) hu hp'
    intro p q hm hm'
    have e1 : keyP h' p.1 = keyP s.heap p.1 := by
      obtain ⟨e, x⟩ := hp _ hm
      rw [x.key, (x.keeps kp).key]
    have e2 : keyP h' q.1 = keyP s.heap q.1 := by
      obtain ⟨e, x⟩ := hp _ hm'
      rw [x.key, (x.keeps kp).key]
    have z := c p q hm hm'
    simp only [SrtO.lt2, e1, e2] at z ⊢
    exact z
theorem sortedRC {l : Addr} {vs : List Value} {Q : Value → Shared → Prop} (hu : A.units + 2 < cLine) (hl : s.heap.IsList l vs.toArray) (hz : vs.length ≤ sizeLine) (hp : ∀ v ∈ vs, ∃ e, PairRC s.heap v e)
    (h : ∀ (h' : Heap) (d : Addr) (out : List Value), SrtO.Srtd (fun v u => ltRC (keyP s.heap v) (keyP s.heap u)) out → out.Perm vs → (∀ b o, s.heap.get? b = some o → h'.get? b = some o) → s.heap.objs.size ≤ d → (∃ n, h'.get? d = some (seqObj "list" out.toArray n)) → Q (.ref d) { s with heap := h' }) :
    wpAny (model prog w) A (call (.builtin "sorted") [.ref l]) Q E s := by
  refine SrtO.sorted_ord (swoRC (keyP s.heap)) hl hz (fun h2 h₁ a ha kk => ?_) fun out hs hb => ?_
  · have x := sortableRC (prog := prog) (w := w) (A := A.in1.in1) (s := { s with heap := h₁ }) (a := a) (vs := vs) (by show A.units + 1 + 1 < cLine; omega) (by omega) (fun v hm => let ⟨e, x⟩ := hp v hm; ⟨e, x.keeps fun b o e _ => (kk b o e).2⟩) fun o e => by
      have e' : some o = some (seqObj "list" vs.toArray 0) := e.symm.trans ha
      cases e'
      intro c
      exact absurd (Value.type.inj c) (by decide)
    intro h'' keep
    obtain ⟨κ, c1, c2⟩ := x h'' keep
    refine ⟨κ, c1, fun p q hm hm' => ?_⟩
    have e1 : keyP h₁ p.1 = keyP s.heap p.1 := by
      obtain ⟨e, x⟩ := hp _ hm
      rw [x.key, (x.keeps fun b o e _ => (kk b o e).2).key]
    have e2 : keyP h₁ q.1 = keyP s.heap q.1 := by
      obtain ⟨e, x⟩ := hp _ hm'
      rw [x.key, (x.keeps fun b o e _ => (kk b o e).2).key]
    have z := c2 p q hm hm'
    simp only [SrtO.lt2, e1, e2] at z ⊢
    exact z
  · exact h _ _ out hs hb.perm (fun b o e => sortedAll_old e) (Nat.le_succ _) (sortedAll_at s.heap vs out.toArray)
end
/-- sorted(a list of pairs of a row and a number) -/
def PairV (H : Hp) (x : V) (e : Row × Int) : Prop := ∃ t k, x = .ref t ∧ H t = some (.tup [.ref k, .int e.2]) ∧ H k = some (.tup (e.1.map V.int))
def rSortedRC (K : PySem.W.Frag) : List V → Hp → VK → Prop := fun vs H Q => ∃ (a : Addr) (xs : List V) (L : Tab), vs = [.ref a] ∧ SqL K H a xs ∧ Paired (PairV H) xs L ∧
  ∀ (ys : List V) (L' : Tab) (p : Addr), L'.Perm L → Up ltRC L' → Paired (PairV H) ys L' → H p = none → Q (.ref p) (upd H p (.lst ys))
theorem cr_sortedRC {X : Cx} {K : PySem.W.Frag} (hu : X.A.units + 2 < cLine) (hK : X.K = K := by rfl) : CallR X (.builtin "sorted") (rSortedRC K) := by
  subst hK
  intro pins s σ H xs us Q I r h
  obtain ⟨a, xs, L, rfl, hs, hp, q⟩ := h
  obtain ⟨its, rv, hl, hz⟩ := I.list hs
  obtain ⟨u, rfl, ru⟩ := vals1 r
  obtain rfl : u = Value.ref a := ru
  have refs : ∀ {xs : List V} {L : Tab}, Paired (PairV H) xs L → ∀ x ∈ xs, ∃ a, x = V.ref a := by
    intro xs L p
    induction p with
    | nil => intro x hx; exact nomatch hx
    | cons h t ih =>
      intro x hx
      rcases List.mem_cons.mp hx with rfl | hx
      · obtain ⟨t, k, e, _⟩ := h
        exact ⟨t, e⟩
      · exact ih x hx
  obtain ⟨e1, e2⟩ := refs_back rv (refs hp)
  have raw : ∀ {v : Value} {e : Row × Int}, (∃ a, v = Value.ref a) → PairV H (backV v) e → PairRC s.heap v e := by
    rintro v e ⟨b, rfl⟩ ⟨t, k, et, ht, hk⟩
    cases et
    obtain ⟨_, its2, r2, o, ho, hc, n, hd⟩ := I.hok _ _ ht
    obtain ⟨u1, u2, rfl, ri, rj⟩ := vals2 r2
    cases ri
    obtain ⟨t2, rfl⟩ := rj
    obtain ⟨_, its3, r3, o3, ho3, hc3, n3, hd3⟩ := (show ObjOk X.prog X.w H s.heap k (.tup (e.1.map V.int)) from I.hok _ _ hk)
    exact ⟨b, k, t2, rfl, ⟨o, ho, hc, n, hd⟩, k, its3.toArray, rfl, ⟨o3, ho3, hc3, n3, hd3⟩, by simpa using ints_of_vals r3⟩
  have prs : ∀ {us : List Value} {L : Tab}, (∀ u ∈ us, ∃ a, u = Value.ref a) → Paired (PairV H) (us.map backV) L → L = us.map (keyP s.heap) ∧ ∀ v ∈ us, PairV H (backV v) (keyP s.heap v) := by
    intro us
    induction us with
    | nil =>
      intro L _ p
      cases p
      exact ⟨rfl, fun v hv => nomatch hv⟩
    | cons u us ih =>
      intro L hr p
      cases p with
      | cons h t =>
        have hx := (raw (hr u List.mem_cons_self) h).key
        obtain ⟨i1, i2⟩ := ih (fun v hv => hr v (List.mem_cons_of_mem _ hv)) t
        refine ⟨by rw [List.map_cons, hx, i1], fun v hv => ?_⟩
        rcases List.mem_cons.mp hv with rfl | hv
        · rw [hx]
          exact h
        · exact i2 v hv
  rw [e1] at hp
  obtain ⟨i1, i2⟩ := prs e2 hp
  refine sortedRC hu hl.isList (by rw [← rv.length]; exact hz) (fun v hv => ⟨_, raw (e2 v hv) (i2 v hv)⟩) fun h' d out h1 h2 kp hd hn => ?_
  have h3 : ∀ u ∈ out, ∃ a, u = Value.ref a := fun u hu => e2 u (h2.mem_iff.mp hu)
  obtain ⟨n, hn⟩ := hn
  have pk : ∀ l : List Value, (∀ u ∈ l, u ∈ its) → Paired (PairV H) (l.map backV) (l.map (keyP s.heap)) := by
    intro l
    induction l with
    | nil => intro _; exact .nil
    | cons u l ih => intro hm; exact .cons (i2 u (hm u List.mem_cons_self)) (ih fun v hv => hm v (List.mem_cons_of_mem _ hv))
  refine ⟨.ref d, upd H d (.lst (out.map backV)), I.laid (t' := s.toks) kp hd ⟨?_, out, n, vals_back h3, hn⟩, rfl, q _ (out.map (keyP s.heap)) d ?_ ?_ (pk out fun u hu => h2.mem_iff.mp hu) (I.hok.fresh hd)⟩
  · rw [List.length_map, h2.length_eq, ← rv.length]
    exact hz
  · rw [i1]
    exact h2.map _
  · exact List.pairwise_map.mpr h1
end Tt

/-! Dicts whose keys are rows. -/
namespace Tt
open PySem L2 RZ
theorem putK_hit {κ : Type} [DecidableEq κ] {kvs : List (κ × V)} {k : κ} {v : V} (h : k ∈ kvs.map (·.1)) : putK kvs k v = kvs.map fun kv => if kv.1 = k then (kv.1, v) else kv := by
  unfold putK
  rw [if_pos]
  obtain ⟨p, hp, e⟩ := List.mem_map.mp h
  exact List.any_eq_true.mpr ⟨p, hp, by simp [e]⟩
theorem putK_new {κ : Type} [DecidableEq κ] {kvs : List (κ × V)} {k : κ} {v : V} (h : k ∉ kvs.map (·.1)) : putK kvs k v = kvs ++ [(k, v)] := by
  unfold putK
  rw [if_neg]
  intro q
  obtain ⟨p, hp, e⟩ := List.any_eq_true.mp q
  exact h (List.mem_map.mpr ⟨p, hp, by simpa using e⟩)
/-- the number at a row -/
def numD (f : Row × Int × Int → Int) (acc : Msg) (r : Row) (z : Int) : Int := ((acc.find? fun t => decide (t.1 = r)).map f).getD z
def dI (f : Row × Int × Int → Int) (acc : Msg) : List (List L2.Key × V) := acc.map fun t => (rk t.1, V.int (f t))
theorem dI_keys (f : Row × Int × Int → Int) (acc : Msg) : (dI f acc).map (·.1) = (acc.map (·.1)).map rk := by
  unfold dI
  rw [List.map_map, List.map_map]
  rfl
theorem dI_val (f : Row × Int × Int → Int) (r : Row) : ∀ acc : Msg, valV (dI f acc) (rk r) = (acc.find? fun t => decide (t.1 = r)).map fun t => V.int (f t)
  | [] => rfl
  | t :: acc => by
    show valV ((rk t.1, V.int (f t)) :: dI f acc) (rk r) = _
    by_cases e : t.1 = r
    · rw [valV_pos (by rw [e]), List.find?_cons_of_pos (by simp [e])]
      rfl
    · rw [valV_neg (fun q => e (rk_inj q)), List.find?_cons_of_neg (by simp [e])]
      exact dI_val f r acc
theorem dI_get (f : Row × Int × Int → Int) (r : Row) (acc : Msg) (z : Int) : (valV (dI f acc) (rk r)).getD (V.int z) = V.int (numD f acc r z) := by
  rw [dI_val]
  unfold numD
  cases acc.find? fun t => decide (t.1 = r) <;> rfl
theorem mem_rk {r : Row} {l : List Row} : rk r ∈ l.map rk ↔ r ∈ l := by
  constructor
  · intro h
    obtain ⟨q, hq, e⟩ := List.mem_map.mp h
    rw [← rk_inj e]
    exact hq
  · exact fun h => List.mem_map_of_mem h
theorem any_row {acc : Msg} {r : Row} : (acc.any fun t => decide (t.1 = r)) = true ↔ r ∈ acc.map (·.1) := by
  rw [List.any_eq_true]
  constructor
  · rintro ⟨t, ht, e⟩
    exact List.mem_map.mpr ⟨t, ht, by simpa using e⟩
  · intro h
    obtain ⟨t, ht, e⟩ := List.mem_map.mp h
    exact ⟨t, ht, by simpa using e⟩
theorem find_row {acc : Msg} (hn : (acc.map (·.1)).Nodup) {t : Row × Int × Int} (ht : t ∈ acc) : (acc.find? fun u => decide (u.1 = t.1)) = some t := by
  induction acc with
  | nil => cases ht
  | cons x xs ih =>
    rw [List.map_cons, List.nodup_cons] at hn
    rcases List.mem_cons.mp ht with rfl | ht
    · rw [List.find?_cons_of_pos (by simp)]
    · rw [List.find?_cons_of_neg]
      · exact ih hn.2 ht
      · intro e
        have : x.1 = t.1 := by simpa using e
        exact hn.1 (by rw [this]; exact List.mem_map_of_mem ht)
theorem find_none {acc : Msg} {r : Row} (h : r ∉ acc.map (·.1)) : (acc.find? fun u => decide (u.1 = r)) = none := by
  rw [List.find?_eq_none]
  intro t ht e
  exact h (List.mem_map.mpr ⟨t, ht, by simpa using e⟩)
theorem addTo_rows (acc : Msg) (it : Row × Int × Int) : (addTo acc it).map (·.1) = if it.1 ∈ acc.map (·.1) then acc.map (·.1) else acc.map (·.1) ++ [it.1] := by
  unfold addTo
  by_cases h : it.1 ∈ acc.map (·.1)
  · rw [if_pos h, if_pos (any_row.mpr h), List.map_map]
    refine List.map_congr_left fun t ht => ?_
    simp only [Function.comp]
    split <;> rfl
  · rw [if_neg h, if_neg (fun q => h (any_row.mp q)), List.map_append]
    rfl
theorem addTo_nodup {acc : Msg} (hn : (acc.map (·.1)).Nodup) (it : Row × Int × Int) : ((addTo acc it).map (·.1)).Nodup := by
  rw [addTo_rows]
  split
  · exact hn
  · rename_i h
    exact List.nodup_append.mpr ⟨hn, List.nodup_cons.mpr ⟨by simp, List.nodup_nil⟩, fun a ha b hb e => by
      rw [List.mem_singleton.mp hb] at e
      exact h (e ▸ ha)⟩
/-- one turn's storing -/
theorem dI_put {f : Row × Int × Int → Int} {acc : Msg} (hn : (acc.map (·.1)).Nodup) {it : Row × Int × Int} {x : Int}
    (h1 : ∀ t ∈ acc, t.1 = it.1 → x = f (t.1, t.2.1 + it.2.1, min t.2.2 it.2.2)) (h2 : it.1 ∉ acc.map (·.1) → x = f it) : putK (dI f acc) (rk it.1) (.int x) = dI f (addTo acc it) := by
  by_cases h : it.1 ∈ acc.map (·.1)
  · rw [putK_hit (by rw [dI_keys]; exact mem_rk.mpr h)]
    unfold addTo
    rw [if_pos (any_row.mpr h)]
    unfold dI
    rw [List.map_map, List.map_map]
    refine List.map_congr_left fun t ht => ?_
    simp only [Function.comp]
    by_cases e : t.1 = it.1
    · rw [if_pos (by rw [e]), if_pos e, h1 t ht e]
    · rw [if_neg (fun q => e (rk_inj q)), if_neg e]
  · rw [putK_new (by rw [dI_keys]; exact fun q => h (mem_rk.mp q))]
    unfold addTo
    rw [if_neg (fun q => h (any_row.mp q)), h2 h]
    unfold dI
    rw [List.map_append]
    rfl
theorem numD_of {f : Row × Int × Int → Int} {acc : Msg} (hn : (acc.map (·.1)).Nodup) {t : Row × Int × Int} (ht : t ∈ acc) (z : Int) : numD f acc t.1 z = f t := by
  unfold numD
  rw [find_row hn ht]
  rfl
theorem numD_none {f : Row × Int × Int → Int} {acc : Msg} {r : Row} (h : r ∉ acc.map (·.1)) (z : Int) : numD f acc r z = z := by
  unfold numD
  rw [find_none h]
  rfl
abbrev fC : Row × Int × Int → Int := fun t => t.2.1
abbrev fL : Row × Int × Int → Int := fun t => t.2.2
theorem put_C {acc : Msg} (hn : (acc.map (·.1)).Nodup) (it : Row × Int × Int) : putK (dI fC acc) (rk it.1) (.int (numD fC acc it.1 0 + it.2.1)) = dI fC (addTo acc it) :=
  dI_put hn (fun t ht e => by rw [← e, numD_of hn ht]) fun h => by rw [numD_none h, Int.zero_add]
theorem put_L {acc : Msg} (hn : (acc.map (·.1)).Nodup) (it : Row × Int × Int) : putK (dI fL acc) (rk it.1) (.int (min (numD fL acc it.1 it.2.2) it.2.2)) = dI fL (addTo acc it) :=
  dI_put hn (fun t ht e => by rw [← e, numD_of hn ht]) fun h => by rw [numD_none h, Int.min_self]
def accOf (items : Msg) : Msg := items.foldl addTo []
theorem acc_nodup (items : Msg) : ((accOf items).map (·.1)).Nodup := by
  have : ∀ (items acc : Msg), (acc.map (·.1)).Nodup → ((items.foldl addTo acc).map (·.1)).Nodup := by
    intro items
    induction items with
    | nil => exact fun acc h => h
    | cons it items ih => exact fun acc h => ih _ (addTo_nodup h it)
  exact this items [] List.nodup_nil
theorem acc_snoc (items : Msg) (it : Row × Int × Int) : accOf (items ++ [it]) = addTo (accOf items) it := by
  unfold accOf
  rw [List.foldl_append]
  rfl
theorem acc_rows (items : Msg) : ∀ r, r ∈ (accOf items).map (·.1) ↔ r ∈ items.map (·.1) := by
  have : ∀ (items acc : Msg) (r : Row), r ∈ (items.foldl addTo acc).map (·.1) ↔ r ∈ acc.map (·.1) ∨ r ∈ items.map (·.1) := by
    intro items
    induction items with
    | nil => simp
    | cons it items ih =>
      intro acc r
      rw [List.foldl_cons, ih, addTo_rows, List.map_cons, List.mem_cons]
      by_cases h : it.1 ∈ acc.map (·.1)
      · rw [if_pos h]
        constructor
        · rintro (q | q)
          · exact .inl q
          · exact .inr (.inr q)
        · rintro (q | q | q)
          · exact .inl q
          · exact .inl (q ▸ h)
          · exact .inr q
      · rw [if_neg h, List.mem_append, List.mem_singleton]
        constructor
        · rintro ((q | q) | q)
          · exact .inl q
          · exact .inr (.inl q)
          · exact .inr (.inr q)
        · rintro (q | q | q)
          · exact .inl (.inl q)
          · exact .inl (.inr q)
          · exact .inr q
  intro r
  rw [accOf, this]
  simp
theorem addTo_len (acc : Msg) (it : Row × Int × Int) : (addTo acc it).length ≤ acc.length + 1 := by
  have h := congrArg List.length (addTo_rows acc it)
  rw [List.length_map] at h
  rw [h]
  split
  · rw [List.length_map]; omega
  · rw [List.length_append, List.length_map]; exact Nat.le_refl _
theorem acc_len (items : Msg) : (accOf items).length ≤ items.length := by
  have : ∀ (items acc : Msg), (items.foldl addTo acc).length ≤ acc.length + items.length := by
    intro items
    induction items with
    | nil => exact fun acc => Nat.le_refl _
    | cons it items ih =>
      intro acc
      have h1 := ih (addTo acc it)
      have h2 := addTo_len acc it
      rw [List.foldl_cons, List.length_cons]
      omega
  have h := this items []
  rw [List.length_nil, Nat.zero_add] at h
  exact h
section
variable {K : PySem.W.Frag} {σ : St} {H H' : Hp} {ta tb tc te tx td ty tv : TE} {t u : TT} {d e z : PyData} {v : V} {ds es : List PyData} {D : Addr} {kvs : List (List L2.Key × V)} {r : Row} {E : Ends} {w : TS}
/-- the row at a reading is a key -/
theorem Fz.keyI (f : Fz H v (eR r)) : ∃ b, v = .ref b ∧ H b = some (.tup ((rk r).map kV)) := by
  obtain ⟨a, xs, rfl, e, fa⟩ := f.tupI
  obtain rfl := fz_ints fa
  exact ⟨a, rfl, by rw [rk_kV]; exact e⟩
abbrev AtD (td : TE) (σ : St) (H : Hp) (D : Addr) : Prop := ∀ H1, Same H H1 → ∀ Q : VK, Q (.ref D) H1 → td σ H1 Q
theorem e_dget (hd : AtD td σ H D) (e : H D = some (.dT kvs)) (hk : EF ty σ H (eR r)) (hv : ∃ v, valV kvs (rk r) = some v ∧ Fz H v d) : EF (tDGet td ty) σ H d := fun H1 a Q q =>
  hd H1 a _ (hk H1 a _ fun y H2 s f => by
    obtain ⟨b, rfl, eb⟩ := f.keyI
    obtain ⟨v, hv, fv⟩ := hv
    exact ⟨D, v, rfl, .inr ⟨kvs, rk r, b, .inl (s _ _ (a _ _ e)), rfl, eb, hv.symm⟩, q v H2 s ((fv.same a).same s)⟩)
/-- d.get(row, z) -/
theorem e_dget2 (hd : AtD td σ H D) (e : H D = some (.dT kvs)) (hk : EF ty σ H (eR r)) (hx : EF tx σ H z) (hv : ∀ H1 u, Same H H1 → Fz H1 u z → Fz H1 ((valV kvs (rk r)).getD u) d) : EF (tDGet2 td ty tx) σ H d := fun H1 a Q q =>
  hd H1 a _ ⟨D, rfl, .inr ⟨kvs, .inl (a _ _ e)⟩, hk H1 a _ fun y H2 s f => hx H2 (a.trans s) _ fun u H3 s3 f3 => by
    obtain ⟨b, rfl, eb⟩ := f.keyI
    exact ⟨_, .inr ⟨kvs, rk r, b, .inl (s3 _ _ (s _ _ (a _ _ e))), rfl, s3 _ _ eb, rfl⟩, q _ H3 (s.trans s3) (hv H3 u ((a.trans s).trans s3) f3)⟩⟩
/-- d[row] = x -/
theorem s_dput (hv : EF tv σ H d) (hd : AtD td σ H D) (e : H D = some (.dT kvs)) (hk : EF ty σ H (eR r)) (hz : kvs.length < 100000)
    (k : ∀ v H1, Same H H1 → Fz H1 v d → E.nx σ (upd H1 D (.dT (putK kvs (rk r) v)))) : sDPut td ty tv E σ H :=
  hv.go fun v H1 s f => hd H1 s _ (hk H1 s _ fun y H2 s2 f2 => by
    obtain ⟨b, rfl, eb⟩ := f2.keyI
    exact ⟨D, _, rfl, DPut.t (s2 _ _ (s _ _ e)) eb (Nat.lt_of_lt_of_le hz (by decide)), k v H2 (s.trans s2) (f.same s2)⟩)
theorem s_dputS (hv : EF tv σ H d) (hd : AtD td σ H D) (e : H D = some (.dT kvs)) (hk : EF ty σ H (eR r)) (hz : kvs.length < 100000)
    (k : ∀ v H1, Same H H1 → Fz H1 v d → w E σ (upd H1 D (.dT (putK kvs (rk r) v)))) : tSeq (sDPut td ty tv) w E σ H :=
  s_dput (E := { E with nx := w E }) hv hd e hk hz k
/-- rows at addresses -/
theorem fz_rows {L : List (Addr × Row)} (h : ∀ q ∈ L, H q.1 = some (.tup (q.2.map V.int))) : FzAll H (L.map fun q => V.ref q.1) ((L.map (·.2)).map eR) := by
  induction L with
  | nil => exact .nil
  | cons q L ih => exact .cons (.tup (h q List.mem_cons_self) (fz_of_ints _)) (ih fun p hp => h p (List.mem_cons_of_mem _ hp))
/-- sorted(d) -/
theorem el_sortedDT {rows : List Row} {dd : Nat} (hd : AtD td σ H D) (e : H D = some (.dT kvs)) (hk : kvs.map (·.1) = rows.map rk) (h64 : rows.length < 64) (hB : ∀ r ∈ rows, r.length = dd ∧ TS.Bd 6 r) (h1 : dd = 0 → rows.length ≤ 1) :
    EL (tCB rSortedDT (tCons td tNil)) σ H ((srtR rows).map eR) := fun H1 a Q q =>
  hd H1 a _ ⟨D, kvs, rows, dd, rfl, a _ _ e, hk, h64, hB, h1, fun L p g1 g2 g3 n => by
    refine q p _ _ n (same_new n) upd_same ?_
    rw [← srtR_of g1 g2]
    exact (fz_rows g3).same (same_new n)⟩
end
end Tt

/-! Equality of data; list.index; items of a list or of a tuple. -/
namespace Tt
open PySem L2 RZ
mutual
def noB : PyData → Bool
  | .none => true
  | .int _ => true
  | .str _ => true
  | .tuple ds => noBs ds
  | _ => false
def noBs : List PyData → Bool
  | [] => true
  | d :: ds => noB d && noBs ds
end
theorem noBs_map {α : Type} {f : α → PyData} (h : ∀ x, noB (f x) = true) : ∀ l : List α, noBs (l.map f) = true
  | [] => rfl
  | x :: l => by simp [noBs, h x, noBs_map h l]
mutual
theorem eqv_iff : ∀ {a b : PyData}, noB a = true → noB b = true → (PyData.eqv a b = true ↔ a = b)
  | .none, b, _, k => by cases b <;> simp [PyData.eqv]
  | .int i, b, _, k => by cases b <;> simp_all [PyData.eqv, noB]
  | .str x, b, _, k => by cases b <;> simp [PyData.eqv]
  | .tuple ds, b, h, k => by
    cases b with
    | tuple es =>
      simp only [PyData.eqv, PyData.tuple.injEq]
      exact eqvs_iff (by simpa [noB] using h) (by simpa [noB] using k)
    | _ => simp [PyData.eqv]
  | .bool _, _, h, _ => by simp [noB] at h
  | .list _, _, h, _ => by simp [noB] at h
  | .dict _, _, h, _ => by simp [noB] at h
theorem eqvs_iff : ∀ {a b : List PyData}, noBs a = true → noBs b = true → (PyData.eqvAll a b = true ↔ a = b)
  | [], [], _, _ => by simp [PyData.eqvAll]
  | [], _ :: _, _, _ => by simp [PyData.eqvAll]
  | _ :: _, [], _, _ => by simp [PyData.eqvAll]
  | x :: xs, y :: ys, h, k => by
    simp only [noBs, Bool.and_eq_true] at h k
    simp only [PyData.eqvAll, Bool.and_eq_true, List.cons.injEq]
    rw [eqv_iff h.1 k.1, eqvs_iff h.2 k.2]
end
theorem eqv_dec {α : Type} [DecidableEq α] {f : α → PyData} (hi : ∀ a b, f a = f b → a = b) (hn : ∀ x, noB (f x) = true) (a b : α) : PyData.eqv (f a) (f b) = decide (a = b) := by
  rw [Bool.eq_iff_iff, eqv_iff (hn a) (hn b), decide_eq_true_eq]
  exact ⟨hi a b, fun e => by rw [e]⟩
theorem map_inj {α : Type} {f : α → PyData} (hi : ∀ a b, f a = f b → a = b) {l m : List α} (h : l.map f = m.map f) : l = m := (List.map_inj_right (fun a b e => hi a b e)).mp h
theorem eR_inj (a b : Row) (h : eR a = eR b) : a = b := map_inj (fun _ _ e => PyData.int.inj e) (PyData.tuple.inj h)
theorem eE_inj (a b : Nat × Nat) (h : eE a = eE b) : a = b := by
  have h' := PyData.tuple.inj h
  simp at h'
  exact Prod.ext (by omega) (by omega)
theorem eT_inj (a b : Row × Int × Int) (h : eT a = eT b) : a = b := by
  have h' := PyData.tuple.inj h
  simp at h'
  exact Prod.ext (eR_inj _ _ h'.1) (Prod.ext h'.2.1 h'.2.2)
theorem eP_inj (a b : Row × Int) (h : eP a = eP b) : a = b := by
  have h' := PyData.tuple.inj h
  simp at h'
  exact Prod.ext (eR_inj _ _ h'.1) h'.2
theorem eM_inj (a b : Msg) (h : eM a = eM b) : a = b := map_inj eT_inj (PyData.tuple.inj h)
theorem nb_eR (r : Row) : noB (eR r) = true := by
  show noBs _ = true
  exact noBs_map (fun _ => rfl) r
theorem nb_eE (e : Nat × Nat) : noB (eE e) = true := rfl
theorem nb_eT (t : Row × Int × Int) : noB (eT t) = true := by
  show (noB (eR t.1) && _) = true
  rw [nb_eR]
  rfl
theorem nb_eP (t : Row × Int) : noB (eP t) = true := by
  show (noB (eR t.1) && _) = true
  rw [nb_eR]
  rfl
theorem nb_eM (m : Msg) : noB (eM m) = true := by
  show noBs _ = true
  exact noBs_map nb_eT m
theorem eqv_R (a b : Row) : PyData.eqv (eR a) (eR b) = decide (a = b) := eqv_dec eR_inj nb_eR a b
theorem eqv_E (a b : Nat × Nat) : PyData.eqv (eE a) (eE b) = decide (a = b) := eqv_dec eE_inj nb_eE a b
theorem eqv_M (a b : Msg) : PyData.eqv (eM a) (eM b) = decide (a = b) := eqv_dec eM_inj nb_eM a b
theorem dep_eE (e : Nat × Nat) : (eE e).depth ≤ 1 := by
  simp [eE, PyData.depth, PyData.depthAll]
theorem dep_eT (t : Row × Int × Int) : (eT t).depth ≤ 2 := by
  have := dep_eR t.1
  simp [eT, PyData.depth, PyData.depthAll]
  omega
theorem dep_eP (t : Row × Int) : (eP t).depth ≤ 2 := by
  have := dep_eR t.1
  simp [eP, PyData.depth, PyData.depthAll]
  omega
theorem dep_eM (m : Msg) : (eM m).depth ≤ 3 := by
  unfold eM
  rw [dep_tup]
  exact Nat.succ_le_succ (dep_map dep_eT m)
theorem shp_R (r : Row) : SeqAt.shaped (eR r) = true := shp (tb_eR r) (Nat.le_trans (dep_eR r) (by decide))
theorem shp_E (r : Nat × Nat) : SeqAt.shaped (eE r) = true := shp (tb_eE r) (Nat.le_trans (dep_eE r) (by decide))
theorem shp_M (m : Msg) : SeqAt.shaped (eM m) = true := shp (tb_eM m) (Nat.le_trans (dep_eM m) (by decide))
theorem shpL_map {α : Type} {f : α → PyData} {k : Nat} (ht : ∀ x, tupB (f x) = true) (hd : ∀ x, (f x).depth ≤ k) (hk : k ≤ 60) (l : List α) : SeqAt.shaped (.list (l.map f)) = true := shpL (tupsB_map ht) (Nat.le_trans (dep_map hd l) hk)
section
variable {K : PySem.W.Frag} {σ : St} {H H' : Hp} {ta tb tc te tx td ty tv to : TE} {t u : TT} {d e z : PyData} {v : V} {ds es : List PyData} {E : Ends} {w : TS}
/-- xs.index(x), xs a list -/
theorem e_index {l : List (Nat × Nat)} {p : Nat × Nat} (ho : EF to σ H (.list (l.map eE))) (ha : EF ta σ H (eE p)) (hm : p ∈ l) : EF (tBM K "list" (rIndexD K) to (tCons ta tNil)) σ H (eN (l.idxOf p)) := fun H1 a Q q =>
  ho H1 a _ fun x H2 s f => by
    obtain ⟨b, xs, rfl, eb, fb⟩ := f.lstI
    refine ⟨Or.inl ⟨rfl, _, SqL.of eb⟩, ha H2 (a.trans s) _ fun y H3 s3 f3 => ?_⟩
    have hi := List.idxOf_lt_length_of_mem hm
    have hg : (l.map eE)[l.idxOf p]? = some (eE p) := by
      rw [List.getElem?_map, List.getElem?_eq_getElem hi, List.getElem_idxOf hi]
      rfl
    refine ⟨b, y, eE p, l.map eE, l.idxOf p, eE p, rfl, rfl, (f.same s3).dp, f3.dp, shpL_map tb_eE dep_eE (by decide) l, shp_E p, hg, by rw [eqv_E]; simp, fun m z' hm' hz' => ?_, q _ H3 (s.trans s3) (.int _)⟩
    rw [List.getElem?_map] at hz'
    obtain ⟨e', he', rfl⟩ := Option.map_eq_some_iff.mp hz'
    rw [eqv_E]
    refine decide_eq_false fun q => ?_
    subst q
    obtain ⟨hlt, hge⟩ := List.getElem?_eq_some_iff.mp he'
    have h2 := List.not_of_lt_findIdx (p := fun x => x == e') (xs := l) hm'
    rw [hge] at h2
    simp at h2
/-- x == y, rows -/
theorem e_eqR {a b : Row} (ha : EF ta σ H (eR a)) (hb : EF tb σ H (eR b)) : EF (tOp (rEqD K) ta tb) σ H (.bool (decide (a = b))) := (e_eqD ha hb (shp_R a) (shp_R b)).is (by rw [eqv_R])
theorem e_neR {a b : Row} (ha : EF ta σ H (eR a)) (hb : EF tb σ H (eR b)) : EF (tOp (rNeD K) ta tb) σ H (.bool (!decide (a = b))) := (e_neD ha hb (shp_R a) (shp_R b)).is (by rw [eqv_R])
theorem e_neM {a b : Msg} (ha : EF ta σ H (eM a)) (hb : EF tb σ H (eM b)) : EF (tOp (rNeD K) ta tb) σ H (.bool (!decide (a = b))) := (e_neD ha hb (shp_M a) (shp_M b)).is (by rw [eqv_M])
/-- items of a list or of a tuple -/
def rIxB (K : PySem.W.Frag) : R2 := fun x y H Q => rIxT K x y H Q ∨ rIxL K x y H Q
theorem k_ixB {X : Cx} (hK : X.K = K := by rfl) : IxR X (rIxB K) := by
  subst hK
  exact fun e1 e2 pins s σ H x y v u Q I rx ry h hs => h.elim (fun h => ix_tup e1 e2 pins s σ H x y v u Q I rx ry h hs) (fun h => ix_list e1 e2 pins s σ H x y v u Q I rx ry h hs)
theorem e_ixB {i : Int} (ha : EF ta σ H e) (he : e = .tuple ds ∨ e = .list ds) (hb : EF tb σ H (.int i)) (h : atI ds i = some d) : EF (tOp (rIxB K) ta tb) σ H d :=
  e_op ha hb fun x y H1 s f1 f2 Q q => by
    rcases he with rfl | rfl
    · obtain ⟨a, xs, rfl, ea, fa⟩ := f1.tupI
      obtain ⟨v, hv, fv⟩ := fa.atI h
      exact .inl ⟨a, xs, i, v, rfl, f2.intI, SqT.of ea, hv, q v H1 (Same.refl _) fv⟩
    · obtain ⟨a, xs, rfl, ea, fa⟩ := f1.lstI
      obtain ⟨v, hv, fv⟩ := fa.atI h
      exact .inr ⟨a, xs, i, v, rfl, f2.intI, SqL.of ea, hv, q v H1 (Same.refl _) fv⟩
theorem map_at {α : Type} {f : α → PyData} {l : List α} {n : Nat} (dft : α) (h : n < l.length) : atI (l.map f) (n : Int) = some (f (l.getD n dft)) := by
  refine atI_nat ?_
  rw [List.getElem?_map, List.getElem?_eq_getElem h]
  simp [List.getD_eq_getElem?_getD, h]
/-- a list comprehension whose items are anything: R D x H v tells the item v of x beside the list at D -/
theorem lcR {α : Type} {xs : List α} {enc : α → PyData} {wi : TI} {gt : TG} {vs : List Nat} {σw : St} {P : α → St → Hp → Prop} (R : Addr → α → Hp → V → Prop)
    (hw : WF wi σ H (xs.map enc)) (h1 : wipe σ vs = σw) (hz : xs.length ≤ 100000)
    (hs : ∀ x ∈ xs, ∀ y H1, Same H H1 → Fz H1 y (enc x) → ∀ S : St → Hp → Prop, (∀ σ2, wipe σ2 vs = σw → P x σ2 H1 → S σ2 H1) → gt y σw H1 S)
    (hS : ∀ D x H1 H2 v, R D x H1 v → Same H1 H2 → R D x H2 v) (hU : ∀ D x H1 v acc acc', R D x H1 v → H1 D = some (.lst acc) → R D x (upd H1 D (.lst acc')) v)
    (ht : ∀ x ∈ xs, ∀ D acc σ2 H1, Same H H1 → H1 D = some (.lst acc) → P x σ2 H1 → ∀ Q : VK, (∀ v H2, Same H1 H2 → R D x H2 v → Q v H2) → te σ2 H1 Q)
    {Q : VK} (q : ∀ p ys H2, H p = none → Same H H2 → H2 p = some (.lst ys) → Paired (fun v x => R p x H2 v) ys xs → Q (.ref p) H2) : tLc wi gt tYes te vs σ H Q := hw H (Same.refl H) _ fun J H1 s1 jok => by
  intro D hD
  have dI : ∀ {i : Nat}, i < xs.length → ∃ x, xs[i]? = some x ∧ x ∈ xs := fun {i} hi => ⟨xs[i], by simp [hi], by simp⟩
  have W : Walk J xs.length (fun H => Same H1 H) (fun i H3 x H' => Same H3 H' ∧ ∀ z, xs[i]? = some z → Fz H' x (enc z)) := by
    refine ⟨fun i H3 hi s => (jok i H3 s).1 (by simpa using hi), fun H3 s => (jok _ H3 s).2.1 (by simp), fun i H3 x H' hi s y => ?_⟩
    obtain ⟨z, hz, _⟩ := dI hi
    obtain ⟨r1, r2⟩ := (jok i H3 s).2.2 x H' y (enc z) (by simp [hz])
    exact ⟨r1, fun z' hz' => by
      rw [hz] at hz'
      cases hz'
      exact r2⟩
  have pm : ∀ {H1 H2 : Hp} {ys : List V} {zs : List α}, (∀ v x, R D x H1 v → R D x H2 v) → Paired (fun v x => R D x H1 v) ys zs → Paired (fun v x => R D x H2 v) ys zs := by
    intro H1 H2 ys zs hh p
    induction p with
    | nil => exact .nil
    | cons a t ih => exact .cons (hh _ _ a) ih
  refine lc_it W (fun i H => Same H1 H ∧ ∃ acc, H D = some (.lst acc) ∧ Paired (fun v x => R D x H v) acc (xs.take i)) ⟨same_new hD, [], upd_same, by rw [List.take_zero]; exact .nil⟩ (fun i H _ p => p.1) ?_ ?_
  · rintro i x H3 H' hi ⟨s3, acc, hacc, facc⟩ ⟨s4, hx⟩
    obtain ⟨z, hz, hm⟩ := dI hi
    have s5 := s3.trans s4
    rw [h1]
    refine hs z hm x H' (s1.trans s5) (hx z hz) _ fun σ2 hw2 hP => ⟨hw2, ?_⟩
    have hD6 : H' D = some (.lst acc) := s4 _ _ hacc
    show te σ2 H' _
    refine ht z hm D acc σ2 H' (s1.trans s5) hD6 hP _ fun y H7 s7 f7 => ?_
    have hD7 : H7 D = some (.lst acc) := s7 _ _ hD6
    have hl : acc.length ≤ 100000 := by
      have := Paired.length facc
      rw [List.length_take] at this
      omega
    refine ⟨acc, hD7, ?_, ?_, acc ++ [y], upd_same, ?_⟩
    · have := Paired.length facc
      rw [List.length_take] at this
      exact Nat.lt_of_le_of_lt (m := 100000) (by omega) (by decide)
    · intro b o hb
      rw [upd_ne (ne_of_none hb hD)]
      exact s7 _ _ (s5 _ _ hb)
    · rw [List.take_add_one, hz]
      have a1 : Paired (fun v x => R D x (upd H7 D (.lst (acc ++ [y]))) v) acc (xs.take i) := pm (fun v x r => hU D x H7 v acc _ (hS D x H3 H7 v r (s4.trans s7)) hD7) facc
      have a2 : R D z (upd H7 D (.lst (acc ++ [y]))) y := hU D z H7 y acc _ f7 hD7
      clear facc
      generalize xs.take i = zs at a1
      generalize upd H7 D (.lst (acc ++ [y])) = H8 at a1 a2
      clear hacc hD6 hD7 hl
      induction a1 with
      | nil => exact .cons a2 .nil
      | cons h t ih => exact .cons h ih
  · rintro H3 ⟨s3, acc, hacc, facc⟩
    rw [List.take_length] at facc
    exact q D acc H3 (s1.free hD) (s1.trans s3) hacc facc
end
end Tt

namespace Tt
open PySem PySem.Spec PyProof.Rows L2 RZ
open C8 (Cal Met Mak pe_c pe_mk pe_mt pe_mt0 pe_gc)
section
variable {P : Program} {w : World} {K : PySem.W.Frag} {mg : Str → Option Value} {base : Heap}
/-- a promise: a new list -/
def spL (R : List PyData → List PyData → Prop) : Sp := fun vs H Q _ => ∃ ds es, FzAll H vs ds ∧ R ds es ∧ ∀ p xs H', H p = none → Same H H' → H' p = some (.lst xs) → FzAll H' xs es → Q (.ref p) H'
theorem spL_len {R : List PyData → List PyData → Prop} {n : Nat} (h : ∀ ds d, R ds d → ds.length = n) (vs : List V) (H : Hp) (Q : VK) (E : XK) (s : spL R vs H Q E) : vs.length = n := by
  obtain ⟨ds, d, f, r, _⟩ := s
  rw [f.len, h _ _ r]
theorem e_callL {R : List PyData → List PyData → Prop} {E : XK} {ta : TA} {σ : L2.St} {H : Hp} {ds es : List PyData} (h : EFA ta σ H ds) (hr : R ds es) : EL (tCall (spL R) [] E ta) σ H es := fun H1 a Q q =>
  h H1 a _ fun vs H2 s f => by
    show spL R (vs ++ []) H2 Q E
    rw [List.append_nil]
    exact ⟨ds, es, f, hr, fun p xs H3 n s3 e f3 => q p xs H3 (s.free n) (s.trans s3) e f3⟩
def R_dirs (ds : List PyData) (es : List PyData) : Prop := ∃ g, ds = [eG g] ∧ g.eds.length ≤ 1000 ∧ es = (dirs g).map eE
def dirsT (g : Gr) (i : Nat) : List (Nat × Nat) := (g.eds.take i).flatMap fun e => [(e.1, e.2), (e.2, e.1)]
theorem two_len : ∀ l : List (Nat × Nat), (l.flatMap fun e => [(e.1, e.2), (e.2, e.1)]).length = 2 * l.length
  | [] => rfl
  | e :: l => by
    rw [List.flatMap_cons, List.length_append, two_len l, List.length_cons, List.length_cons, List.length_cons, List.length_nil]
    omega
theorem dirsT_len (g : Gr) (i : Nat) : (dirsT g i).length = 2 * (min i g.eds.length) := by
  unfold dirsT
  rw [two_len, List.length_take]
theorem sc_directions_of : FnScope ["graph", "found", "one", "other"] ["graph"] (defScope s_directions_of) := ⟨rfl, rfl, rfl, by decide +kernel, rfl, by decide +kernel, by decide +kernel⟩
theorem cal_directions_of (T : Tx K mg) : Cal P w K mg base 1 "directions_of" (spL R_dirs) [] :=
  T.cal 21 21 rfl rfl sc_directions_of (fun _ _ _ _ _ _ us hl => match us, hl with | [_], _ => rfl) (spL_len fun ds d ⟨_, e, _⟩ => by rw [e]; rfl) fun f cdv A outer s H vs Q E hr h => by
    obtain ⟨ds, d, fv, ⟨g, rfl, hl, rfl⟩, k⟩ := h
    obtain ⟨x, rfl, f1⟩ := fv.oneI
    refine ⟨_, (pss_cons (ps_set (i := 1) sc_directions_of.nd rfl (Or.inl rfl) (pe_lst pa_nil))
      (pss_cons (ps_for PassesOwn.never rfl (k_piT (K := K) (pe_ix (k_ixT (K := K)) (pv 0) pe_int (fun _ _ => rfl))) (k_tg (K := K) (n := 2) (pgs_cons (pg_name (i := 2) sc_directions_of.nd rfl (Or.inl rfl)) (pgs_cons (pg_name (i := 3) sc_directions_of.nd rfl (Or.inl rfl)) pgs_nil)))
        (pss_one (ps_set (i := 1) sc_directions_of.nd rfl (Or.inl rfl) (pe_op op_cat (pv 1) (pe_lst (pa_cons (pe_tup (pa_cons (pv 2) (pa_cons (pv 3) pa_nil))) (pa_cons (pe_tup (pa_cons (pv 3) (pa_cons (pv 2) pa_nil))) pa_nil)))))))
      (pss_one (ps_ret (pv 1))))), ?_⟩
    refine s_asgL (el_lst ea_nil) fun p0 xs0 H1 n0 s1 e0 fl => ?_
    refine s_for (xs := g.eds) (enc := eE) (w_tup (e_ixT (e_var rfl (f1.same s1)) e_int (by rfl))) (fun B i σ' H' => ∃ p xs o1 o2, σ' = [some x, some (.ref p), o1, o2] ∧ Same B H' ∧ H p = none ∧ H' p = some (.lst xs) ∧ FzAll H' xs ((dirsT g i).map eE)) (fun H3 s3 => ⟨_, _, _, _, rfl, Same.refl _, n0, s3 _ _ e0, fl.same s3⟩) (fun B i σ' H' _ ⟨_, _, _, _, _, s, _⟩ => s) ?_ ?_
    · rintro B i e σ' H' y H2 sB hi ⟨p', xs', o1, o2, rfl, s2, n2, e2, f2⟩ s3 fy
      refine g2_go fy fun y1 y2 h1 h2 => ?_
      refine EL.go (el_catF (e_var rfl (Fz.lst (s3 _ _ e2) (f2.same s3))) (el_lst (ea_cons (e_tup (ea_cons (e_var rfl h1) (ea_cons (e_var rfl h2) ea_nil))) (ea_cons (e_tup (ea_cons (e_var rfl h2) (ea_cons (e_var rfl h1) ea_nil))) ea_nil))).ef ?_) fun p4 xs4 H4 n4 s4 e4 f4 => ⟨_, _, _, _, rfl, (s2.trans s3).trans s4, (s1.trans sB).free ((s2.trans s3).free n4), e4, ?_⟩
      · have := dirsT_len g i
        simp
        omega
      · have : dirsT g (i + 1) = dirsT g i ++ [(e.1, e.2), (e.2, e.1)] := by
          unfold dirsT
          rw [List.take_add_one, hi, List.flatMap_append]
          rfl
        rw [this, List.map_append]
        exact f4
    · rintro B σ' H' sB ⟨p', xs', o1, o2, rfl, s2, n2, e2, f2⟩
      refine at_var (l := p') rfl H' (Same.refl _) _ (k p' xs' H' n2 ((s1.trans sB).trans s2) e2 ?_)
      have : dirsT g g.eds.length = dirs g := by
        unfold dirsT dirs
        rw [List.take_length]
      rw [← this]
      exact f2
/-- the messages stand by the directions -/
def R_told (ds : List PyData) (d : PyData) : Prop := ∃ (g : Gr) (ms : List Msg) (a b : Nat), ds = [eG g, eMs ms, eN a, eN b] ∧ g.eds.length ≤ 1000 ∧ (a, b) ∈ dirs g ∧ ms.length = (dirs g).length ∧ d = eM (ms.getD (dix g a b) [])
theorem dix_lt {g : Gr} {a b : Nat} (h : (a, b) ∈ dirs g) : dix g a b < (dirs g).length := List.idxOf_lt_length_of_mem h
theorem sc_told : FnScope ["graph", "messages", "one", "other"] ["graph", "messages", "one", "other"] (defScope s_told) := ⟨rfl, rfl, rfl, by decide +kernel, rfl, by decide +kernel, by decide +kernel⟩
theorem cal_told (T : Tx K mg) : Cal P w K mg base 2 "told" (spP R_told) [] :=
  T.cal 22 22 rfl rfl sc_told (fun _ _ _ _ _ _ us hl => match us, hl with | [_, _, _, _], _ => rfl) (spP_len fun ds d ⟨_, _, _, _, e, _⟩ => by rw [e]; rfl) fun f cdv A outer s H vs Q E hr h => by
    obtain ⟨ds, d, fv, ⟨g, ms, a, b, rfl, hl, hm, hms, rfl⟩, k⟩ := h
    obtain ⟨x, y, z, u, rfl, f1, f2, f3, f4⟩ := fv.I4
    refine ⟨_, (pss_one (ps_ret (pe_ix (k_ixT (K := K)) (pv 1) (k_bm (K := K) PySem.F.plainAttrs_list PySem.F.slot_list_index PySem.F.type_list_index (k_index (K := K) (hu65 hr)) (pe_c (cal_directions_of T) hr (by decide) rfl (pa_cons (pv 0) pa_nil)) (pa_cons (pe_tup (pa_cons (pv 2) (pa_cons (pv 3) pa_nil))) pa_nil)) (fun _ _ => rfl)))), ?_⟩
    exact (e_ixT (e_var rfl f2) (e_index (EL.ef (e_callL (ea_cons (e_var rfl f1) ea_nil) ⟨g, rfl, hl, rfl⟩)) (e_tup (ea_cons (e_var rfl f3) (ea_cons (e_var rfl f4) ea_nil))) hm) (map_at [] (by rw [hms]; exact dix_lt hm))).ret k
def R_cut (ds : List PyData) (d : PyData) : Prop := ∃ (row some kept : Row), ds = [eR row, eR some, eR kept] ∧ row.length ≤ 1000 ∧ d = eR (cut row some kept)
theorem sc_cut_to : FnScope ["row", "some", "kept", "variable", "one"] ["row", "some", "kept"] (defScope s_cut_to) := ⟨rfl, rfl, rfl, by decide +kernel, rfl, by decide +kernel, by decide +kernel⟩
theorem cal_cut_to (T : Tx K mg) : Cal P w K mg base 1 "cut_to" (spP R_cut) [] :=
  T.cal 5 5 rfl rfl sc_cut_to (fun _ _ _ _ _ _ us hl => match us, hl with | [_, _, _], _ => rfl) (spP_len fun ds d ⟨_, _, _, e, _⟩ => by rw [e]; rfl) fun f cdv A outer s H vs Q E hr h => by
    obtain ⟨ds, d, fv, ⟨row, sm, kept, rfl, hl, rfl⟩, k⟩ := h
    obtain ⟨x, y, z, rfl, f1, f2, f3⟩ := fv.I3
    refine ⟨_, (pss_one (ps_ret (pe_callTy (k_tupOf (K := K)) (by rfl) T.n_tuple (by decide +kernel) (pa_cons (pe_lc (own := [("variable", 3), ("one", 4)]) (g := g2 K 3 4) rfl sc_cut_to.nd (k_piZipA (K := K) (by rfl) T.n_zip (pa_cons (pv 1) (pa_cons (pv 0) pa_nil))) (blkOk_by (N := ["row", "some", "kept", "variable", "one"]) (sc := defScope s_cut_to) (by decide +kernel)) (fun _ _ _ _ _ => (k_tg (K := K) (n := 2) (pgs_cons (pg_name (i := 3) sc_cut_to.nd rfl (Or.inl rfl)) (pgs_cons (pg_name (i := 4) sc_cut_to.nd rfl (Or.inl rfl)) pgs_nil)))) (fun _ _ _ _ _ => (pts_one (pt_cmpR (k_in (K := K)) (pv 3) (pv 2) (by rfl)))) (fun _ _ _ _ _ => (pv 4))) pa_nil)))), ?_⟩
    have hw : WF (iZipA K (tCons (tVar 1) (tCons (tVar 0) tNil))) [some x, some y, some z, none, none] H ((sm.zip row).map fun p => .tuple [.int p.1, .int p.2]) := (w_zipT (ea_cons (e_var rfl f2) (ea_cons (e_var rfl f1) ea_nil))).is (by
      rw [List.zip_map, List.map_map]
      rfl)
    refine ((e_tupL (el_flt2 (xs := sm.zip row) (e1 := fun p => .int p.1) (e2 := fun p => .int p.2) (f := fun p => decide (p.1 ∈ kept)) (g := fun p => .int p.2) hw (by rw [List.length_zip]; omega) (fun _ _ _ => rfl) (fun p hp y1 y2 H1 s1 g1 g2 =>
      ⟨t_test (e_inT (neg := false) (e_var rfl g1) (e_var rfl (f3.same s1))), fun _ => e_var rfl g2⟩)).ef).is ?_).ret k
    unfold eR cut
    rw [List.map_map]
    rfl
def R_gath (ds : List PyData) (d : PyData) : Prop := ∃ (items : Msg) (n : Nat), ds = [.list (items.map eT)] ∧ items.length < 64 ∧ (∀ t ∈ items, t.1.length = n ∧ TS.Bd 6 t.1) ∧ d = eM (gather items)
theorem lkm_of {acc : Msg} {r : Row} (h : r ∈ acc.map (·.1)) : ∃ t, (acc.find? fun u => decide (u.1 = r)) = some t ∧ t.1 = r ∧ lkm acc r = t.2 := by
  cases e : acc.find? fun u => decide (u.1 = r) with
  | none =>
    obtain ⟨t, ht, e2⟩ := List.mem_map.mp h
    have := List.find?_eq_none.mp e t ht
    simp [e2] at this
  | some t => exact ⟨t, rfl, by simpa using List.find?_some e, by unfold lkm; rw [e]; rfl⟩
theorem sc_gathered : FnScope ["items", "counts", "least", "row", "count", "cost"] ["items"] (defScope s_gathered) := ⟨rfl, rfl, rfl, by decide +kernel, rfl, by decide +kernel, by decide +kernel⟩
theorem cal_gathered (T : Tx K mg) : Cal P w K mg base 1 "gathered" (spP R_gath) [] :=
  T.cal 6 6 rfl rfl sc_gathered (fun _ _ _ _ _ _ us hl => match us, hl with | [_], _ => rfl) (spP_len fun ds d ⟨_, _, e, _⟩ => by rw [e]; rfl) fun f cdv A outer s H vs Q E hr h => by
    obtain ⟨ds, d, fv, ⟨items, n, rfl, h64, hB, rfl⟩, k⟩ := h
    obtain ⟨x, rfl, f1⟩ := fv.oneI
    refine ⟨_, (pss_cons (ps_set (i := 1) sc_gathered.nd rfl (Or.inr rfl) pe_dnewT)
      (pss_cons (ps_set (i := 2) sc_gathered.nd rfl (Or.inr rfl) pe_dnewT)
      (pss_cons (ps_for PassesOwn.never rfl (k_piL (K := K) (pv 0)) (k_tg (K := K) (n := 3) (pgs_cons (pg_name (i := 3) sc_gathered.nd rfl (Or.inl rfl)) (pgs_cons (pg_name (i := 4) sc_gathered.nd rfl (Or.inl rfl)) (pgs_cons (pg_name (i := 5) sc_gathered.nd rfl (Or.inl rfl)) pgs_nil))))
        (pss_cons (ps_dput (hu_of hr) (pv 1) (pv 3) (pe_op op_add (pe_dget2 (hu_of hr) (pv 1) (pv 3) pe_int ⟨by rfl, by rfl, by rfl, by rfl⟩) (pv 4)) rfl)
        (pss_one (ps_dput (hu_of hr) (pv 2) (pv 3) (pe_callB (call_min2 rfl) (by rfl) T.n_min (by decide +kernel) (pa_cons (pe_dget2 (hu_of hr) (pv 2) (pv 3) (pv 5) ⟨by rfl, by rfl, by rfl, by rfl⟩) (pa_cons (pv 5) pa_nil))) rfl))))
      (pss_one (ps_ret (pe_callTy (k_tupOf (K := K)) (by rfl) T.n_tuple (by decide +kernel) (pa_cons (pe_lc (own := [("row", 3)]) (g := gName 3) (tt := tYes) rfl sc_gathered.nd (k_piL (K := K) (pe_callB (cr_sortedDT rfl) (by rfl) T.n_sorted (by decide +kernel) (pa_cons (pv 1) pa_nil))) (blkOk_by (N := ["items", "counts", "least", "row", "count", "cost"]) (sc := defScope s_gathered) (by decide +kernel)) (fun _ _ _ _ _ => (pg_name (i := 3) sc_gathered.nd rfl (Or.inl rfl))) (fun _ _ _ _ _ => pts_nil) (fun _ _ _ _ _ => (pe_tup (pa_cons (pv 3) (pa_cons (pe_dget (hu_of hr) (pv 1) (pv 3) (fun _ _ => rfl)) (pa_cons (pe_dget (hu_of hr) (pv 2) (pv 3) (fun _ _ => rfl)) pa_nil)))))) pa_nil))))))), ?_⟩
    intro D1 n1 D2 n2
    obtain ⟨la, ys, rfl, ea, fa⟩ := f1.lstI
    have hD2 : H D2 = none := by
      by_cases e : D2 = D1
      · rw [e]; exact n1
      · rw [upd_ne e] at n2; exact n2
    have hne : D1 ≠ D2 := fun e => by
      rw [← e, upd_same] at n2
      cases n2
    have sH : Same H (upd (upd H D1 (.dT [])) D2 (.dT [])) := (same_new n1).trans (same_new n2)
    have hB1 : (upd (upd H D1 (.dT [])) D2 (.dT [])) D1 = some (.dT []) := by rw [upd_ne hne]; exact upd_same
    have hB2 : (upd (upd H D1 (.dT [])) D2 (.dT [])) D2 = some (.dT []) := upd_same
    have hBT : ∀ H', Same H H' → TK (upd (upd H D1 (.dT [])) D2 (.dT [])) H' := fun H' s b zs e => by
      by_cases e1 : b = D2
      · rw [e1, hB2] at e; cases e
      · rw [upd_ne e1] at e
        by_cases e2 : b = D1
        · rw [e2, upd_same] at e; cases e
        · rw [upd_ne e2] at e
          exact s _ _ e
    generalize upd (upd H D1 (.dT [])) D2 (.dT []) = B at sH hB1 hB2 hBT ⊢
    have fa' := fa.same sH
    refine s_forL (xs := items) (enc := eT) (at_var rfl) (sH _ _ ea) fa' (fun t _ => tb_eT t) (fun i σ' H' => ∃ o1 o2 o3, σ' = [some (.ref la), some (.ref D1), some (.ref D2), o1, o2, o3] ∧ Same H H' ∧ H' D1 = some (.dT (dI fC (accOf (items.take i)))) ∧ H' D2 = some (.dT (dI fL (accOf (items.take i)))))
      ⟨_, _, _, rfl, sH, hB1, hB2⟩ (fun i σ' H' ⟨_, _, _, _, s, _, _⟩ => ⟨hBT H' s, s _ _ ea⟩) ?_ ?_
    · rintro i it σ' H' y hi ⟨o1, o2, o3, rfl, sH', e1, e2⟩ fy
      have hlt : (accOf (items.take i)).length ≤ 64 := by
        have h1 := acc_len (items.take i)
        rw [List.length_take] at h1
        omega
      have hnd := acc_nodup (items.take i)
      have hsn : accOf (items.take (i + 1)) = addTo (accOf (items.take i)) it := by
        rw [List.take_add_one, hi]
        exact acc_snoc _ _
      refine g3_go fy fun y1 y2 y3 g1 g2 g3 => ?_
      refine s_dputS (e_add (e_dget2 (z := .int 0) (d := .int (numD fC (accOf (items.take i)) it.1 0)) (at_var rfl) e1 (e_var rfl g1) e_int (fun H1 u _ f => by
        obtain rfl := f.intI
        rw [dI_get]
        exact .int _)) (e_var rfl g2)) (at_var rfl) e1 (e_var rfl g1) (by unfold dI; rw [List.length_map]; omega) fun v H1 s1 fv => ?_
      obtain rfl := fv.intI
      rw [put_C hnd]
      have k1 : TK H1 (upd H1 D1 (.dT (dI fC (addTo (accOf (items.take i)) it)))) := tk_upd (s1 _ _ e1) (fun xs z => by cases z)
      have sH1 : Same H (upd H1 D1 (.dT (dI fC (addTo (accOf (items.take i)) it)))) := same_mut (sH'.trans s1) n1
      have g1' : Fz (upd H1 D1 (.dT (dI fC (addTo (accOf (items.take i)) it)))) y1 (eR it.1) := (g1.same s1).tk k1 (tb_eR _)
      have g3' : Fz (upd H1 D1 (.dT (dI fC (addTo (accOf (items.take i)) it)))) y3 (.int it.2.2) := (g3.same s1).tk k1 rfl
      have e1' : (upd H1 D1 (.dT (dI fC (addTo (accOf (items.take i)) it)))) D1 = some (.dT (dI fC (addTo (accOf (items.take i)) it))) := upd_same
      have e2' : (upd H1 D1 (.dT (dI fC (addTo (accOf (items.take i)) it)))) D2 = some (.dT (dI fL (accOf (items.take i)))) := by rw [upd_ne (Ne.symm hne)]; exact s1 _ _ e2
      generalize upd H1 D1 (.dT (dI fC (addTo (accOf (items.take i)) it))) = H2 at sH1 g1' g3' e1' e2' ⊢
      refine s_dput (e_min2 (e_dget2 (z := .int it.2.2) (d := .int (numD fL (accOf (items.take i)) it.1 it.2.2)) (at_var rfl) e2' (e_var rfl g1') (e_var rfl g3') (fun H1 u _ f => by
        obtain rfl := f.intI
        rw [dI_get]
        exact .int _)) (e_var rfl g3')) (at_var rfl) e2' (e_var rfl g1') (by unfold dI; rw [List.length_map]; omega) fun v H3 s3 fv => ?_
      obtain rfl := fv.intI
      rw [put_L hnd]
      refine ⟨_, _, _, rfl, same_mut (sH1.trans s3) hD2, ?_, ?_⟩
      · rw [upd_ne hne, hsn]
        exact s3 _ _ e1'
      · rw [upd_same, hsn]
    · rintro σ' H' ⟨o1, o2, o3, rfl, sH', e1, e2⟩
      rw [List.take_length] at e1 e2
      have hrow : ∀ r ∈ (accOf items).map (·.1), r.length = n ∧ TS.Bd 6 r := fun r hr => by
        obtain ⟨t, ht, rfl⟩ := List.mem_map.mp ((acc_rows items r).mp hr)
        exact hB t ht
      have hz : (accOf items).length < 64 := Nat.lt_of_le_of_lt (acc_len items) h64
      have h0 : n = 0 → ((accOf items).map (·.1)).length ≤ 1 := fun e => by
        have hall : ∀ r ∈ (accOf items).map (·.1), r = [] := fun r hr => List.eq_nil_of_length_eq_zero (by rw [(hrow r hr).1, e])
        have hn := acc_nodup items
        generalize (accOf items).map (·.1) = l at hall hn
        match l, hall, hn with
        | [], _, _ => simp
        | [_], _, _ => simp
        | a :: b :: l, hall, hn =>
          have h1 := hall a (by simp)
          have h2 := hall b (by simp)
          rw [h1, h2] at hn
          simp at hn
      refine ((e_tupL (el_map1 (xs := srtR ((accOf items).map (·.1))) (enc := eR) (g := fun r => eT (r, lkm (accOf items) r)) (w_list (el_sortedDT (at_var rfl) e1 (dI_keys _ _) (by rw [List.length_map]; exact hz) hrow h0).ef) ?_ (fun r _ => tb_eT _) (fun r hr y H4 s4 fy => ?_)).ef).is ?_).ret fun v H5 s5 => k v H5 (sH'.trans s5)
      · rw [srtR, (isort_perm ltR _).length_eq, List.length_map]
        omega
      · have hr' : r ∈ (accOf items).map (·.1) := (isort_perm ltR _).mem_iff.mp hr
        obtain ⟨t, ht, h1, h2⟩ := lkm_of hr'
        refine e_tup (ea_cons (e_var rfl fy) (ea_cons (e_dget (at_var rfl) (s4 _ _ e1) (e_var rfl fy) ⟨.int t.2.1, by rw [dI_val, ht]; rfl, ?_⟩) (ea_cons (e_dget (at_var rfl) (s4 _ _ e2) (e_var rfl fy) ⟨.int t.2.2, by rw [dI_val, ht]; rfl, ?_⟩) ea_nil)))
        · rw [h2]
          exact .int _
        · rw [h2]
          exact .int _
      · unfold gather eM
        rw [List.map_map]
        rfl
end
end Tt

/-! The dict of a message; loops whose items are anything. -/
namespace Tt
open PySem L2 RZ
abbrev eC (t : Row × Int × Int) : PyData := .tuple [.int t.2.1, .int t.2.2]
/-- the dict at D holds the message m -/
def DM (H : Hp) (D : Addr) (m : Msg) : Prop := ∃ kvs, H D = some (.dT kvs) ∧ Paired (fun kv t => kv.1 = rk t.1 ∧ Fz H kv.2 (eC t)) kvs m
/-- all but the lists stand -/
def KL (H H' : Hp) : Prop := ∀ a o, H a = some o → (∀ xs, o ≠ .lst xs) → H' a = some o
theorem KL.tk {H H' : Hp} (k : KL H H') : TK H H' := fun a xs e => k a _ e (fun _ z => by cases z)
theorem KL.refl (H : Hp) : KL H H := fun _ _ e _ => e
theorem KL.trans {H H1 H2 : Hp} (a : KL H H1) (b : KL H1 H2) : KL H H2 := fun x o e n => b x o (a x o e n) n
theorem Same.kl {H H' : Hp} (s : Same H H') : KL H H' := fun a o e _ => s a o e
theorem kl_upd {H : Hp} {p : Addr} {xs : List V} {o' : HO} (e : H p = some (.lst xs)) : KL H (upd H p o') := fun a o q n => by
  rw [upd_ne]
  · exact q
  · rintro rfl
    rw [e] at q
    cases q
    exact n _ rfl
theorem paired_mono {α β : Type} {R S : α → β → Prop} (h : ∀ a b, R a b → S a b) {l : List α} {m : List β} (p : Paired R l m) : Paired S l m := by
  induction p with
  | nil => exact .nil
  | cons a t ih => exact .cons (h _ _ a) ih
theorem paired_snoc {α β : Type} {R : α → β → Prop} {l : List α} {m : List β} (p : Paired R l m) {a : α} {b : β} (h : R a b) : Paired R (l ++ [a]) (m ++ [b]) := by
  induction p with
  | nil => exact .cons h .nil
  | cons a t ih => exact .cons a ih
theorem paired_get {α β : Type} {R : α → β → Prop} : ∀ {l : List α} {m : List β} {i : Nat} {a : α}, Paired R l m → l[i]? = some a → ∃ b, m[i]? = some b ∧ R a b
  | _, _, _, _, .nil, h => by simp at h
  | _, _, 0, _, .cons h _, e => by
    simp at e
    subst e
    exact ⟨_, rfl, h⟩
  | _, _, i + 1, _, .cons _ t, e => by
    rw [List.getElem?_cons_succ] at e
    obtain ⟨b, h1, h2⟩ := paired_get t e
    exact ⟨b, by rw [List.getElem?_cons_succ]; exact h1, h2⟩
theorem DM.kl {H H' : Hp} {D : Addr} {m : Msg} (h : DM H D m) (k : KL H H') : DM H' D m := by
  obtain ⟨kvs, e, p⟩ := h
  exact ⟨kvs, k _ _ e (fun _ z => by cases z), paired_mono (fun a b ⟨h1, h2⟩ => ⟨h1, h2.tk k.tk rfl⟩) p⟩
theorem DM.same {H H' : Hp} {D : Addr} {m : Msg} (h : DM H D m) (k : Same H H') : DM H' D m := h.kl (Same.kl k)
theorem dm_get {H : Hp} {kvs : List (List L2.Key × V)} {m : Msg} (p : Paired (fun kv t => kv.1 = rk t.1 ∧ Fz H kv.2 (eC t)) kvs m) (r : Row) {u : V} (hu : Fz H u (.tuple [.int 0, .int 0])) :
    Fz H ((valV kvs (rk r)).getD u) (.tuple [.int (lkm m r).1, .int (lkm m r).2]) := by
  induction p with
  | nil => exact hu
  | @cons kv t kvs m h q ih =>
    by_cases e : t.1 = r
    · rw [valV_pos (by rw [h.1, e])]
      have : lkm (t :: m) r = t.2 := by
        unfold lkm
        rw [List.find?_cons_of_pos (by simp [e])]
        rfl
      rw [this]
      exact h.2
    · rw [valV_neg (fun z => e (rk_inj (by rw [← h.1, z])))]
      have : lkm (t :: m) r = lkm m r := by
        unfold lkm
        rw [List.find?_cons_of_neg (by simp [e])]
      rw [this]
      exact ih
section
variable {K : PySem.W.Frag} {σ : St} {H H' : Hp} {ta tb tc te tx td ty tv tk to : TE} {t u : TT} {d e z : PyData} {v : V} {ds es : List PyData} {D : Ends} {w : TS}
theorem e_dmget {q : Addr} {m : Msg} {r : Row} (hd : AtD td σ H q) (h : DM H q m) (hk : EF ty σ H (eR r)) (hx : EF tx σ H (.tuple [.int 0, .int 0])) : EF (tDGet2 td ty tx) σ H (.tuple [.int (lkm m r).1, .int (lkm m r).2]) := by
  obtain ⟨kvs, e, p⟩ := h
  exact e_dget2 hd e hk hx fun H1 u s f => dm_get (paired_mono (fun a b ⟨h1, h2⟩ => ⟨h1, h2.same s⟩) p) r f
/-- {k: v for .. in a message} -/
theorem dcR {xs : Msg} {wi : TI} {gt : TG} {vs : List Nat} {σw : St} {P : Row × Int × Int → St → Hp → Prop}
    (hw : WF wi σ H (xs.map eT)) (h1 : wipe σ vs = σw) (hn : (xs.map (·.1)).Nodup) (hz : xs.length ≤ 100000)
    (hs : ∀ x ∈ xs, ∀ y H1, Same H H1 → Fz H1 y (eT x) → ∀ S : St → Hp → Prop, (∀ σ2, wipe σ2 vs = σw → P x σ2 H1 → S σ2 H1) → gt y σw H1 S)
    (ht : ∀ x ∈ xs, ∀ σ2 H1, Same H H1 → P x σ2 H1 → EF tk σ2 H1 (eR x.1) ∧ EF tv σ2 H1 (eC x))
    {Q : VK} (q : ∀ p H2, H p = none → Same H H2 → DM H2 p xs → Q (.ref p) H2) : tDcT wi gt tYes tk tv vs σ H Q := hw H (Same.refl H) _ fun J H1 s1 jok => by
  intro D hD
  have dI : ∀ {i : Nat}, i < xs.length → ∃ x, xs[i]? = some x ∧ x ∈ xs := fun {i} hi => ⟨xs[i], by simp [hi], by simp⟩
  refine ⟨fun i m H => m = xs.length - i ∧ i ≤ xs.length ∧ Same H1 H ∧ DM H D (xs.take i), ⟨xs.length, by simp, Nat.zero_le _, same_new hD, [], upd_same, by rw [List.take_zero]; exact .nil⟩, ?_⟩
  rintro i m H3 ⟨rfl, hi, s3, kvs, eD, pr⟩
  obtain ⟨j1, j2, j3⟩ := jok i H3 s3
  rw [List.length_map] at j1 j2
  by_cases hlt : i < xs.length
  · obtain ⟨x, hx, hm⟩ := dI hlt
    refine .inr ⟨j1 hlt, fun H' => Same H1 H' ∧ DM H' D (xs.take (i + 1)), fun H' p' => ⟨xs.length - (i + 1), by omega, rfl, hlt, p'⟩, fun y H4 yl => ?_⟩
    obtain ⟨s4, fy⟩ := j3 y H4 yl (eT x) (by rw [List.getElem?_map, hx]; rfl)
    have s14 := s1.trans (s3.trans s4)
    rw [h1]
    refine hs x hm y H4 s14 fy _ fun σ2 hw2 hP => ⟨hw2, ?_⟩
    show tk σ2 H4 _
    obtain ⟨hk, hv⟩ := ht x hm σ2 H4 s14 hP
    refine hk.go fun yk H5 s5 fk => (hv.mono s5).go fun yv H6 s6 fv => ?_
    obtain ⟨b, rfl, eb⟩ := fk.keyI
    have s46 := s5.trans s6
    have eD6 : H6 D = some (.dT kvs) := s46 _ _ (s4 _ _ eD)
    have hl : kvs.length = (xs.take i).length := Paired.length pr
    have hlen : kvs.length ≤ 100000 := by
      rw [hl, List.length_take]
      omega
    have hkeys : kvs.map (·.1) = ((xs.take i).map (·.1)).map rk := by
      clear hl hlen eD eD6
      generalize xs.take i = zs at pr
      induction pr with
      | nil => rfl
      | cons h t ih => rw [List.map_cons, List.map_cons, List.map_cons, ih, h.1]
    have hnew : rk x.1 ∉ kvs.map (·.1) := by
      rw [hkeys]
      intro c
      have c' := mem_rk.mp c
      rw [List.nodup_iff_pairwise_ne] at hn
      obtain ⟨t, ht, e⟩ := List.mem_map.mp c'
      obtain ⟨j, hj, hjt⟩ := List.mem_iff_getElem.mp ht
      rw [List.length_take] at hj
      rw [List.getElem_take] at hjt
      have hp := List.pairwise_iff_getElem.mp hn j i (by rw [List.length_map]; omega) (by rw [List.length_map]; omega) (by omega)
      rw [List.getElem_map, List.getElem_map, hjt] at hp
      obtain ⟨_, hxi⟩ := List.getElem?_eq_some_iff.mp hx
      rw [hxi] at hp
      exact hp e
    refine ⟨kvs, rk x.1, b, rfl, s6 _ _ eb, eD6, Nat.lt_of_le_of_lt hlen (by decide), ?_, ?_⟩
    · intro c o hc
      rw [upd_ne (ne_of_none hc hD)]
      exact s46 _ _ (s4 _ _ (s3 _ _ hc))
    · rw [putK_new hnew, List.take_add_one, hx]
      have tkU : TK H6 (upd H6 D (.dT (kvs ++ [(rk x.1, yv)]))) := tk_upd eD6 (fun xs z => by cases z)
      exact ⟨_, upd_same, paired_snoc (paired_mono (fun a b ⟨h1, h2⟩ => ⟨h1, (h2.same (s4.trans s46)).tk tkU rfl⟩) pr) ⟨rfl, fv.tk tkU rfl⟩⟩
  · have e : i = xs.length := by omega
    subst e
    rw [List.take_length] at pr
    exact .inl ⟨j2 rfl, q D H3 (s1.free hD) (s1.trans s3) ⟨kvs, eD, pr⟩⟩
theorem s_asgK {n : Nat} (h : te σ H fun v H1 => w D (σ.set n (some v)) H1) : tSeq (tAsg te (gName n)) w D σ H := h
theorem g2_raw {p : Addr} {x y : V} {j1 j2 : Nat} {R : St → Hp → Prop} (e : H p = some (.tup [x, y])) (k : R ((σ.set j1 (some x)).set j2 (some y)) H) : g2 K j1 j2 (.ref p) σ H R :=
  ⟨p, _, rfl, SqT.of e, rfl, _, _, rfl, _, _, rfl, rfl, k⟩
/-- a loop over the list at a; the turns only add to the heap -/
theorem s_forK {tl : TE} {gt : TG} {tb : TS} {a : Addr} {ys : List V} (ha : AtD tl σ H a) (ea : H a = some (.lst ys))
    (Pv : Nat → St → Hp → Prop) (h0 : Pv 0 σ H) (hS : ∀ i σ' H', Pv i σ' H' → H' a = some (.lst ys))
    (hs : ∀ i σ' H' y, ys[i]? = some y → Pv i σ' H' → gt y σ' H' fun σ2 H3 => tb { D with nx := Pv (i + 1), ct := Pv (i + 1), bk := w D } σ2 H3)
    (hd : ∀ σ' H', Pv ys.length σ' H' → w D σ' H') : tSeq (tFor (iList K tl) gt tb) w D σ H := by
  refine ha H (Same.refl H) _ ⟨a, rfl, ⟨ys, SqL.of ea⟩, ?_⟩
  refine for_it (D := { D with nx := w D }) (walk_list (K := K) (a := a) (xs := ys)) Pv h0 (fun i σ' H' _ p => SqL.of (hS i σ' H' p)) ?_ hd
  rintro i y σ' H' H2 hi p ⟨rfl, hy⟩
  exact hs i σ' H2 y hy p
end
end Tt

namespace Tt
open PySem PySem.Spec PyProof.Rows L2 RZ
open C8 (Cal Met Mak pe_c pe_mk pe_mt pe_mt0 pe_gc)
section
variable {P : Program} {w : World} {K : PySem.W.Frag} {mg : Str → Option Value} {base : Heap}
structure MsgB (B : Int) (m : Msg) : Prop where
  nd : (m.map (·.1)).Nodup
  len : m.length ≤ 60
  cnt : ∀ t ∈ m, 1 ≤ t.2.1 ∧ t.2.1 ≤ B
structure LOK (g : Gr) (tabs : List Tab) (ms : List Msg) (node : Nat) (others : List Nat) : Prop where
  G : GOK g
  lt : node < g.n
  tl : tabs.length = g.n
  few : (tabs.getD node []).length ≤ 60
  row : ∀ p ∈ tabs.getD node [], p.1.length ≤ 1000
  ml : ms.length = (dirs g).length
  ol : others.length ≤ 10
  oth : ∀ o ∈ others, (o, node) ∈ dirs g ∧ o < g.n ∧ MsgB (2 ^ 63) (ms.getD (dix g o node) [])
def R_left (ds : List PyData) (d : PyData) : Prop := ∃ g tabs ms node others, ds = [eG g, eTabs tabs, eMs ms, eN node, .list (eNs others)] ∧ LOK g tabs ms node others ∧ d = .list ((leftRows g tabs ms node others).map eT)
theorem lkm_bd {B : Int} {m : Msg} (h : MsgB B m) (hB : 0 ≤ B) (r : Row) : 0 ≤ (lkm m r).1 ∧ (lkm m r).1 ≤ B := by
  unfold lkm
  cases e : m.find? fun t => decide (t.1 = r) with
  | none => exact ⟨Int.le_refl _, hB⟩
  | some t =>
    have := h.cnt t (List.mem_of_find?_eq_some e)
    simp
    omega
/-- an item of known -/
def RK (g : Gr) (ms : List Msg) (node : Nat) (H : Hp) (v : V) (o : Nat) : Prop := ∃ p q s, v = .ref p ∧ H p = some (.tup [s, .ref q]) ∧ Fz H s (eR (shr g node o)) ∧ DM H q (ms.getD (dix g o node) [])
theorem RK.kl {g : Gr} {ms : List Msg} {node : Nat} {H H' : Hp} {v : V} {o : Nat} (h : RK g ms node H v o) (k : KL H H') : RK g ms node H' v o := by
  obtain ⟨p, q, s, rfl, e, f, dm⟩ := h
  exact ⟨p, q, s, rfl, k.tk _ _ e, f.tk k.tk (tb_eR _), dm.kl k⟩
theorem tup2_go {ta tb : TE} {σ : L2.St} {H : Hp} {Q : VK} (h : ta σ H fun x H1 => tb σ H1 fun y H2 => (2 ≤ sizeLine ∧ ∀ p, H2 p = none → Q (.ref p) (upd H2 p (.tup [x, y])))) : tTup (tCons ta (tCons tb tNil)) σ H Q := h
theorem sc_left_rows : FnScope ["graph", "tables", "messages", "node", "others", "parts", "known", "row", "count", "least", "some", "found", "cost", "many", "price", "rows", "other", "message"] ["graph", "tables", "messages", "node", "others"] (defScope s_left_rows) := ⟨rfl, rfl, rfl, by decide +kernel, rfl, by decide +kernel, by decide +kernel⟩
theorem cal_left_rows (T : Tx K mg) : Cal P w K mg base 3 "left_rows" (spP R_left) [] :=
  T.cal 23 23 rfl rfl sc_left_rows (fun _ _ _ _ _ _ us hl => match us, hl with | [_, _, _, _, _], _ => rfl) (spP_len fun ds d ⟨_, _, _, _, _, e, _⟩ => by rw [e]; rfl) fun f cdv A outer s H vs Q E hr h => by
    obtain ⟨ds, d, fv, ⟨g, tabs, ms, node, others, rfl, ok, rfl⟩, k⟩ := h
    obtain ⟨x, y, z, u, v, rfl, f1, f2, f3, f4, f5⟩ := fv.I5
    refine ⟨_, (pss_cons (ps_setLc (i := 5) (own := [("other", 16)]) (g := gName 16) (tt := tYes) (by rfl) sc_left_rows.nd rfl rfl (sw_true rfl rfl rfl (by decide +kernel)) (k_piL (K := K) (pv 4)) (blkOk_by (N := ["graph", "tables", "messages", "node", "others", "parts", "known", "row", "count", "least", "some", "found", "cost", "many", "price", "rows", "other", "message"]) (sc := defScope s_left_rows) (by decide +kernel)) (fun _ _ _ _ _ => (pg_name (i := 16) sc_left_rows.nd rfl (Or.inl rfl))) (fun _ _ _ _ _ => pts_nil) (fun _ _ _ _ _ => (pe_tup (pa_cons (pe_c (cal_shared T) hr (by decide) rfl (pa_cons (pv 0) (pa_cons (pv 3) (pa_cons (pv 16) pa_nil)))) (pa_cons (pe_c (cal_told T) hr (by decide) rfl (pa_cons (pv 0) (pa_cons (pv 2) (pa_cons (pv 16) (pa_cons (pv 3) pa_nil))))) pa_nil)))))
      (pss_cons (ps_setLc (i := 6) (own := [("some", 10), ("message", 17)]) (g := g2 K 10 17) (tt := tYes) (by rfl) sc_left_rows.nd rfl rfl (sw_true rfl rfl rfl (by decide +kernel)) (k_piL (K := K) (pv 5)) (blkOk_by (N := ["graph", "tables", "messages", "node", "others", "parts", "known", "row", "count", "least", "some", "found", "cost", "many", "price", "rows", "other", "message"]) (sc := defScope s_left_rows) (by decide +kernel)) (fun _ _ _ _ _ => (k_tg (K := K) (n := 2) (pgs_cons (pg_name (i := 10) sc_left_rows.nd rfl (Or.inl rfl)) (pgs_cons (pg_name (i := 17) sc_left_rows.nd rfl (Or.inl rfl)) pgs_nil)))) (fun _ _ _ _ _ => pts_nil) (fun _ _ _ _ _ => (pe_tup (pa_cons (pv 10) (pa_cons (pe_dcT (hu_of hr) (own := [("row", 7), ("count", 8), ("least", 9)]) (g := g3 K 7 8 9) (tt := tYes) rfl sc_left_rows.nd (k_piT (K := K) (pv 17)) (blkOk_by (by kernel_rfl)) (fun _ _ _ _ _ => (k_tg (K := K) (n := 3) (pgs_cons (pg_name (i := 7) sc_left_rows.nd rfl (Or.inl rfl)) (pgs_cons (pg_name (i := 8) sc_left_rows.nd rfl (Or.inl rfl)) (pgs_cons (pg_name (i := 9) sc_left_rows.nd rfl (Or.inl rfl)) pgs_nil))))) (fun _ _ _ _ _ => pts_nil) (fun _ _ _ _ _ => (pv 7)) (fun _ _ _ _ _ => (pe_tup (pa_cons (pv 8) (pa_cons (pv 9) pa_nil))))) pa_nil)))))
      (pss_cons (ps_set (i := 11) sc_left_rows.nd rfl (Or.inl rfl) (pe_lst pa_nil))
      (pss_cons (ps_for PassesOwn.never rfl (k_piT (K := K) (pe_ix (k_ixT (K := K)) (pv 1) (pv 3) (fun _ _ => rfl))) (k_tg (K := K) (n := 2) (pgs_cons (pg_name (i := 7) sc_left_rows.nd rfl (Or.inl rfl)) (pgs_cons (pg_name (i := 12) sc_left_rows.nd rfl (Or.inl rfl)) pgs_nil)))
        (pss_cons (ps_set (i := 13) sc_left_rows.nd rfl (Or.inl rfl) pe_int)
        (pss_cons (ps_set (i := 14) sc_left_rows.nd rfl (Or.inl rfl) (pv 12))
        (pss_cons (ps_for PassesOwn.never rfl (k_piL (K := K) (pv 6)) (k_tg (K := K) (n := 2) (pgs_cons (pg_name (i := 10) sc_left_rows.nd rfl (Or.inl rfl)) (pgs_cons (pg_name (i := 15) sc_left_rows.nd rfl (Or.inl rfl)) pgs_nil)))
          (pss_cons (ps_asg (pe_dget2 (hu_of hr) (pv 15) (pe_c (cal_cut_to T) hr (by decide) rfl (pa_cons (pv 7) (pa_cons (pe_ix (k_ixT (K := K)) (pe_ix (k_ixT (K := K)) (pv 0) pe_int (fun _ _ => rfl)) (pv 3) (fun _ _ => rfl)) (pa_cons (pv 10) pa_nil)))) (pe_tup (pa_cons pe_int (pa_cons pe_int pa_nil))) ⟨by rfl, by rfl, by rfl, by rfl⟩) (k_tg (K := K) (n := 2) (pgs_cons (pg_name (i := 8) sc_left_rows.nd rfl (Or.inl rfl)) (pgs_cons (pg_name (i := 9) sc_left_rows.nd rfl (Or.inl rfl)) pgs_nil))))
          (pss_cons (ps_set (i := 13) sc_left_rows.nd rfl (Or.inl rfl) (pe_op op_mul (pv 13) (pv 8)))
          (pss_one (ps_set (i := 14) sc_left_rows.nd rfl (Or.inl rfl) (pe_op op_add (pv 14) (pv 9)))))))
        (pss_one (ps_if (pt_cmpR op_gt (pv 13) pe_int (nomark _)) (pss_one (ps_expr (k_bm (K := K) PySem.F.plainAttrs_list PySem.F.slot_list_append PySem.F.type_list_append mt_append (pv 11) (pa_cons (pe_tup (pa_cons (pv 7) (pa_cons (pv 13) (pa_cons (pv 14) pa_nil)))) pa_nil)))) pss_nil))))))
      (pss_one (ps_ret (pv 11))))))), ?_⟩
    have G := ok.G
    have he3 := G.e3
    have hol := ok.ol
    have hn4 := G.n4
    refine s_asgL (el_map1 (xs := others) (enc := eN) (g := fun o => .tuple [eR (shr g node o), eM (ms.getD (dix g o node) [])]) (w_list (e_var rfl f5)) (by omega) (fun o _ => by simp [tupB, tupsB, tb_eR, tb_eM]) (fun o ho yo H1 s1 fo => 
      (e_tup (ea_cons (e_call (ea_cons (e_var rfl (f1.same s1)) (ea_cons (e_var rfl (f4.same s1)) (ea_cons (e_var rfl fo) ea_nil))) ⟨g, node, o, rfl, ok.lt, (ok.oth o ho).2.1, G, rfl⟩)
        (ea_cons (e_call (ea_cons (e_var rfl (f1.same s1)) (ea_cons (e_var rfl (f3.same s1)) (ea_cons (e_var rfl fo) (ea_cons (e_var rfl (f4.same s1)) ea_nil)))) ⟨g, ms, o, node, rfl, by omega, (ok.oth o ho).1, ok.ml, rfl⟩) ea_nil))))) fun vpa vps H1 nvp s1 evp fvp => ?_
    have fp : Fz H1 (.ref vpa) (.list (others.map fun o => .tuple [eR (shr g node o), eM (ms.getD (dix g o node) [])])) := .lst evp fvp
    generalize V.ref vpa = vp at fp ⊢
    refine s_asgK (lcR (α := Nat) (xs := others) (enc := fun o => .tuple [eR (shr g node o), eM (ms.getD (dix g o node) [])]) (fun _ o H v => RK g ms node H v o) (P := fun o σ2 H2 => ∃ y1 y2, σ2 = [some x, some y, some z, some u, some v, some vp, none, none, none, none, some y1, none, none, none, none, none, none, some y2] ∧ Fz H2 y1 (eR (shr g node o)) ∧ Fz H2 y2 (eM (ms.getD (dix g o node) [])))
      (w_list (e_var rfl fp)) rfl (by omega) (fun o ho yo H2 s2 fo S kk => g2_go fo fun y1 y2 g1 g2 => kk _ rfl ⟨y1, y2, rfl, g1, g2⟩) (fun D o H2 H3 vv r s => r.kl (Same.kl s)) (fun D o H2 vv acc acc' r e => r.kl (kl_upd e)) ?_ ?_)
    · rintro o ho D acc σ2 H2 s2 eD ⟨y1, y2, rfl, g1, g2⟩ QQ kk
      obtain ⟨h1, h2, h3⟩ := ok.oth o ho
      refine tup2_go (EF.go (e_var rfl g1) fun w1 H3 s3 k1 => ?_)
      refine dcR (xs := ms.getD (dix g o node) []) (P := fun t σ3 H3 => ∃ z1 z2 z3, σ3 = [some x, some y, some z, some u, some v, some vp, none, some z1, some z2, some z3, some y1, none, none, none, none, none, none, some y2] ∧ Fz H3 z1 (eR t.1) ∧ Fz H3 z2 (.int t.2.1) ∧ Fz H3 z3 (.int t.2.2))
        (w_tup (e_var (i := 17) rfl (g2.same s3))) rfl h3.nd (Nat.le_trans h3.len (by decide)) (fun t ht yt H4 s4 ft S kk => g3_go ft fun z1 z2 z3 k1 k2 k3 => kk _ rfl ⟨z1, z2, z3, rfl, k1, k2, k3⟩) (fun t ht σ3 H4 s4 ⟨z1, z2, z3, e, k1, k2, k3⟩ => by
          subst e
          exact ⟨e_var rfl k1, e_tup (ea_cons (e_var rfl k2) (ea_cons (e_var rfl k3) ea_nil))⟩) ?_
      intro q H4 n4 s4 dm
      refine ⟨by decide, fun p hp => ?_⟩
      have sN := same_new (o := .tup [w1, .ref q]) hp
      exact kk _ _ ((s3.trans s4).trans sN) ⟨p, q, w1, rfl, upd_same, (k1.same s4).same sN, dm.same sN⟩
    · intro L kys H2 nL s2 eL pk
      refine s_asgL (el_lst ea_nil) fun F ys0 H3 nF s3 eF ff => ?_
      cases ff
      have s12 := (s1.trans s2).trans s3
      have hLF : L ≠ F := fun e => by
        rw [e] at eL
        rw [nF] at eL
        cases eL
      have hF0 : H F = none := (s1.trans s2).free nF
      have tabAt : atI (tabs.map eTab) (node : Int) = some (eTab (tabs.getD node [])) := map_at [] (by rw [ok.tl]; exact ok.lt)
      refine s_forT (xs := tabs.getD node []) (enc := eP) (wt_tup (e_ixT (e_var rfl (f2.same s12)) (e_var rfl (f4.same s12)) tabAt) (tupsB_map tb_eP)) (fun B i σ' H' => ∃ o7 o8 o9 o10 o12 o13 o14 o15, σ' = [some x, some y, some z, some u, some v, some vp, some (.ref L), o7, o8, o9, o10, some (.ref F), o12, o13, o14, o15, none, none] ∧ Same H H' ∧ (∀ b o, b ≠ F → B b = some o → H' b = some o) ∧
        ∃ acc, H' F = some (.lst acc) ∧ FzAll H' acc ((((tabs.getD node []).take i).filterMap (leftRow g ms node others)).map eT)) (fun B sB => ⟨_, _, _, _, _, _, _, _, rfl, s12.trans sB, fun b o _ e => e, [], sB _ _ eF, .nil⟩) (fun B i σ' H' sB ⟨_, _, _, _, _, _, _, _, _, _, hb, _⟩ b xs e => hb b _ (fun z => by
          rw [z, sB _ _ eF] at e
          cases e) e) ?_ ?_
      · rintro B i p σ' H' yp H4 sB hi ⟨o7, o8, o9, o10, o12, o13, o14, o15, rfl, sH', hb, acc, eacc, facc⟩ s4 fyp
        have klB : KL B H' := fun b o e n => hb b o (fun z => by
          rw [z, sB _ _ eF] at e
          cases e
          exact n _ rfl) e
        have pk' : Paired (RK g ms node H4) kys others := paired_mono (fun a b r => r.kl (((Same.kl (s3.trans sB)).trans klB).trans (Same.kl s4))) pk
        have eL' : H4 L = some (.lst kys) := s4 _ _ (hb L _ hLF (sB _ _ (s3 _ _ eL)))
        have eacc4 := s4 _ _ eacc
        have facc4 := facc.same s4
        have sH4 := sH'.trans s4
        have hpm : p ∈ tabs.getD node [] := List.mem_of_getElem? hi
        have hrow := ok.row p hpm
        refine g2_go fyp fun y7 y12 g7 g12 => ?_
        refine s_asg (d := .int 1) e_int fun v13 H5 s5 g13 => ?_
        obtain rfl := g13.intI
        refine s_asg (e_var rfl (g12.same s5)) fun v14 H6 s6 g14 => ?_
        obtain rfl := g14.intI
        have s46 := s5.trans s6
        have sH6 := sH4.trans s46
        refine s_forK (at_var rfl) (s46 _ _ eL') (fun j σ' H'' => ∃ o8 o9 o10 o15 m pr, σ' = [some x, some y, some z, some u, some v, some vp, some (.ref L), some y7, o8, o9, o10, some (.ref F), some y12, some (.int m), some (.int pr), o15, none, none] ∧ Same H6 H'' ∧ (m, pr) = (others.take j).foldl (stepL g ms node p.1) (1, p.2))
          ⟨_, _, _, _, _, _, rfl, Same.refl _, rfl⟩ (fun j σ' H'' ⟨_, _, _, _, _, _, _, s, _⟩ => s _ _ (s46 _ _ eL')) ?_ ?_
        · rintro j σ' H7 yk hj ⟨p8, p9, p10, p15, m, pr, rfl, s7, eacc⟩
          obtain ⟨o, ho, q1, q2, sv, rfl, et, fsv, dm⟩ := paired_get pk' hj
          obtain ⟨h1, h2, h3⟩ := ok.oth o (List.mem_of_getElem? ho)
          have s67 := s46.trans s7
          have sH7 := sH6.trans s7
          refine g2_raw (s67 _ _ et) ?_
          refine s_asg2 (e_dmget (at_var rfl) (dm.same s67) (e_call (ea_cons (e_var rfl (g7.same s67)) (ea_cons (e_ixT (e_ixT (e_var rfl (f1.same sH7)) e_int (by rfl)) (e_var rfl (f4.same sH7)) (sc_at ok.lt)) (ea_cons (e_var rfl (fsv.same s67)) ea_nil))) ⟨p.1, g.sc node, shr g node o, rfl, hrow, rfl⟩)
            (e_tup (ea_cons e_int (ea_cons e_int ea_nil)))) fun w8 w9 H8 s8 g8 g9 => ?_
          have hbd := lkm_bd h3 (by decide) (cut p.1 (g.sc node) (shr g node o))
          refine s_asg (e_mul (e_var rfl (.int m)) (e_var rfl g8) (.inr ⟨by omega, by omega⟩)) fun w13 H9 s9 g13 => ?_
          obtain rfl := g13.intI
          refine s_asg1 (e_add (e_var rfl (.int pr)) (e_var rfl (g9.same s9))) fun w14 H10 s10 g14 => ?_
          obtain rfl := g14.intI
          refine ⟨_, _, _, _, _, _, rfl, ((s7.trans s8).trans s9).trans s10, ?_⟩
          rw [List.take_add_one, ho, List.foldl_append, ← eacc]
          rfl
        · rintro σ' H7 ⟨p8, p9, p10, p15, m, pr, rfl, s7, em⟩
          have hl : kys.length = others.length := Paired.length pk'
          rw [hl, List.take_length] at em
          have s67 := s46.trans s7
          have hnx : ∀ b o, b ≠ F → B b = some o → H7 b = some o := fun b o n e => s67 _ _ (s4 _ _ (hb b o n e))
          have hstep : ((tabs.getD node []).take (i + 1)).filterMap (leftRow g ms node others) = ((tabs.getD node []).take i).filterMap (leftRow g ms node others) ++ (if 0 < m then [(p.1, m, pr)] else []) := by
            rw [List.take_add_one, hi, List.filterMap_append]
            congr 1
            show List.filterMap (leftRow g ms node others) [p] = _
            have e : leftRow g ms node others p = if 0 < m then some (p.1, m, pr) else none := by
              unfold leftRow
              rw [← em]
            by_cases hm : 0 < m
            · rw [if_pos hm] at e ⊢
              simp [e]
            · rw [if_neg hm] at e ⊢
              simp [e]
          have hlen : acc.length ≤ 60 := by
            rw [facc.len, List.length_map]
            have h1 := List.length_filterMap_le (leftRow g ms node others) ((tabs.getD node []).take i)
            rw [List.length_take] at h1
            have := ok.few
            omega
          refine s_if (t_test (e_gt (e_var rfl (.int m)) e_int)) (fun hm H8 s8 => ?_) (fun hm H8 s8 => ?_)
          · have hm' : 0 < m := by simpa using hm
            have s78 := s67.trans s8
            refine s_appV (Q := fun _ _ => True) (s78 _ _ eacc4) (at_var rfl) (e_tup (ea_cons (e_var rfl (g7.same s78)) (ea_cons (e_var rfl (.int m)) (ea_cons (e_var rfl (.int pr)) ea_nil)))) (by omega) fun va H9 s9 fva => ?_
            have eF9 : H9 F = some (.lst acc) := s9 _ _ (s78 _ _ eacc4)
            have kU : TK H9 (upd H9 F (.lst (acc ++ [va]))) := (kl_upd eF9).tk
            refine ⟨_, _, _, _, _, _, _, _, rfl, same_mut (sH4.trans (s78.trans s9)) hF0, fun b o n e => ?_, _, upd_same, ?_⟩
            · rw [upd_ne n]
              exact s9 _ _ (s8 _ _ (hnx b o n e))
            · rw [hstep, if_pos hm', List.map_append]
              exact ((facc4.same (s78.trans s9)).tk kU (tupsB_map tb_eT)).snoc (fva.tk kU (tb_eT (p.1, m, pr)))
          · have hm' : ¬ 0 < m := by simpa using hm
            refine ⟨_, _, _, _, _, _, _, _, rfl, sH4.trans (s67.trans s8), fun b o n e => s8 _ _ (hnx b o n e), acc, s8 _ _ (s67 _ _ eacc4), ?_⟩
            rw [hstep, if_neg hm', List.append_nil]
            exact facc4.same (s67.trans s8)
      · rintro B σ' H' sB ⟨o7, o8, o9, o10, o12, o13, o14, o15, rfl, sH', hb, acc, eacc, facc⟩
        rw [List.take_length] at facc
        exact (e_var rfl (Fz.lst eacc facc)).ret fun v H4 s4 => k v H4 (sH'.trans s4)
end
end Tt

namespace Tt
open PySem PySem.Spec PyProof.Rows L2 RZ
open C8 (Cal Met Mak pe_c pe_mk pe_mt pe_mt0 pe_gc)
section
variable {P : Program} {w : World} {K : PySem.W.Frag} {mg : Str → Option Value} {base : Heap}
theorem mem_nbrs {g : Gr} {a o : Nat} : o ∈ nbrs g a ↔ (a, o) ∈ g.eds ∨ (o, a) ∈ g.eds := by
  unfold nbrs srtN
  rw [(isort_perm ltN _).mem_iff, List.mem_append, List.mem_map, List.mem_map]
  constructor
  · rintro (⟨e, he, rfl⟩ | ⟨e, he, rfl⟩)
    · obtain ⟨h1, h2⟩ := List.mem_filter.mp he
      have : e.1 = a := by simpa using h2
      exact .inl (by rw [← this]; exact h1)
    · obtain ⟨h1, h2⟩ := List.mem_filter.mp he
      have : e.2 = a := by simpa using h2
      exact .inr (by rw [← this]; exact h1)
  · rintro (h | h)
    · exact .inl ⟨_, List.mem_filter.mpr ⟨h, by simp⟩, rfl⟩
    · exact .inr ⟨_, List.mem_filter.mpr ⟨h, by simp⟩, rfl⟩
theorem mem_dirs {g : Gr} {a b : Nat} : (a, b) ∈ dirs g ↔ (a, b) ∈ g.eds ∨ (b, a) ∈ g.eds := by
  unfold dirs
  rw [List.mem_flatMap]
  constructor
  · rintro ⟨e, he, h⟩
    simp at h
    rcases h with ⟨rfl, rfl⟩ | ⟨rfl, rfl⟩
    · exact .inl he
    · exact .inr he
  · rintro (h | h)
    · exact ⟨_, h, by simp⟩
    · exact ⟨_, h, by simp⟩
theorem nbr_dir {g : Gr} {a o : Nat} (h : o ∈ nbrs g a) : (o, a) ∈ dirs g ∧ (a, o) ∈ dirs g := by
  rw [mem_nbrs] at h
  rw [mem_dirs, mem_dirs]
  exact ⟨h.symm, h⟩
theorem dir_nbr {g : Gr} {a b : Nat} (h : (a, b) ∈ dirs g) : b ∈ nbrs g a := by
  rw [mem_nbrs]
  exact mem_dirs.mp h
theorem GOK.dlt {g : Gr} (G : GOK g) {a b : Nat} (h : (a, b) ∈ dirs g) : a < g.n ∧ b < g.n := by
  rcases mem_dirs.mp h with h | h
  · have := G.elt _ h
    simp at this
    omega
  · have := G.elt _ h
    simp at this
    omega
theorem nbrs_len (g : Gr) (a : Nat) : (nbrs g a).length ≤ 2 * g.eds.length := by
  unfold nbrs srtN
  rw [(isort_perm ltN _).length_eq, List.length_append, List.length_map, List.length_map]
  have h1 := List.length_filter_le (fun e : Nat × Nat => decide (e.1 = a)) g.eds
  have h2 := List.length_filter_le (fun e : Nat × Nat => decide (e.2 = a)) g.eds
  omega
structure TabOK (g : Gr) (n : Nat) (t : Tab) : Prop where
  few : t.length ≤ 60
  row : ∀ p ∈ t, RowOK g.vals (g.sc n) p.1
  nd : (t.map (·.1)).Nodup
structure TabsOK (g : Gr) (tabs : List Tab) : Prop where
  len : tabs.length = g.n
  ok : ∀ n, n < g.n → TabOK g n (tabs.getD n [])
structure MsOK (g : Gr) (ms : List Msg) : Prop where
  len : ms.length = (dirs g).length
  ok : ∀ i, i < (dirs g).length → MsgB (2 ^ 63) (ms.getD i [])
abbrev oths (g : Gr) (a b : Nat) : List Nat := (nbrs g a).filter fun x => !decide (x = b)
theorem lok_of {g : Gr} {tabs : List Tab} {ms : List Msg} {a b : Nat} (G : GOK g) (ha : a < g.n) (ht : TabsOK g tabs) (hm : MsOK g ms) : LOK g tabs ms a (oths g a b) where
  G := G
  lt := ha
  tl := ht.len
  few := (ht.ok a ha).few
  row := fun p hp => by
    have := (ht.ok a ha).row p hp
    have := this.few
    omega
  ml := hm.len
  ol := by
    have h1 := List.length_filter_le (fun x => !decide (x = b)) (nbrs g a)
    have h2 := nbrs_len g a
    have h3 := G.e3
    show ((nbrs g a).filter _).length ≤ 10
    omega
  oth := fun o ho => by
    have h := nbr_dir (List.mem_filter.mp ho).1
    exact ⟨h.1, (G.dlt h.1).1, hm.ok _ (dix_lt h.1)⟩
theorem left_len (g : Gr) (tabs : List Tab) (ms : List Msg) (a : Nat) (others : List Nat) : (leftRows g tabs ms a others).length ≤ (tabs.getD a []).length := List.length_filterMap_le _ _
theorem left_row {g : Gr} {tabs : List Tab} {ms : List Msg} {a : Nat} {others : List Nat} {t : Row × Int × Int} (h : t ∈ leftRows g tabs ms a others) : 0 < t.2.1 ∧ ∃ c, (t.1, c) ∈ tabs.getD a [] ∧ t.2 = others.foldl (stepL g ms a t.1) (1, c) := by
  obtain ⟨p, hp, e⟩ := List.mem_filterMap.mp h
  unfold leftRow at e
  simp only at e
  split at e
  · rename_i h0
    cases e
    exact ⟨h0, p.2, hp, rfl⟩
  · cases e
theorem cut_len (r q sc kept : Row) (h1 : r.length = sc.length) (h2 : q.length = sc.length) : (cut r sc kept).length = (cut q sc kept).length := by
  have : ∀ (sc r : Row), r.length = sc.length → (cut r sc kept).length = (sc.filter fun v => decide (v ∈ kept)).length := by
    intro sc
    induction sc with
    | nil => intro r _; simp [cut]
    | cons s sc ih =>
      intro r h
      cases r with
      | nil => simp at h
      | cons x r =>
        have h' : r.length = sc.length := by simpa using h
        have := ih r h'
        unfold cut at this ⊢
        rw [List.zip_cons_cons, List.filter_cons, List.filter_cons]
        by_cases e : s ∈ kept
        · simp only [e, decide_true, if_true]
          rw [List.map_cons, List.length_cons, List.length_cons, this]
        · simp only [e, decide_false]
          exact this
  rw [this sc r h1, this sc q h2]
theorem cut_mem {r sc kept : Row} {v : Int} (h : v ∈ cut r sc kept) : v ∈ r := by
  unfold cut at h
  obtain ⟨p, hp, rfl⟩ := List.mem_map.mp h
  exact (List.of_mem_zip (List.mem_filter.mp hp).1).2
def R_req (ds : List PyData) (d : PyData) : Prop := ∃ g tabs ms a b, ds = [eG g, eTabs tabs, eMs ms, eN a, eN b] ∧ GOK g ∧ a < g.n ∧ b < g.n ∧ TabsOK g tabs ∧ MsOK g ms ∧ d = eM (required g tabs ms a b)
theorem items_ok {g : Gr} {tabs : List Tab} {ms : List Msg} {a b : Nat} (G : GOK g) (ha : a < g.n) (ht : TabsOK g tabs) : ∃ n, ∀ t ∈ (leftRows g tabs ms a (oths g a b)).map (fun t => (cut t.1 (g.sc a) (shr g a b), t.2)), t.1.length = n ∧ TS.Bd 6 t.1 := by
  have hv := G.vals
  refine ⟨(cut (g.sc a) (g.sc a) (shr g a b)).length, fun t ht' => ?_⟩
  obtain ⟨u, hu, rfl⟩ := List.mem_map.mp ht'
  obtain ⟨_, c, hc, _⟩ := left_row hu
  have ro := (ht.ok a ha).row _ hc
  refine ⟨cut_len _ _ _ _ ro.len rfl, fun m hm => ?_⟩
  have := ro.rng m (cut_mem hm)
  omega
theorem sc_required : FnScope ["graph", "tables", "messages", "one", "other", "others", "some", "rows", "node", "row", "count", "cost"] ["graph", "tables", "messages", "one", "other"] (defScope s_required) := ⟨rfl, rfl, rfl, by decide +kernel, rfl, by decide +kernel, by decide +kernel⟩
theorem cal_required (T : Tx K mg) : Cal P w K mg base 4 "required" (spP R_req) [] :=
  T.cal 24 24 rfl rfl sc_required (fun _ _ _ _ _ _ us hl => match us, hl with | [_, _, _, _, _], _ => rfl) (spP_len fun ds d ⟨_, _, _, _, _, e, _⟩ => by rw [e]; rfl) fun f cdv A outer s H vs Q E hr h => by
    obtain ⟨ds, d, fv, ⟨g, tabs, ms, a, b, rfl, G, ha, hb, ht, hm, rfl⟩, k⟩ := h
    obtain ⟨x, y, z, u, v, rfl, f1, f2, f3, f4, f5⟩ := fv.I5
    refine ⟨_, (pss_cons (ps_setLc (i := 5) (own := [("node", 8)]) (g := gName 8) (by rfl) sc_required.nd rfl rfl (sw_true rfl rfl rfl (by decide +kernel)) (k_piT (K := K) (pe_c (cal_neighbours T) hr (by decide) rfl (pa_cons (pv 0) (pa_cons (pv 3) pa_nil)))) (blkOk_by (N := ["graph", "tables", "messages", "one", "other", "others", "some", "rows", "node", "row", "count", "cost"]) (sc := defScope s_required) (by decide +kernel)) (fun _ _ _ _ _ => (pg_name (i := 8) sc_required.nd rfl (Or.inl rfl))) (fun _ _ _ _ _ => (pts_one (pt_cmpR op_ne (pv 8) (pv 4) (nomark _)))) (fun _ _ _ _ _ => (pv 8)))
      (pss_cons (ps_set (i := 6) sc_required.nd rfl (Or.inr rfl) (pe_c (cal_shared T) hr (by decide) rfl (pa_cons (pv 0) (pa_cons (pv 3) (pa_cons (pv 4) pa_nil)))))
      (pss_cons (ps_set (i := 7) sc_required.nd rfl (Or.inl rfl) (pe_c (cal_left_rows T) hr (by decide) rfl (pa_cons (pv 0) (pa_cons (pv 1) (pa_cons (pv 2) (pa_cons (pv 3) (pa_cons (pv 5) pa_nil)))))))
      (pss_one (ps_ret (pe_c (cal_gathered T) hr (by decide) rfl (pa_cons (pe_lc (own := [("row", 9), ("count", 10), ("cost", 11)]) (g := g3 K 9 10 11) (tt := tYes) rfl sc_required.nd (k_piL (K := K) (pv 7)) (blkOk_by (N := ["graph", "tables", "messages", "one", "other", "others", "some", "rows", "node", "row", "count", "cost"]) (sc := defScope s_required) (by decide +kernel)) (fun _ _ _ _ _ => (k_tg (K := K) (n := 3) (pgs_cons (pg_name (i := 9) sc_required.nd rfl (Or.inl rfl)) (pgs_cons (pg_name (i := 10) sc_required.nd rfl (Or.inl rfl)) (pgs_cons (pg_name (i := 11) sc_required.nd rfl (Or.inl rfl)) pgs_nil))))) (fun _ _ _ _ _ => pts_nil) (fun _ _ _ _ _ => (pe_tup (pa_cons (pe_c (cal_cut_to T) hr (by decide) rfl (pa_cons (pv 9) (pa_cons (pe_ix (k_ixT (K := K)) (pe_ix (k_ixT (K := K)) (pv 0) pe_int (fun _ _ => rfl)) (pv 3) (fun _ _ => rfl)) (pa_cons (pv 6) pa_nil)))) (pa_cons (pv 10) (pa_cons (pv 11) pa_nil)))))) pa_nil))))))), ?_⟩
    have hnl := nbrs_len g a
    have he3 := G.e3
    have hll := left_len g tabs ms a (oths g a b)
    have hf := (ht.ok a ha).few
    refine s_asgL (el_flt1 (xs := nbrs g a) (enc := eN) (f := fun o => !decide (o = b)) (g := eN) (w_tup (e_call (ea_cons (e_var rfl f1) (ea_cons (e_var rfl f4) ea_nil)) ⟨g, a, rfl, G, rfl⟩)) (by omega) (fun _ _ _ => rfl) (fun o ho yo H1 s1 fo =>
      ⟨t_test ((e_neI (e_var rfl fo) (e_var rfl (f5.same s1))).is (by rw [decN])), fun _ => e_var rfl fo⟩)) fun L ys H1 nL s1 eL fL => ?_
    refine s_asg (e_call (ea_cons (e_var rfl (f1.same s1)) (ea_cons (e_var rfl (f4.same s1)) (ea_cons (e_var rfl (f5.same s1)) ea_nil))) ⟨g, a, b, rfl, ha, hb, G, rfl⟩) fun vs H2 s2 fs => ?_
    have s12 := s1.trans s2
    refine s_asg (e_call (ea_cons (e_var rfl (f1.same s12)) (ea_cons (e_var rfl (f2.same s12)) (ea_cons (e_var rfl (f3.same s12)) (ea_cons (e_var rfl (f4.same s12)) (ea_cons (e_var (d := .list (eNs (oths g a b))) rfl (.lst (s2 _ _ eL) (fL.same s2))) ea_nil))))) ⟨g, tabs, ms, a, oths g a b, rfl, lok_of G ha ht hm, rfl⟩) fun vr H3 s3 fr => ?_
    have s13 := s12.trans s3
    obtain ⟨n, hn⟩ := items_ok (ms := ms) (b := b) G ha ht
    refine EF.ret (e_call (ea_cons (EL.ef (el_map3 (xs := leftRows g tabs ms a (oths g a b)) (e1 := fun t => eR t.1) (e2 := fun t => .int t.2.1) (e3 := fun t => .int t.2.2) (g := fun t => eT (cut t.1 (g.sc a) (shr g a b), t.2)) (w_list (e_var rfl fr)) (by omega) (fun t _ => tb_eT _) (fun t ht' y1 y2 y3 H4 s4 g1 g2 g3 =>
      e_tup (ea_cons (e_call (ea_cons (e_var rfl g1) (ea_cons (e_ixT (e_ixT (e_var rfl (f1.same (s13.trans s4))) e_int (by rfl)) (e_var rfl (f4.same (s13.trans s4))) (sc_at ha)) (ea_cons (e_var rfl ((fs.same s3).same s4)) ea_nil))) ⟨t.1, g.sc a, shr g a b, rfl, (by
        obtain ⟨_, c, hc, _⟩ := left_row ht'
        have := ((ht.ok a ha).row _ hc).few
        simp at this
        omega), rfl⟩) (ea_cons (e_var rfl g2) (ea_cons (e_var rfl g3) ea_nil)))))) ea_nil) ⟨(leftRows g tabs ms a (oths g a b)).map (fun (t : Row × Int × Int) => (cut t.1 (g.sc a) (shr g a b), t.2)), n, by rw [List.map_map]; rfl, by rw [List.length_map]; omega, hn, rfl⟩) fun v H4 s4 f4 => k v H4 (s13.trans s4) f4
def R_round (ds : List PyData) (d : PyData) : Prop := ∃ g tabs ms, ds = [eG g, eTabs tabs, eMs ms] ∧ GOK g ∧ TabsOK g tabs ∧ MsOK g ms ∧ d = eMs (round1 g tabs ms)
theorem sc_one_round : FnScope ["graph", "tables", "messages", "one", "other"] ["graph", "tables", "messages"] (defScope s_one_round) := ⟨rfl, rfl, rfl, by decide +kernel, rfl, by decide +kernel, by decide +kernel⟩
theorem dirs_len (g : Gr) : (dirs g).length = 2 * g.eds.length := two_len _
theorem cal_one_round (T : Tx K mg) : Cal P w K mg base 5 "one_round" (spP R_round) [] :=
  T.cal 26 26 rfl rfl sc_one_round (fun _ _ _ _ _ _ us hl => match us, hl with | [_, _, _], _ => rfl) (spP_len fun ds d ⟨_, _, _, e, _⟩ => by rw [e]; rfl) fun f cdv A outer s H vs Q E hr h => by
    obtain ⟨ds, d, fv, ⟨g, tabs, ms, rfl, G, ht, hm, rfl⟩, k⟩ := h
    obtain ⟨x, y, z, rfl, f1, f2, f3⟩ := fv.I3
    refine ⟨_, (pss_one (ps_ret (pe_callTy (k_tupOf (K := K)) (by rfl) T.n_tuple (by decide +kernel) (pa_cons (pe_lc (own := [("one", 3), ("other", 4)]) (g := g2 K 3 4) (tt := tYes) rfl sc_one_round.nd (k_piL (K := K) (pe_c (cal_directions_of T) hr (by decide) rfl (pa_cons (pv 0) pa_nil))) (blkOk_by (N := ["graph", "tables", "messages", "one", "other"]) (sc := defScope s_one_round) (by decide +kernel)) (fun _ _ _ _ _ => (k_tg (K := K) (n := 2) (pgs_cons (pg_name (i := 3) sc_one_round.nd rfl (Or.inl rfl)) (pgs_cons (pg_name (i := 4) sc_one_round.nd rfl (Or.inl rfl)) pgs_nil)))) (fun _ _ _ _ _ => pts_nil) (fun _ _ _ _ _ => (pe_c (cal_required T) hr (by decide) rfl (pa_cons (pv 0) (pa_cons (pv 1) (pa_cons (pv 2) (pa_cons (pv 3) (pa_cons (pv 4) pa_nil)))))))) pa_nil)))), ?_⟩
    have he3 := G.e3
    have hdl := dirs_len g
    refine EF.ret ((e_tupL (EL.ef (el_map2 (xs := dirs g) (e1 := fun p => eN p.1) (e2 := fun p => eN p.2) (g := fun p => eM (required g tabs ms p.1 p.2)) (w_list (EL.ef (e_callL (ea_cons (e_var rfl f1) ea_nil) ⟨g, rfl, by omega, rfl⟩))) (by omega) (fun _ _ => tb_eM _) (fun p hp y1 y2 H1 s1 g1 g2 =>
      e_call (ea_cons (e_var rfl (f1.same s1)) (ea_cons (e_var rfl (f2.same s1)) (ea_cons (e_var rfl (f3.same s1)) (ea_cons (e_var rfl g1) (ea_cons (e_var rfl g2) ea_nil))))) ⟨g, tabs, ms, p.1, p.2, rfl, G, (G.dlt hp).1, (G.dlt hp).2, ht, hm, rfl⟩)))).is ?_) k
    unfold eMs round1
    rw [List.map_map]
    rfl
end
end Tt

/-! How large the counts of the messages can be. -/
namespace Tt
open PySem
def othE (eds : List (Nat × Nat)) (a b : Nat) : List Nat := (nbE eds a).filter fun x => !decide (x = b)
theorem oths_eq (g : Gr) (a b : Nat) : oths g a b = othE g.eds a b := rfl
def bdn (eds : List (Nat × Nat)) : Nat → Nat → Nat → Nat
  | 0, _, _ => 60
  | f + 1, a, b => 60 * (othE eds a b).foldl (fun acc x => acc * bdn eds f x a) 1
def dirsE (eds : List (Nat × Nat)) : List (Nat × Nat) := eds.flatMap fun e => [(e.1, e.2), (e.2, e.1)]
theorem dirs_eq (g : Gr) : dirs g = dirsE g.eds := rfl
theorem bdn_all : ∀ p ∈ shapes, ∀ d ∈ dirsE p.2, 60 * (othE p.2 d.1 d.2).foldl (fun acc x => acc * bdn p.2 4 x d.1) 1 ≤ bdn p.2 4 d.1 d.2 ∧ bdn p.2 4 d.1 d.2 ≤ 2 ^ 63 := by decide +kernel
structure MsB (g : Gr) (ms : List Msg) : Prop where
  len : ms.length = (dirs g).length
  ok : ∀ a b, (a, b) ∈ dirs g → MsgB (bdn g.eds 4 a b) (ms.getD (dix g a b) [])
theorem MsgB.le {B C : Int} {m : Msg} (h : MsgB B m) (k : B ≤ C) : MsgB C m := ⟨h.nd, h.len, fun t ht => ⟨(h.cnt t ht).1, Int.le_trans (h.cnt t ht).2 k⟩⟩
theorem GOK.nodupD {g : Gr} (G : GOK g) : (dirs g).Nodup := by
  have h : ∀ p ∈ shapes, (dirsE p.2).Nodup := by decide
  exact h _ G.shape
theorem idx_getD {g : Gr} (G : GOK g) {i : Nat} (hi : i < (dirs g).length) : dix g ((dirs g)[i]).1 ((dirs g)[i]).2 = i := by
  unfold dix
  have hn := G.nodupD
  have e : ((dirs g)[i].1, (dirs g)[i].2) = (dirs g)[i] := rfl
  rw [e]
  exact hn.idxOf_getElem i hi
theorem MsB.ms {g : Gr} {ms : List Msg} (G : GOK g) (h : MsB g ms) : MsOK g ms := ⟨h.len, fun i hi => by
  have hd : ((dirs g)[i].1, (dirs g)[i].2) ∈ dirs g := List.getElem_mem hi
  have := h.ok _ _ hd
  rw [idx_getD G hi] at this
  refine this.le ?_
  have hb := (bdn_all _ G.shape _ hd).2
  exact_mod_cast hb⟩
theorem foldl_bd {g : Gr} {ms : List Msg} {a : Nat} {row : Row} : ∀ (l : List Nat) (m c : Int) (M : Nat), (∀ o ∈ l, 0 ≤ (lkm (ms.getD (dix g o a) []) (cut row (g.sc a) (shr g a o))).1 ∧ (lkm (ms.getD (dix g o a) []) (cut row (g.sc a) (shr g a o))).1 ≤ (bdn g.eds 4 o a : Int)) → 0 ≤ m → m ≤ M →
    0 ≤ (l.foldl (stepL g ms a row) (m, c)).1 ∧ (l.foldl (stepL g ms a row) (m, c)).1 ≤ ((l.foldl (fun acc x => acc * bdn g.eds 4 x a) M : Nat) : Int)
  | [], m, c, M, _, h0, h1 => ⟨h0, h1⟩
  | o :: l, m, c, M, h, h0, h1 => by
    rw [List.foldl_cons, List.foldl_cons]
    obtain ⟨q0, q1⟩ := h o List.mem_cons_self
    refine foldl_bd l _ _ _ (fun o' ho' => h o' (List.mem_cons_of_mem _ ho')) (Int.mul_nonneg h0 q0) ?_
    show m * _ ≤ ((M * bdn g.eds 4 o a : Nat) : Int)
    rw [Int.natCast_mul]
    exact Int.mul_le_mul h1 q1 q0 (by omega)
theorem acc_cnt {B : Int} (hB : 0 ≤ B) : ∀ (items acc : Msg) (k : Nat), (∀ t ∈ items, 1 ≤ t.2.1 ∧ t.2.1 ≤ B) → (∀ t ∈ acc, 1 ≤ t.2.1 ∧ t.2.1 ≤ (k : Int) * B) → ∀ t ∈ items.foldl addTo acc, 1 ≤ t.2.1 ∧ t.2.1 ≤ ((k + items.length : Nat) : Int) * B
  | [], acc, k, _, h => h
  | it :: items, acc, k, hi, h => by
    rw [List.foldl_cons, List.length_cons]
    have e : k + (items.length + 1) = (k + 1) + items.length := by omega
    rw [e]
    have hit := hi it List.mem_cons_self
    have em : ((k + 1 : Nat) : Int) * B = (k : Int) * B + B := by
      rw [Int.natCast_add, Int.add_mul]
      omega
    have hk : 0 ≤ (k : Int) * B := Int.mul_nonneg (by omega) hB
    refine acc_cnt hB items (addTo acc it) (k + 1) (fun t ht => hi t (List.mem_cons_of_mem _ ht)) fun t ht => ?_
    rw [em]
    unfold addTo at ht
    split at ht
    · obtain ⟨u, hu, rfl⟩ := List.mem_map.mp ht
      have hu' := h u hu
      split
      · simp only
        omega
      · omega
    · rcases List.mem_append.mp ht with hu | hu
      · have := h t hu
        omega
      · rw [List.mem_singleton.mp hu]
        omega
theorem gather_rows (items : Msg) : (gather items).map (·.1) = srtR ((accOf items).map (·.1)) := by
  unfold gather
  rw [List.map_map]
  exact List.map_id _
theorem gather_bd {B : Int} (hB : 0 ≤ B) {items : Msg} (hl : items.length ≤ 60) (h : ∀ t ∈ items, 1 ≤ t.2.1 ∧ t.2.1 ≤ B) : MsgB (60 * B) (gather items) where
  nd := by
    rw [gather_rows]
    exact (isort_perm ltR _).nodup_iff.mpr (acc_nodup items)
  len := by
    have := congrArg List.length (gather_rows items)
    rw [List.length_map, srtR, (isort_perm ltR _).length_eq, List.length_map] at this
    have := acc_len items
    omega
  cnt := fun t ht => by
    unfold gather at ht
    obtain ⟨r, hr, rfl⟩ := List.mem_map.mp ht
    have hr' : r ∈ (accOf items).map (·.1) := (isort_perm ltR _).mem_iff.mp hr
    obtain ⟨u, hu, h1, h2⟩ := lkm_of hr'
    show 1 ≤ (lkm (accOf items) r).1 ∧ (lkm (accOf items) r).1 ≤ 60 * B
    rw [h2]
    have := acc_cnt hB items [] 0 h (fun _ z => nomatch z) u (List.mem_of_find?_eq_some hu)
    refine ⟨this.1, Int.le_trans this.2 (Int.mul_le_mul_of_nonneg_right (by omega) hB)⟩
theorem req_bd {g : Gr} {tabs : List Tab} {ms : List Msg} {a b : Nat} (G : GOK g) (hd : (a, b) ∈ dirs g) (ht : TabsOK g tabs) (hm : MsB g ms) : MsgB (bdn g.eds 4 a b) (required g tabs ms a b) := by
  have ha := (G.dlt hd).1
  have hll := left_len g tabs ms a (oths g a b)
  have hf := (ht.ok a ha).few
  have h := gather_bd (B := (((othE g.eds a b).foldl (fun acc x => acc * bdn g.eds 4 x a) 1 : Nat) : Int)) (by omega) (items := (leftRows g tabs ms a (oths g a b)).map fun (t : Row × Int × Int) => (cut t.1 (g.sc a) (shr g a b), t.2)) (by rw [List.length_map]; omega) (fun t ht' => by
    obtain ⟨u, hu, rfl⟩ := List.mem_map.mp ht'
    obtain ⟨h0, c, hc, e⟩ := left_row hu
    refine ⟨by show 1 ≤ u.2.1; omega, ?_⟩
    show u.2.1 ≤ _
    rw [e, oths_eq]
    refine (foldl_bd (othE g.eds a b) 1 c 1 (fun o ho => ?_) (by omega) (by omega)).2
    have hoa := (nbr_dir (List.mem_filter.mp (show o ∈ oths g a b from ho)).1).1
    exact lkm_bd (hm.ok o a hoa) (by omega) _)
  refine h.le ?_
  have := (bdn_all _ G.shape _ hd).1
  simp only at this
  exact_mod_cast this
theorem round_at {g : Gr} {tabs : List Tab} {ms : List Msg} {a b : Nat} (hd : (a, b) ∈ dirs g) : (round1 g tabs ms).getD (dix g a b) [] = required g tabs ms a b := by
  have hi := dix_lt hd
  have e : (dirs g)[dix g a b] = (a, b) := List.getElem_idxOf hi
  unfold round1
  rw [List.getD_eq_getElem?_getD, List.getElem?_map, List.getElem?_eq_getElem hi, e]
  rfl
theorem round_bd {g : Gr} {tabs : List Tab} {ms : List Msg} (G : GOK g) (ht : TabsOK g tabs) (hm : MsB g ms) : MsB g (round1 g tabs ms) where
  len := by
    unfold round1
    rw [List.length_map]
  ok := fun a b hd => by
    rw [round_at hd]
    exact req_bd G hd ht hm
theorem iter_succ {α : Type} (f : α → α) : ∀ (n : Nat) (x : α), iter f (n + 1) x = f (iter f n x)
  | 0, _ => rfl
  | n + 1, x => by
    show iter f (n + 1) (f x) = f (iter f n (f x))
    exact iter_succ f n (f x)
def ms0 (g : Gr) : List Msg := (dirs g).map fun _ => []
theorem ms0_bd (g : Gr) : MsB g (ms0 g) where
  len := List.length_map ..
  ok := fun a b hd => by
    have hi := dix_lt hd
    have e : (ms0 g).getD (dix g a b) [] = [] := by
      unfold ms0
      rw [List.getD_eq_getElem?_getD, List.getElem?_map, List.getElem?_eq_getElem hi]
      rfl
    rw [e]
    exact ⟨List.nodup_nil, by simp, fun _ z => nomatch z⟩
theorem iter_bd {g : Gr} {tabs : List Tab} (G : GOK g) (ht : TabsOK g tabs) : ∀ n, MsB g (iter (round1 g tabs) n (ms0 g))
  | 0 => ms0_bd g
  | n + 1 => by
    rw [iter_succ]
    exact round_bd G ht (iter_bd G ht n)
theorem computed_eq (g : Gr) (tabs : List Tab) : computed g tabs = iter (round1 g tabs) g.n (ms0 g) := rfl
end Tt

namespace Tt
open PySem PySem.Spec PyProof.Rows L2 RZ
open C8 (Cal Met Mak pe_c pe_mk pe_mt pe_mt0 pe_gc)
section
variable {P : Program} {w : World} {K : PySem.W.Frag} {mg : Str → Option Value} {base : Heap}
def R_comp (ds : List PyData) (d : PyData) : Prop := ∃ g tabs, ds = [eG g, eTabs tabs] ∧ GOK g ∧ TabsOK g tabs ∧ d = eMs (computed g tabs)
theorem sc_computed : FnScope ["graph", "tables", "messages", "turn", "direction"] ["graph", "tables"] (defScope s_computed) := ⟨rfl, rfl, rfl, by decide +kernel, rfl, by decide +kernel, by decide +kernel⟩
theorem cal_computed (T : Tx K mg) : Cal P w K mg base 6 "computed" (spP R_comp) [] :=
  T.cal 25 25 rfl rfl sc_computed (fun _ _ _ _ _ _ us hl => match us, hl with | [_, _], _ => rfl) (spP_len fun ds d ⟨_, _, e, _⟩ => by rw [e]; rfl) fun f cdv A outer s H vs Q E hr h => by
    obtain ⟨ds, d, fv, ⟨g, tabs, rfl, G, ht, rfl⟩, k⟩ := h
    obtain ⟨x, y, rfl, f1, f2⟩ := fv.I2
    refine ⟨_, (pss_cons (ps_set (i := 2) sc_computed.nd rfl (Or.inl rfl) (pe_callTy (k_tupOf (K := K)) (by rfl) T.n_tuple (by decide +kernel) (pa_cons (pe_lc (own := [("direction", 4)]) (g := gName 4) (tt := tYes) rfl sc_computed.nd (k_piL (K := K) (pe_c (cal_directions_of T) hr (by decide) rfl (pa_cons (pv 0) pa_nil))) (blkOk_by (N := ["graph", "tables", "messages", "turn", "direction"]) (sc := defScope s_computed) (by decide +kernel)) (fun _ _ _ _ _ => (pg_name (i := 4) sc_computed.nd rfl (Or.inl rfl))) (fun _ _ _ _ _ => pts_nil) (fun _ _ _ _ _ => (pe_tup pa_nil))) pa_nil)))
      (pss_cons (ps_for PassesOwn.never rfl (k_piT (K := K) (pe_ix (k_ixT (K := K)) (pv 0) pe_int (fun _ _ => rfl))) (pg_name (i := 3) sc_computed.nd rfl (Or.inl rfl))
        (pss_one (ps_set (i := 2) sc_computed.nd rfl (Or.inl rfl) (pe_c (cal_one_round T) hr (by decide) rfl (pa_cons (pv 0) (pa_cons (pv 1) (pa_cons (pv 2) pa_nil)))))))
      (pss_one (ps_ret (pv 2))))), ?_⟩
    have he3 := G.e3
    have hdl := dirs_len g
    refine s_asg (d := eMs (ms0 g)) ((e_tupL (EL.ef (el_map1 (xs := dirs g) (enc := eE) (g := fun _ => eM []) (w_list (EL.ef (e_callL (ea_cons (e_var rfl f1) ea_nil) ⟨g, rfl, by omega, rfl⟩))) (by omega) (fun _ _ => rfl) (fun p hp y1 H1 s1 g1 => e_tup ea_nil)))).is (by
      unfold eMs ms0
      rw [List.map_map]
      rfl)) fun v H1 s1 fv => ?_
    refine s_for (xs := g.scs) (enc := eR) (w_tup (e_ixT (e_var rfl (f1.same s1)) e_int (by rfl))) (fun B i σ' H' => ∃ v o3, σ' = [some x, some y, some v, o3, none] ∧ Same B H' ∧ Fz H' v (eMs (iter (round1 g tabs) i (ms0 g)))) (fun B sB => ⟨_, _, rfl, Same.refl _, fv.same sB⟩) (fun B i σ' H' sB ⟨_, _, _, s, _⟩ => s) ?_ ?_
    · rintro B i r σ' H' yr H2 sB hi ⟨v', o3, rfl, s2, f2'⟩ s3 fy
      have s0 := ((s1.trans sB).trans s2).trans s3
      refine s_asg1 (e_call (ea_cons (e_var rfl (f1.same s0)) (ea_cons (e_var rfl (f2.same s0)) (ea_cons (e_var rfl (f2'.same s3)) ea_nil))) ⟨g, tabs, _, rfl, G, ht, (iter_bd G ht i).ms G, rfl⟩) fun v'' H4 s4 f4 => ⟨_, _, rfl, (s2.trans s3).trans s4, ?_⟩
      rw [iter_succ]
      exact f4
    · rintro B σ' H' sB ⟨v', o3, rfl, s2, f2'⟩
      exact (e_var rfl f2').ret fun v'' H4 s4 f4 => k v'' H4 (((s1.trans sB).trans s2).trans s4) f4
end
end Tt

/-! A talk: its mirror, its lists in the heap. -/
namespace Tt
open PySem PySem.Spec PyProof.Rows L2 RZ
structure Tk where
  tabs : List Tab
  sent : List (List Msg)
  kept : List Nat
  way : List (Nat × Nat)
def Tk.snt (t : Tk) (i : Nat) : List Msg := t.sent.getD i []
def Tk.kpt (t : Tk) (i : Nat) : Nat := t.kept.getD i 0
def lastM (l : List Msg) : Msg := l.getD (l.length - 1) []
def Tk.km (t : Tk) : List Msg := (t.sent.zip t.kept).map fun p => p.1.getD p.2 []
def stepU (g : Gr) (ms : List Msg) (node : Nat) (st : Tk × Nat) (o : Nat) : Tk × Nat :=
  if required g st.1.tabs ms node o = lastM (st.1.snt (dix g node o)) then st
  else ({ st.1 with way := st.1.way ++ [(dix g node o, (st.1.snt (dix g node o)).length)], sent := st.1.sent.set (dix g node o) (st.1.snt (dix g node o) ++ [required g st.1.tabs ms node o]) }, st.2 + 1)
def updT (g : Gr) (t : Tk) (node : Nat) : Tk × Nat := (nbrs g node).foldl (stepU g t.km node) (t, 0)
def arrT (g : Gr) (t : Tk) (i n : Nat) : Tk × Nat := if n ≤ t.kpt i then (t, 0) else updT g { t with kept := t.kept.set i n } ((dirs g).getD i (0, 0)).2
/-! ### in the heap -/
structure Ad where
  s : Addr
  k : Addr
  w : Addr
  ss : List Addr
abbrev Ad.fp (A : Ad) : List Addr := A.s :: A.k :: A.w :: A.ss
def LM (H : Hp) (a : Addr) (m : List Msg) : Prop := ∃ xs, H a = some (.lst xs) ∧ FzAll H xs (m.map eM)
structure AR (H : Hp) (A : Ad) (t : Tk) : Prop where
  s : H A.s = some (.lst (A.ss.map V.ref))
  sent : Paired (LM H) A.ss t.sent
  k : H A.k = some (.lst (t.kept.map fun (n : Nat) => V.int (n : Int)))
  w : ∃ xs, H A.w = some (.lst xs) ∧ FzAll H xs (t.way.map eE)
  nd : A.fp.Nodup
/-- all but fp stands -/
def Fr (fp : List Addr) (H H' : Hp) : Prop := ∀ b o, b ∉ fp → H b = some o → H' b = some o
theorem Fr.refl (fp : List Addr) (H : Hp) : Fr fp H H := fun _ _ _ e => e
theorem Fr.trans {fp : List Addr} {H H1 H2 : Hp} (a : Fr fp H H1) (b : Fr fp H1 H2) : Fr fp H H2 := fun x o n e => b x o n (a x o n e)
theorem Fr.same {fp : List Addr} {H H' : Hp} (s : Same H H') : Fr fp H H' := fun b o _ e => s b o e
theorem fr_upd {fp : List Addr} {H : Hp} {p : Addr} {o : HO} (h : p ∈ fp) : Fr fp H (upd H p o) := fun b u n e => by
  rw [upd_ne (by rintro rfl; exact n h)]
  exact e
theorem Fr.sub {fp fq : List Addr} {H H' : Hp} (h : Fr fp H H') (k : ∀ b ∈ fp, b ∈ fq) : Fr fq H H' := fun b o n e => h b o (fun z => n (k b z)) e
theorem LM.same {H H' : Hp} {a : Addr} {m : List Msg} (h : LM H a m) (s : Same H H') : LM H' a m := by
  obtain ⟨xs, e, f⟩ := h
  exact ⟨xs, s _ _ e, f.same s⟩
theorem LM.fz {H : Hp} {a : Addr} {m : List Msg} (h : LM H a m) : Fz H (.ref a) (.list (m.map eM)) := by
  obtain ⟨xs, e, f⟩ := h
  exact .lst e f
theorem LM.move {H H' : Hp} {a : Addr} {m : List Msg} (h : LM H a m) (k : TK H H') (e : H' a = H a) : LM H' a m := by
  obtain ⟨xs, q, f⟩ := h
  exact ⟨xs, e.trans q, f.tk k (tupsB_map tb_eM)⟩
theorem paired_mem {α β : Type} {R S : α → β → Prop} {l : List α} {m : List β} (p : Paired R l m) (h : ∀ a ∈ l, ∀ b, R a b → S a b) : Paired S l m := by
  induction p with
  | nil => exact .nil
  | cons a t ih => exact .cons (h _ List.mem_cons_self _ a) (ih fun a ha => h a (List.mem_cons_of_mem _ ha))
theorem paired_getR {α β : Type} {R : α → β → Prop} : ∀ {l : List α} {m : List β} {i : Nat} {b : β}, Paired R l m → m[i]? = some b → ∃ a, l[i]? = some a ∧ R a b
  | _, _, _, _, .nil, h => by simp at h
  | _, _, 0, _, .cons h _, e => by
    simp at e
    subst e
    exact ⟨_, rfl, h⟩
  | _, _, i + 1, _, .cons _ t, e => by
    rw [List.getElem?_cons_succ] at e
    obtain ⟨b, h1, h2⟩ := paired_getR t e
    exact ⟨b, by rw [List.getElem?_cons_succ]; exact h1, h2⟩
theorem paired_set {α β : Type} {R : α → β → Prop} {b : β} : ∀ {l : List α} {m : List β} {i : Nat}, Paired R l m → (∀ a, l[i]? = some a → R a b) → Paired R l (m.set i b)
  | _, _, _, .nil, _ => .nil
  | _, _, 0, .cons h t, k => .cons (k _ rfl) t
  | _, _, i + 1, .cons h t, k => .cons h (paired_set t fun a e => k a (by rw [List.getElem?_cons_succ]; exact e))
section
variable {H H' : Hp} {A : Ad} {t : Tk}
theorem AR.same (h : AR H A t) (s : Same H H') : AR H' A t := ⟨s _ _ h.s, paired_mono (fun _ _ r => r.same s) h.sent, s _ _ h.k, let ⟨xs, e, f⟩ := h.w; ⟨xs, s _ _ e, f.same s⟩, h.nd⟩
theorem AR.move (h : AR H A t) (k : TK H H') (e : ∀ b ∈ A.fp, H' b = H b) : AR H' A t where
  s := (e _ (by simp)).trans h.s
  sent := paired_mem h.sent fun a ha m r => r.move k (e a (by simp [ha]))
  k := (e _ (by simp)).trans h.k
  w := let ⟨xs, q, f⟩ := h.w; ⟨xs, (e _ (by simp)).trans q, f.tk k (tupsB_map tb_eE)⟩
  nd := h.nd
theorem AR.lst (h : AR H A t) {b : Addr} (hb : b ∈ A.fp) : ∃ xs, H b = some (.lst xs) := by
  simp only [List.mem_cons] at hb
  rcases hb with rfl | rfl | rfl | hb
  · exact ⟨_, h.s⟩
  · exact ⟨_, h.k⟩
  · obtain ⟨xs, e, _⟩ := h.w
    exact ⟨xs, e⟩
  · obtain ⟨i, hi, rfl⟩ := List.mem_iff_getElem.mp hb
    obtain ⟨m, _, xs, e, _⟩ := paired_get h.sent (List.getElem?_eq_getElem hi)
    exact ⟨xs, e⟩
theorem AR.tk (h : AR H A t) (k : Fr A.fp H H') : TK H H' := fun b xs e => k b _ (fun hb => by
  obtain ⟨ys, q⟩ := h.lst hb
  rw [e] at q
  cases q) e
/-- what stood ahead -/
theorem AR.frSame {H0 : Hp} (s : Same H0 H) (n : ∀ b ∈ A.fp, H0 b = none) (k : Fr A.fp H H') : Same H0 H' := fun b o e => k b o (fun hb => by
  rw [n b hb] at e
  cases e) (s b o e)
theorem AR.fs (h : AR H A t) : Fz H (.ref A.s) (.list (t.sent.map fun m => .list (m.map eM))) := by
  refine .lst h.s ?_
  have := h.sent
  generalize A.ss = ss at this
  generalize t.sent = ms at this
  induction this with
  | nil => exact .nil
  | cons r _ ih => exact .cons r.fz ih
theorem AR.fk (h : AR H A t) : Fz H (.ref A.k) (.list (eNs t.kept)) := .lst h.k (fz_nats _ _)
theorem AR.fw (h : AR H A t) : Fz H (.ref A.w) (.list (t.way.map eE)) := let ⟨_, e, f⟩ := h.w; .lst e f
theorem nd_w (h : A.fp.Nodup) : A.s ≠ A.w ∧ A.k ≠ A.w ∧ A.s ≠ A.k ∧ (∀ a ∈ A.ss, a ≠ A.s ∧ a ≠ A.k ∧ a ≠ A.w) ∧ A.ss.Nodup := by
  simp only [Ad.fp, List.nodup_cons, List.mem_cons, not_or] at h
  obtain ⟨⟨h1, h2, h3⟩, ⟨h4, h5⟩, h6, h7⟩ := h
  exact ⟨h2, h4, h1, fun a ha => ⟨fun e => h3 (e ▸ ha), fun e => h5 (e ▸ ha), fun e => h6 (e ▸ ha)⟩, h7⟩
/-- on_way: any new list of pairs -/
theorem AR.setW (h : AR H A t) {xs : List V} {w' : List (Nat × Nat)} (f : FzAll H xs (w'.map eE)) : AR (upd H A.w (.lst xs)) A { t with way := w' } := by
  obtain ⟨ws, e, _⟩ := h.w
  have k := tk_upd (o' := .lst xs) e (fun xs z => by cases z)
  obtain ⟨n1, n2, n3, n4, _⟩ := nd_w h.nd
  exact ⟨by rw [upd_ne n1]; exact h.s, paired_mem h.sent fun a ha m r => r.move k (upd_ne (n4 a ha).2.2), by rw [upd_ne n2]; exact h.k, ⟨xs, upd_same, f.tk k (tupsB_map tb_eE)⟩, h.nd⟩
theorem AR.setK (h : AR H A t) (ks : List Nat) : AR (upd H A.k (.lst (ks.map fun (n : Nat) => V.int (n : Int)))) A { t with kept := ks } := by
  have k := tk_upd (o' := .lst (ks.map fun (n : Nat) => V.int (n : Int))) h.k (fun xs z => by cases z)
  obtain ⟨n1, n2, n3, n4, _⟩ := nd_w h.nd
  obtain ⟨ws, e, f⟩ := h.w
  exact ⟨by rw [upd_ne n3]; exact h.s, paired_mem h.sent fun a ha m r => r.move k (upd_ne (n4 a ha).2.1), upd_same, ⟨ws, by rw [upd_ne n2.symm]; exact e, f.tk k (tupsB_map tb_eE)⟩, h.nd⟩
theorem AR.setS (h : AR H A t) {i : Nat} {a : Addr} (ha : A.ss[i]? = some a) {xs : List V} {m : List Msg} (f : FzAll H xs (m.map eM)) : AR (upd H a (.lst xs)) A { t with sent := t.sent.set i m } := by
  have ham : a ∈ A.ss := List.mem_of_getElem? ha
  obtain ⟨ys, e⟩ := h.lst (b := a) (by simp [ham])
  have k := tk_upd (o' := .lst xs) e (fun xs z => by cases z)
  obtain ⟨n1, n2, n3, n4, n5⟩ := nd_w h.nd
  obtain ⟨ws, ew, fw⟩ := h.w
  refine ⟨by rw [upd_ne (n4 a ham).1.symm]; exact h.s, ?_, by rw [upd_ne (n4 a ham).2.1.symm]; exact h.k, ⟨ws, by rw [upd_ne (n4 a ham).2.2.symm]; exact ew, fw.tk k (tupsB_map tb_eE)⟩, h.nd⟩
  show Paired (LM (upd H a (.lst xs))) A.ss (t.sent.set i m)
  have hn := h.sent
  have f' : FzAll (upd H a (.lst xs)) xs (m.map eM) := f.tk k (tupsB_map tb_eM)
  have key : ∀ (ss : List Addr) (ms : List (List Msg)) (i : Nat), ss.Nodup → ss[i]? = some a → Paired (LM H) ss ms → Paired (LM (upd H a (.lst xs))) ss (ms.set i m) := by
    intro ss
    induction ss with
    | nil => intro ms i _ h _; simp at h
    | cons b ss ih =>
      intro ms i hnd hi p
      cases p with
      | cons r p =>
        rw [List.nodup_cons] at hnd
        cases i with
        | zero =>
          simp at hi
          subst hi
          exact .cons ⟨xs, upd_same, f'⟩ (paired_mem p fun c hc m r => r.move k (upd_ne (fun z => hnd.1 (z ▸ hc))))
        | succ i =>
          rw [List.getElem?_cons_succ] at hi
          exact .cons (r.move k (upd_ne (fun z => hnd.1 (z ▸ List.mem_of_getElem? hi)))) (ih _ i hnd.2 hi p)
  exact key _ _ _ n5 ha hn
theorem AR.ssAt (h : AR H A t) {i : Nat} (hi : i < t.sent.length) : ∃ a, A.ss[i]? = some a ∧ a ∈ A.fp ∧ LM H a (t.snt i) := by
  obtain ⟨a, h1, h2⟩ := paired_getR h.sent (List.getElem?_eq_getElem hi)
  have e : t.sent[i] = t.snt i := by simp [Tk.snt, List.getD_eq_getElem?_getD, hi]
  exact ⟨a, h1, by simp [List.mem_of_getElem? h1], e ▸ h2⟩
end
/-! ### the program's talk -/
def ftk (gv tv : V) (A : Ad) : List (Str × V) := [("graph", gv), ("tables", tv), ("sent", .ref A.s), ("kept", .ref A.k), ("on_way", .ref A.w)]
structure PT (K : PySem.W.Frag) (H : Hp) (a : Addr) (A : Ad) (g : Gr) (t : Tk) : Prop where
  i : ∃ dx gv tv, H a = some (.ins (CTalk K) dx (ftk gv tv A)) ∧ Fz H gv (eG g) ∧ Fz H tv (eTabs t.tabs)
  r : AR H A t
section
variable {K : PySem.W.Frag} {mg : Str → Option Value} {H H' : Hp} {A : Ad} {t : Tk} {a : Addr} {g : Gr} {σ : L2.St} {td : TE}
theorem PT.out (h : PT K H a A g t) : a ∉ A.fp := fun hb => by
  obtain ⟨xs, e⟩ := h.r.lst hb
  obtain ⟨_, _, _, q, _⟩ := h.i
  rw [q] at e
  cases e
theorem PT.same (h : PT K H a A g t) (s : Same H H') : PT K H' a A g t := by
  obtain ⟨dx, gv, tv, e, f1, f2⟩ := h.i
  exact ⟨⟨dx, gv, tv, s _ _ e, f1.same s, f2.same s⟩, h.r.same s⟩
/-- with the lists changed -/
theorem PT.with (h : PT K H a A g t) {t' : Tk} (k : Fr A.fp H H') (r : AR H' A t') (e : t'.tabs = t.tabs) : PT K H' a A g t' := by
  obtain ⟨dx, gv, tv, q, f1, f2⟩ := h.i
  have tk := h.r.tk k
  exact ⟨⟨dx, gv, tv, k _ _ h.out q, f1.tk tk (tb_eG _), by rw [e]; exact f2.tk tk (tb_eTabs _)⟩, r⟩
theorem e_fld {C dx : Addr} {fs : List (Str × V)} {f : Str} {v : V} {d : PyData} (hd : AtD td σ H a) (e : H a = some (.ins C dx fs)) (c : Cls K C) (n : NoAttr K C f) (l : fs.lookup f = some v) (fv : Fz H v d) : EF (tFld K td f) σ H d := fun H1 s Q q =>
  hd H1 s _ ⟨a, C, dx, fs, v, rfl, s _ _ e, c, n, l, q v H1 (Same.refl _) (fv.same s)⟩
theorem at_fld {C dx p : Addr} {fs : List (Str × V)} {f : Str} (hd : AtD td σ H a) (e : H a = some (.ins C dx fs)) (c : Cls K C) (n : NoAttr K C f) (l : fs.lookup f = some (.ref p)) : AtD (tFld K td f) σ H p := fun H1 s Q q =>
  hd H1 s _ ⟨a, C, dx, fs, .ref p, rfl, s _ _ e, c, n, l, q⟩
theorem PT.e_graph (h : PT K H a A g t) (T : Tx K mg) (hd : AtD td σ H a) : EF (tFld K td "graph") σ H (eG g) := by
  obtain ⟨dx, gv, tv, e, f1, f2⟩ := h.i
  exact e_fld hd e T.cls_Talk T.no_Talk_graph rfl f1
theorem PT.e_tables (h : PT K H a A g t) (T : Tx K mg) (hd : AtD td σ H a) : EF (tFld K td "tables") σ H (eTabs t.tabs) := by
  obtain ⟨dx, gv, tv, e, f1, f2⟩ := h.i
  exact e_fld hd e T.cls_Talk T.no_Talk_tables rfl f2
theorem PT.a_sent (h : PT K H a A g t) (T : Tx K mg) (hd : AtD td σ H a) : AtD (tFld K td "sent") σ H A.s := by
  obtain ⟨dx, gv, tv, e, f1, f2⟩ := h.i
  exact at_fld hd e T.cls_Talk T.no_Talk_sent rfl
theorem PT.a_kept (h : PT K H a A g t) (T : Tx K mg) (hd : AtD td σ H a) : AtD (tFld K td "kept") σ H A.k := by
  obtain ⟨dx, gv, tv, e, f1, f2⟩ := h.i
  exact at_fld hd e T.cls_Talk T.no_Talk_kept rfl
theorem PT.a_way (h : PT K H a A g t) (T : Tx K mg) (hd : AtD td σ H a) : AtD (tFld K td "on_way") σ H A.w := by
  obtain ⟨dx, gv, tv, e, f1, f2⟩ := h.i
  exact at_fld hd e T.cls_Talk T.no_Talk_on_way rfl
theorem at_e {p : Addr} {d : PyData} {te : TE} (h : AtD te σ H p) (f : Fz H (.ref p) d) : EF te σ H d := fun H1 s Q q => h H1 s _ (q _ H1 (Same.refl _) (f.same s))
/-- xs[i] of a list of lists -/
theorem at_ix {p q : Addr} {ps : List Addr} {ta : TE} {i : Nat} (ha : AtD ta σ H p) (e : H p = some (.lst (ps.map V.ref))) (hi : σ[i]? = some (some (.int (j : Nat)))) (hq : ps[j]? = some q) : AtD (tOp (rIxL K) ta (tVar i)) σ H q := fun H1 s Q k =>
  ha H1 s _ ⟨_, hi, p, _, _, .ref q, rfl, rfl, SqL.of (s _ _ e), atI_nat (by rw [List.getElem?_map, hq]; rfl), k⟩
end
end Tt

/-! What a talk's steps keep. -/
namespace Tt
open PySem
/-- t' is t with messages put behind, pairs put behind -/
structure Gro (t t' : Tk) (n : Nat) : Prop where
  tabs : t'.tabs = t.tabs
  kept : t'.kept = t.kept
  sl : t'.sent.length = t.sent.length
  pre : ∀ i, t.snt i <+: t'.snt i
  le : ∀ i, (t'.snt i).length ≤ (t.snt i).length + n
  way : t.way <+: t'.way
  wl : t'.way.length ≤ t.way.length + n
theorem Gro.refl (t : Tk) : Gro t t 0 := ⟨rfl, rfl, rfl, fun _ => List.prefix_refl _, fun _ => Nat.le_refl _, List.prefix_refl _, Nat.le_refl _⟩
theorem Gro.trans {t t1 t2 : Tk} {n m : Nat} (a : Gro t t1 n) (b : Gro t1 t2 m) : Gro t t2 (n + m) := ⟨b.tabs.trans a.tabs, b.kept.trans a.kept, b.sl.trans a.sl, fun i => (a.pre i).trans (b.pre i), fun i => by
  have := a.le i
  have := b.le i
  omega, a.way.trans b.way, by
  have := a.wl
  have := b.wl
  omega⟩
theorem Gro.mono {t t1 : Tk} {n m : Nat} (a : Gro t t1 n) (h : n ≤ m) : Gro t t1 m := ⟨a.tabs, a.kept, a.sl, a.pre, fun i => Nat.le_trans (a.le i) (by omega), a.way, Nat.le_trans a.wl (by omega)⟩
theorem snt_set {t : Tk} {i j : Nat} {l : List Msg} (hi : i < t.sent.length) : ({ t with sent := t.sent.set i l } : Tk).snt j = if i = j then l else t.snt j := by
  unfold Tk.snt
  simp only [List.getD_eq_getElem?_getD, List.getElem?_set]
  by_cases e : i = j
  · subst e
    simp [hi]
  · simp [e]
/-- what a step puts behind -/
theorem snt_put {t : Tk} {i j : Nat} {l : List Msg} {w : List (Nat × Nat)} (hi : i < t.sent.length) : (Tk.mk t.tabs (t.sent.set i l) t.kept w).snt j = if i = j then l else t.snt j := snt_set hi
theorem stepU_gro (g : Gr) (ms : List Msg) (node : Nat) (st : Tk × Nat) (o : Nat) (h : dix g node o < st.1.sent.length) : Gro st.1 (stepU g ms node st o).1 1 := by
  unfold stepU
  split
  · exact (Gro.refl _).mono (by omega)
  · refine ⟨rfl, rfl, List.length_set .., fun i => ?_, fun i => ?_, List.prefix_append .., by simp⟩
    · rw [snt_put h]
      split
      · rename_i e
        rw [e]
        exact List.prefix_append ..
      · exact List.prefix_refl _
    · rw [snt_put h]
      split
      · rename_i e
        rw [e, List.length_append]
        exact Nat.le_refl _
      · omega
theorem foldU_gro (g : Gr) (ms : List Msg) (node : Nat) : ∀ (l : List Nat) (st : Tk × Nat), (∀ o ∈ l, dix g node o < st.1.sent.length) → Gro st.1 (l.foldl (stepU g ms node) st).1 l.length
  | [], st, _ => Gro.refl _
  | o :: l, st, h => by
    have h1 := stepU_gro g ms node st o (h o List.mem_cons_self)
    have h2 := foldU_gro g ms node l (stepU g ms node st o) (fun o' ho' => by rw [h1.sl]; exact h o' (List.mem_cons_of_mem _ ho'))
    rw [List.foldl_cons, List.length_cons]
    exact (h1.trans h2).mono (by omega)
theorem foldU_take (g : Gr) (ms : List Msg) (node : Nat) (l : List Nat) (st : Tk × Nat) (h : ∀ o ∈ l, dix g node o < st.1.sent.length) (i : Nat) : Gro ((l.take i).foldl (stepU g ms node) st).1 (l.foldl (stepU g ms node) st).1 l.length := by
  have e : l = l.take i ++ l.drop i := (List.take_append_drop i l).symm
  have h1 := foldU_gro g ms node (l.take i) st fun o ho => h o (List.mem_of_mem_take ho)
  have h2 := foldU_gro g ms node (l.drop i) ((l.take i).foldl (stepU g ms node) st) fun o ho => by
    rw [h1.sl]
    exact h o (List.mem_of_mem_drop ho)
  rw [← List.foldl_append, List.take_append_drop] at h2
  exact h2.mono (by rw [List.length_drop]; omega)
theorem foldU_cnt (g : Gr) (ms : List Msg) (node : Nat) : ∀ (l : List Nat) (st : Tk × Nat), st.2 ≤ (l.foldl (stepU g ms node) st).2 ∧ (l.foldl (stepU g ms node) st).2 ≤ st.2 + l.length
  | [], st => ⟨Nat.le_refl _, Nat.le_refl _⟩
  | o :: l, st => by
    have h := foldU_cnt g ms node l (stepU g ms node st o)
    have h1 : st.2 ≤ (stepU g ms node st o).2 ∧ (stepU g ms node st o).2 ≤ st.2 + 1 := by
      unfold stepU
      split
      · omega
      · exact ⟨by show st.2 ≤ st.2 + 1; omega, Nat.le_refl _⟩
    rw [List.foldl_cons, List.length_cons]
    omega
end Tt

namespace Tt
open PySem PySem.Spec PyProof.Rows L2 RZ
open C8 (Cal Met Mak pe_c pe_mk pe_mt pe_mt0 pe_gc)
section
variable {P : Program} {w : World} {K : PySem.W.Frag} {mg : Str → Option Value} {base : Heap}
/-- the numbers kept are the lists' places -/
structure Fit (g : Gr) (t : Tk) : Prop where
  sl : t.sent.length = (dirs g).length
  kl : t.kept.length = (dirs g).length
  kb : ∀ i, i < (dirs g).length → t.kpt i < (t.snt i).length
  sb : ∀ i, (t.snt i).length ≤ 90000
theorem Fit.zip {g : Gr} {t : Tk} (F : Fit g t) {p : List Msg × Nat} (h : p ∈ t.sent.zip t.kept) : p.2 < p.1.length ∧ p.1.length ≤ 90000 := by
  obtain ⟨i, hi, rfl⟩ := List.mem_iff_getElem.mp h
  rw [List.length_zip] at hi
  have h1 := F.kb i (by have := F.sl; omega)
  have h2 := F.sb i
  rw [List.getElem_zip]
  simp only [Tk.kpt, Tk.snt, List.getD_eq_getElem?_getD, List.getElem?_eq_getElem (show i < t.sent.length by omega), List.getElem?_eq_getElem (show i < t.kept.length by omega), Option.getD_some] at h1 h2
  exact ⟨h1, h2⟩
theorem Fit.dl {g : Gr} {t : Tk} (G : GOK g) (F : Fit g t) : t.sent.length ≤ 6 ∧ t.kept.length = t.sent.length := by
  have h1 := F.sl
  have h2 := F.kl
  have h3 := dirs_len g
  have h4 := G.e3
  omega
theorem km_len (t : Tk) : t.km.length = min t.sent.length t.kept.length := by
  unfold Tk.km
  rw [List.length_map, List.length_zip]
def spKm (K : PySem.W.Frag) : Sp := fun vs H Q E => ∃ a A g t, vs = [.ref a] ∧ PT K H a A g t ∧ GOK g ∧ Fit g t ∧ ∀ v H', Same H H' → Fz H' v (eMs t.km) → Q v H'
theorem w_sk {σ : L2.St} {H : Hp} {ts tk : TE} {t : Tk} (hs : EF ts σ H (.list (t.sent.map fun m => .list (m.map eM)))) (hk : EF tk σ H (.list (eNs t.kept))) (hl : t.sent.length = t.kept.length) :
    WF (iZip K (tCons ts (tCons tk tNil))) σ H ((t.sent.zip t.kept).map fun p => .tuple [.list (p.1.map eM), eN p.2]) :=
  (w_zipL (ea_cons hs (ea_cons hk ea_nil)) (by rw [List.length_map, List.length_map, hl])).is (by
    rw [List.zip_map, List.map_map]
    rfl)
theorem m_go {σ : L2.St} {H : Hp} {C a dx : Addr} {m : Str} {fs : List (Str × V)} {sp : Sp} {E : XK} {ta : TE} {tt : TA} {ds : List PyData} {Q : VK} (ha : AtD ta σ H a) (e : H a = some (.ins C dx fs)) (l : fs.lookup m = none) (h : EFA tt σ H ds)
    (k : ∀ vs H1, Same H H1 → FzAll H1 vs ds → sp (.ref a :: vs) H1 Q E) : tMeth C m sp [] E ta tt σ H Q :=
  ha H (Same.refl H) _ ⟨a, dx, fs, rfl, e, l, h.go fun vs H1 s f => by
    rw [List.append_nil]
    exact k vs H1 s f⟩
theorem s_dropK {σ : L2.St} {H : Hp} {te : TE} {w : TS} {D : Ends} (h : te σ H fun _ H1 => w D σ H1) : tSeq (tDrop te) w D σ H := h
theorem sc_Talk_kept_messages : FnScope ["self", "row", "number"] ["self"] (defScope s_Talk_kept_messages) := ⟨rfl, rfl, rfl, by decide +kernel, rfl, by decide +kernel, by decide +kernel⟩
theorem met_Talk_kept_messages (T : Tx K mg) : Met P w K mg base 1 (CTalk K) "kept_messages" (spKm K) [] :=
  T.met 68 rfl T.cls_Talk T.me_Talk_kept_messages sc_Talk_kept_messages (fun _ _ _ _ _ _ us hl => match us, hl with | [_], _ => rfl) (fun vs H Q E ⟨_, _, _, _, e, _⟩ => by rw [e]; rfl) fun f cdv A' outer s H vs Q E hr h => by
    obtain ⟨a, A, g, t, rfl, pt, G, F, k⟩ := h
    refine ⟨_, (pss_one (ps_ret (pe_callTy (k_tupOf (K := K)) (by rfl) T.n_tuple (by decide +kernel) (pa_cons (pe_lc (own := [("row", 1), ("number", 2)]) (g := g2 K 1 2) (tt := tYes) rfl sc_Talk_kept_messages.nd (k_piZip (K := K) (by rfl) T.n_zip (pa_cons (k_fld (K := K) (pv 0)) (pa_cons (k_fld (K := K) (pv 0)) pa_nil))) (blkOk_by (N := ["self", "row", "number"]) (sc := defScope s_Talk_kept_messages) (by decide +kernel)) (fun _ _ _ _ _ => (k_tg (K := K) (n := 2) (pgs_cons (pg_name (i := 1) sc_Talk_kept_messages.nd rfl (Or.inl rfl)) (pgs_cons (pg_name (i := 2) sc_Talk_kept_messages.nd rfl (Or.inl rfl)) pgs_nil)))) (fun _ _ _ _ _ => pts_nil) (fun _ _ _ _ _ => (pe_ix (k_ixL (K := K)) (pv 1) (pv 2) (fun _ _ => rfl)))) pa_nil)))), ?_⟩
    have hd := F.dl G
    refine EF.ret ((e_tupL (EL.ef (el_map2 (xs := t.sent.zip t.kept) (e1 := fun p => .list (p.1.map eM)) (e2 := fun p => eN p.2) (g := fun p => eM (p.1.getD p.2 [])) (w_sk (at_e (pt.a_sent T (at_var rfl)) pt.r.fs) (at_e (pt.a_kept T (at_var rfl)) pt.r.fk) hd.2.symm) (by rw [List.length_zip]; omega) (fun _ _ => tb_eM _) (fun p hp y1 y2 H1 s1 g1 g2 =>
      e_ixL (e_var rfl g1) (e_var rfl g2) (map_at [] (F.zip hp).1))))).is ?_) k
    unfold eMs Tk.km
    rw [List.map_map]
    rfl
def spPut (K : PySem.W.Frag) : Sp := fun vs H Q E => ∃ a A g t i n, vs = [.ref a, .int (i : Nat), .int (n : Nat)] ∧ PT K H a A g t ∧ t.way.length < 40 ∧ ∀ H', Fr A.fp H H' → PT K H' a A g { t with way := t.way ++ [(i, n)] } → Q .non H'
theorem sc_Talk_put : FnScope ["self", "place", "number"] ["self", "place", "number"] (defScope s_Talk_put) := ⟨rfl, rfl, rfl, by decide +kernel, rfl, by decide +kernel, by decide +kernel⟩
theorem met_Talk_put (T : Tx K mg) : Met P w K mg base 1 (CTalk K) "put" (spPut K) [] :=
  T.met 69 rfl T.cls_Talk T.me_Talk_put sc_Talk_put (fun _ _ _ _ _ _ us hl => match us, hl with | [_, _, _], _ => rfl) (fun vs H Q E ⟨_, _, _, _, _, _, e, _⟩ => by rw [e]; rfl) fun f cdv A' outer s H vs Q E hr h => by
    obtain ⟨a, A, g, t, i, n, rfl, pt, hw, k⟩ := h
    refine ⟨_, (pss_cons (ps_if (pt_cmpR op_ge (pe_callB (k_len (K := K)) (by rfl) T.n_len (by decide +kernel) (pa_cons (k_fld (K := K) (pv 0)) pa_nil)) (pe_gc (by rfl) T.c_MOST_ON_WAY) (nomark _)) (pss_one ps_never) pss_nil)
      (pss_one (ps_expr (k_bm (K := K) PySem.F.plainAttrs_list PySem.F.slot_list_append PySem.F.type_list_append mt_append (k_fld (K := K) (pv 0)) (pa_cons (pe_tup (pa_cons (pv 1) (pa_cons (pv 2) pa_nil))) pa_nil))))), ?_⟩
    refine s_ifQ (t_test (e_ge (e_lenL (at_e (pt.a_way T (at_var rfl)) pt.r.fw)) e_gl)) (fun h => nohold h (by simp; omega)) fun _ H1 s1 => ?_
    have pt1 := pt.same s1
    obtain ⟨xs, ew, fw⟩ := pt1.r.w
    refine s_appV (Q := fun _ _ => True) ew (pt1.a_way T (at_var rfl)) (e_tup (ea_cons (e_var rfl (.int _)) (ea_cons (e_var rfl (.int _)) ea_nil))) (by rw [fw.len, List.length_map]; omega) fun v H2 s2 fv => ?_
    have pt2 := pt1.same s2
    have fr : Fr A.fp H2 (upd H2 A.w (.lst (xs ++ [v]))) := fr_upd (by simp)
    refine k _ ((Fr.same (s1.trans s2)).trans fr) (pt2.with fr (pt2.r.setW ?_) rfl)
    rw [List.map_append]
    exact (fw.same s2).snoc fv
def spUpd (K : PySem.W.Frag) : Sp := fun vs H Q E => ∃ a A g t node, vs = [.ref a, .int (node : Nat)] ∧ PT K H a A g t ∧ GOK g ∧ node < g.n ∧ TabsOK g t.tabs ∧ MsOK g t.km ∧ Fit g t ∧ (updT g t node).1.way.length ≤ 40 ∧
  ∀ H', Fr A.fp H H' → PT K H' a A g (updT g t node).1 → Q (.int ((updT g t node).2 : Nat)) H'
theorem e_neg1 {σ : L2.St} {H : Hp} : EF (tUn (rU fun i => .int (-i)) (tC (.int 1))) σ H (.int (-1)) := fun H1 a Q q => ⟨1, rfl, q _ H1 (Same.refl _) (.int _)⟩
theorem last_at {l : List Msg} (h : 0 < l.length) : atI (l.map eM) (-1) = some (eM (lastM l)) := by
  unfold atI ixN
  rw [if_neg (by decide), if_pos (by rw [List.length_map]; omega)]
  show (l.map eM)[_]? = _
  have e : ((-1 : Int) + ((l.map eM).length : Int)).toNat = l.length - 1 := by
    rw [List.length_map]
    omega
  rw [e, List.getElem?_map, List.getElem?_eq_getElem (by omega)]
  simp [lastM, List.getD_eq_getElem?_getD, List.getElem?_eq_getElem (show l.length - 1 < l.length by omega)]
theorem sc_Talk_update : FnScope ["self", "node", "directions", "kept", "count", "other", "place", "message"] ["self", "node"] (defScope s_Talk_update) := ⟨rfl, rfl, rfl, by decide +kernel, rfl, by decide +kernel, by decide +kernel⟩
theorem met_Talk_update (T : Tx K mg) : Met P w K mg base 5 (CTalk K) "update" (spUpd K) [] :=
  T.met 70 rfl T.cls_Talk T.me_Talk_update sc_Talk_update (fun _ _ _ _ _ _ us hl => match us, hl with | [_, _], _ => rfl) (fun vs H Q E ⟨_, _, _, _, _, e, _⟩ => by rw [e]; rfl) fun f cdv A' outer s H vs Q E hr h => by
    obtain ⟨a, A, g, t, node, rfl, pt, G, hn, ht, hm, F, hw, k⟩ := h
    refine ⟨_, (pss_cons (ps_set (i := 2) sc_Talk_update.nd rfl (Or.inl rfl) (pe_c (cal_directions_of T) hr (by decide) rfl (pa_cons (k_fld (K := K) (pv 0)) pa_nil)))
      (pss_cons (ps_set (i := 3) sc_Talk_update.nd rfl (Or.inl rfl) (pe_mt0 (met_Talk_kept_messages T) hr (by decide) (pv 0)))
      (pss_cons (ps_set (i := 4) sc_Talk_update.nd rfl (Or.inl rfl) pe_int)
      (pss_cons (ps_for PassesOwn.never rfl (k_piT (K := K) (pe_c (cal_neighbours T) hr (by decide) rfl (pa_cons (k_fld (K := K) (pv 0)) (pa_cons (pv 1) pa_nil)))) (pg_name (i := 5) sc_Talk_update.nd rfl (Or.inl rfl))
        (pss_cons (ps_set (i := 6) sc_Talk_update.nd rfl (Or.inl rfl) (k_bm (K := K) PySem.F.plainAttrs_list PySem.F.slot_list_index PySem.F.type_list_index (k_index (K := K) (hu65 hr)) (pv 2) (pa_cons (pe_tup (pa_cons (pv 1) (pa_cons (pv 5) pa_nil))) pa_nil)))
        (pss_cons (ps_set (i := 7) sc_Talk_update.nd rfl (Or.inl rfl) (pe_c (cal_required T) hr (by decide) rfl (pa_cons (k_fld (K := K) (pv 0)) (pa_cons (k_fld (K := K) (pv 0)) (pa_cons (pv 3) (pa_cons (pv 1) (pa_cons (pv 5) pa_nil)))))))
        (pss_one (ps_if (pt_cmpR (k_neD (K := K) hr.units) (pv 7) (pe_ix (k_ixL (K := K)) (pe_ix (k_ixL (K := K)) (k_fld (K := K) (pv 0)) (pv 6) (fun _ _ => rfl)) (pe_un un_neg pe_int) (fun _ _ => rfl)) (nomark _)) (pss_cons (ps_expr (pe_mt (met_Talk_put T) hr (by decide) (pv 0) (pa_cons (pv 6) (pa_cons (pe_callB (k_len (K := K)) (by rfl) T.n_len (by decide +kernel) (pa_cons (pe_ix (k_ixL (K := K)) (k_fld (K := K) (pv 0)) (pv 6) (fun _ _ => rfl)) pa_nil)) pa_nil))))
          (pss_cons (ps_expr (k_bm (K := K) PySem.F.plainAttrs_list PySem.F.slot_list_append PySem.F.type_list_append mt_append (pe_ix (k_ixL (K := K)) (k_fld (K := K) (pv 0)) (pv 6) (fun _ _ => rfl)) (pa_cons (pv 7) pa_nil)))
          (pss_one (ps_set (i := 4) sc_Talk_update.nd rfl (Or.inl rfl) (pe_op op_add (pv 4) pe_int))))) pss_nil)))))
      (pss_one (ps_ret (pv 4))))))), ?_⟩
    have he3 := G.e3
    have hdl := dirs_len g
    have hin : ∀ o ∈ nbrs g node, dix g node o < t.sent.length := fun o ho => by
      rw [F.sl]
      exact dix_lt (nbr_dir ho).2
    refine s_asgL (e_callL (ea_cons (pt.e_graph T (at_var rfl)) ea_nil) ⟨g, rfl, by omega, rfl⟩) fun pd xd H1 nd s1 ed fd => ?_
    have hpd : pd ∉ A.fp := fun hb => by
      obtain ⟨ys, e⟩ := pt.r.lst hb
      rw [nd] at e
      cases e
    have pt1 := pt.same s1
    obtain ⟨dx, gv, tv, ei, fg, ft⟩ := pt1.i
    refine s_asgK (m_go (at_var rfl) ei rfl ea_nil fun vs1 H1b s1b f1b => ?_)
    cases f1b
    refine ⟨a, A, g, t, rfl, pt1.same s1b, G, F, fun vk H2 s2b fk => ?_⟩
    have s2 := s1b.trans s2b
    have pt2 := pt1.same s2
    refine s_asg (d := .int 0) e_int fun vc H3 s3 fc => ?_
    obtain rfl := fc.intI
    have pt3 := pt2.same s3
    have s13 := (s1.trans s2).trans s3
    refine s_forT (xs := nbrs g node) (enc := eN) (wt_tup (e_call (ea_cons (pt3.e_graph T (at_var rfl)) (ea_cons (e_var rfl (.int _)) ea_nil)) ⟨g, node, rfl, G, rfl⟩) (tbN _)) (fun B i σ' H' => ∃ (c : Nat) (o5 o6 o7 : Option V), σ' = [some (.ref a), some (.int (node : Nat)), some (.ref pd), some vk, some (.int (c : Nat)), o5, o6, o7] ∧ c = (((nbrs g node).take i).foldl (stepU g t.km node) (t, 0)).2 ∧ PT K H' a A g (((nbrs g node).take i).foldl (stepU g t.km node) (t, 0)).1 ∧ Fr A.fp H H' ∧ Fr A.fp B H')
      (fun B sB => ⟨0, _, _, _, rfl, rfl, pt3.same sB, Fr.same (s13.trans sB), Fr.refl _ _⟩) (fun B i σ' H' sB ⟨_, _, _, _, _, _, _, _, fr⟩ => (pt3.same sB).r.tk fr) ?_ ?_
    · rintro B i o σ' H' y H4 sB hi ⟨c, o5, o6, o7, rfl, hc, pt', frH, frB⟩ s4 fy
      have ho : o ∈ nbrs g node := List.mem_of_getElem? hi
      have hd := (nbr_dir ho).2
      have ho2 := (G.dlt hd).2
      have tkB : TK B H' := (pt3.same sB).r.tk frB
      have sdB : Same H1 B := (s2.trans s3).trans sB
      have fd4 : Fz H4 (.ref pd) (.list ((dirs g).map eE)) := .lst (s4 _ _ (frB _ _ hpd (sdB _ _ ed))) (((fd.same sdB).tk tkB (tupsB_map tb_eE)).same s4)
      have fk4 : Fz H4 vk (eMs t.km) := (((fk.same s3).same sB).tk tkB (tb_eMs _)).same s4
      have pt4 := pt'.same s4
      have gr := foldU_gro g t.km node ((nbrs g node).take i) (t, 0) (fun o ho => hin o (List.mem_of_mem_take ho))
      have gr2 := foldU_gro g t.km node ((nbrs g node).take (i + 1)) (t, 0) (fun o ho => hin o (List.mem_of_mem_take ho))
      have gr3 := foldU_take g t.km node (nbrs g node) (t, 0) hin (i + 1)
      have hstep : ((nbrs g node).take (i + 1)).foldl (stepU g t.km node) (t, 0) = stepU g t.km node (((nbrs g node).take i).foldl (stepU g t.km node) (t, 0)) o := by
        rw [List.take_add_one, hi, List.foldl_append]
        rfl
      rw [hstep] at gr3
      generalize hst : ((nbrs g node).take i).foldl (stepU g t.km node) (t, 0) = st at *
      obtain ⟨t', c'⟩ := st
      simp only at hc gr pt4
      subst hc
      have hix : dix g node o < t'.sent.length := by
        rw [gr.sl]
        exact hin o ho
      have hkb := F.kb _ (dix_lt hd)
      have hlen1 : 0 < (t'.snt (dix g node o)).length := by
        have := (gr.pre (dix g node o)).length_le
        omega
      have hnl := nbrs_len g node
      have hlen2 : (t'.snt (dix g node o)).length ≤ 90010 := by
        have h1 := gr.le (dix g node o)
        have h2 := F.sb (dix g node o)
        rw [List.length_take] at h1
        omega
      obtain ⟨pa, hpa, hpaf, hlm⟩ := pt4.r.ssAt hix
      refine s_asg (e_index (e_var rfl fd4) (e_tup (ea_cons (e_var rfl (.int _)) (ea_cons (e_var rfl fy) ea_nil))) hd) fun vp H5 s5 fp => ?_
      obtain rfl := fp.intI
      have pt5 := pt4.same s5
      have htab : TabsOK g t'.tabs := by
        rw [gr.tabs]
        exact ht
      refine s_asg (e_call (ea_cons (pt5.e_graph T (at_var rfl)) (ea_cons (pt5.e_tables T (at_var rfl)) (ea_cons (e_var rfl (fk4.same s5)) (ea_cons (e_var rfl (.int _)) (ea_cons (e_var rfl (fy.same s5)) ea_nil))))) ⟨g, t'.tabs, t.km, node, o, rfl, G, hn, ho2, htab, hm, rfl⟩) fun vm H6 s6 fm => ?_
      have pt6 := pt5.same s6
      have hsn : atI (t'.sent.map fun m => PyData.list (m.map eM)) ((dix g node o : Nat) : Int) = some (PyData.list ((t'.snt (dix g node o)).map eM)) := map_at (f := fun m : List Msg => PyData.list (m.map eM)) [] hix
      have e_last : ∀ {H7 : Hp}, Same H6 H7 → EF (tOp (rIxL K) (tOp (rIxL K) (tFld K (tVar 0) "sent") (tVar 6)) (tUn (rU fun i => .int (-i)) (tC (.int 1)))) [some (.ref a), some (.int (node : Nat)), some (.ref pd), some vk, some (.int (c : Nat)), some y, some (.int (dix g node o : Nat)), some vm] H7 (eM (lastM (t'.snt (dix g node o)))) := fun {H7} s7 =>
        e_ixL (e_ixL (at_e ((pt6.same s7).a_sent T (at_var rfl)) (pt6.same s7).r.fs) (e_var rfl (.int _)) hsn) e_neg1 (last_at hlen1)
      refine s_if (t_test (e_neM (e_var rfl fm) (e_last (Same.refl _)))) (fun hne H7 s7 => ?_) (fun heq H7 s7 => ?_)
      · have hne' : required g t'.tabs t.km node o ≠ lastM (t'.snt (dix g node o)) := by simpa using hne
        have hstU : stepU g t.km node (t', c) o = ({ t' with way := t'.way ++ [(dix g node o, (t'.snt (dix g node o)).length)], sent := t'.sent.set (dix g node o) (t'.snt (dix g node o) ++ [required g t'.tabs t.km node o]) }, c + 1) := by
          unfold stepU
          rw [if_neg hne']
        have pt7 := pt6.same s7
        have hwl : t'.way.length < 40 := by
          have h1 := gr3.way.length_le
          rw [hstU] at h1
          have h2 : (t'.way ++ [(dix g node o, (t'.snt (dix g node o)).length)]).length ≤ (updT g t node).1.way.length := h1
          rw [List.length_append, List.length_singleton] at h2
          omega
        obtain ⟨dx7, gv7, tv7, ei7, _, _⟩ := pt7.i
        refine s_dropK (m_go (at_var rfl) ei7 rfl (ea_cons (e_var rfl (.int _)) (ea_cons (e_lenL (e_ixL (at_e (pt7.a_sent T (at_var rfl)) pt7.r.fs) (e_var rfl (.int _)) hsn)) ea_nil)) fun vs8 H8 s8 f8 => ?_)
        obtain ⟨v1, v2, rfl, f81, f82⟩ := f8.I2
        obtain rfl := f81.intI
        obtain rfl := f82.intI
        have pt8 := pt7.same s8
        refine ⟨a, A, g, t', dix g node o, (t'.snt (dix g node o)).length, by rw [List.length_map]; rfl, pt8, hwl, fun H9 fr9 pt9 => ?_⟩
        obtain ⟨pa9, hpa9, hpaf9, hlm9⟩ := pt9.r.ssAt (i := dix g node o) hix
        obtain ⟨xs9, e9, f9⟩ := hlm9
        have fm9 : Fz H9 vm (eM (required g t'.tabs t.km node o)) := ((fm.same s7).same s8).tk (pt8.r.tk fr9) (tb_eM _)
        refine s_appV (Q := fun _ _ => True) e9 (at_ix (j := dix g node o) (pt9.a_sent T (at_var rfl)) pt9.r.s rfl hpa9) (e_var rfl fm9) ?_ fun vq H10 s10 fq => ?_
        · rw [f9.len, List.length_map]
          show (t'.snt (dix g node o)).length < 100000
          omega
        have pt10 := pt9.same s10
        have fr11 : Fr A.fp H10 (upd H10 pa9 (.lst (xs9 ++ [vq]))) := fr_upd hpaf9
        have pt11 := pt10.with fr11 (pt10.r.setS hpa9 (m := t'.snt (dix g node o) ++ [required g t'.tabs t.km node o]) (by
          rw [List.map_append]
          exact (f9.same s10).snoc fq)) rfl
        refine s_asg1 (d := .int ((c + 1 : Nat) : Int)) ((e_add (e_var rfl (.int _)) e_int).is (by simp)) fun vc H12 s12 fc => ?_
        obtain rfl := fc.intI
        have s48 := (((s4.trans s5).trans s6).trans s7).trans s8
        have frAll : Fr A.fp H' H12 := (((Fr.same s48).trans fr9).trans ((Fr.same s10).trans fr11)).trans (Fr.same s12)
        refine ⟨c + 1, _, _, _, rfl, ?_, ?_, frH.trans frAll, frB.trans frAll⟩
        · rw [hstep, hstU]
        · rw [hstep, hstU]
          exact pt11.same s12
      · have heq' : required g t'.tabs t.km node o = lastM (t'.snt (dix g node o)) := by simpa using heq
        have hstU : stepU g t.km node (t', c) o = (t', c) := by
          unfold stepU
          rw [if_pos heq']
        have s47 := ((s4.trans s5).trans s6).trans s7
        refine ⟨c, _, _, _, rfl, by rw [hstep, hstU], ?_, frH.trans (Fr.same s47), frB.trans (Fr.same s47)⟩
        rw [hstep, hstU]
        exact pt6.same s7
    · rintro B σ' H' sB ⟨c, o5, o6, o7, rfl, hc, pt', frH, frB⟩
      rw [List.take_length] at hc pt'
      refine (e_var rfl (.int _)).ret fun v H5 s5 f5 => ?_
      obtain rfl := f5.intI
      rw [hc]
      exact k H5 (frH.trans (Fr.same s5)) (pt'.same s5)
end
end Tt

/-! What a talk's lists are like. -/
namespace Tt
open PySem
structure Good (g : Gr) (t : Tk) : Prop where
  tabs : TabsOK g t.tabs
  fit : Fit g t
  mb : ∀ a b, (a, b) ∈ dirs g → ∀ m ∈ t.snt (dix g a b), MsgB (bdn g.eds 4 a b) m
  wb : ∀ p ∈ t.way, p.1 < (dirs g).length ∧ p.2 < (t.snt p.1).length
theorem km_at {g : Gr} {t : Tk} (F : Fit g t) {i : Nat} (h : i < (dirs g).length) : t.km.getD i [] = (t.snt i).getD (t.kpt i) [] := by
  have h1 : i < t.sent.length := by rw [F.sl]; exact h
  have h2 : i < t.kept.length := by rw [F.kl]; exact h
  unfold Tk.km Tk.snt Tk.kpt
  simp only [List.getD_eq_getElem?_getD, List.getElem?_map, List.getElem?_eq_getElem h1, List.getElem?_eq_getElem h2, Option.getD_some]
  rw [zip_at (List.getElem?_eq_getElem h1) (List.getElem?_eq_getElem h2)]
  rfl
theorem getD_mem {l : List Msg} {n : Nat} (h : n < l.length) : l.getD n [] ∈ l := by
  rw [List.getD_eq_getElem?_getD, List.getElem?_eq_getElem h]
  exact List.getElem_mem h
theorem Good.km {g : Gr} {t : Tk} (h : Good g t) : MsB g t.km where
  len := by
    rw [km_len, h.fit.sl, h.fit.kl]
    omega
  ok := fun a b hd => by
    rw [km_at h.fit (dix_lt hd)]
    exact h.mb a b hd _ (getD_mem (h.fit.kb _ (dix_lt hd)))
theorem kpt_set {t : Tk} {i j n : Nat} (hi : i < t.kept.length) : ({ t with kept := t.kept.set i n } : Tk).kpt j = if i = j then n else t.kpt j := by
  unfold Tk.kpt
  simp only [List.getD_eq_getElem?_getD, List.getElem?_set]
  by_cases e : i = j
  · subst e
    simp [hi]
  · simp [e]
theorem Good.kept {g : Gr} {t : Tk} (h : Good g t) {i n : Nat} (hi : i < (dirs g).length) (hn : n < (t.snt i).length) : Good g { t with kept := t.kept.set i n } where
  tabs := h.tabs
  fit := ⟨h.fit.sl, (List.length_set ..).trans h.fit.kl, fun j hj => by
    rw [kpt_set (by rw [h.fit.kl]; exact hi)]
    split
    · rename_i e
      rw [← e]
      exact hn
    · exact h.fit.kb j hj, h.fit.sb⟩
  mb := h.mb
  wb := h.wb
theorem Good.way {g : Gr} {t : Tk} (h : Good g t) {w : List (Nat × Nat)} (hw : ∀ p ∈ w, p.1 < (dirs g).length ∧ p.2 < (t.snt p.1).length) : Good g { t with way := w } := ⟨h.tabs, ⟨h.fit.sl, h.fit.kl, h.fit.kb, h.fit.sb⟩, h.mb, hw⟩
theorem Good.setTabs {g : Gr} {t : Tk} (h : Good g t) {ts : List Tab} (ht : TabsOK g ts) : Good g { t with tabs := ts } := ⟨ht, ⟨h.fit.sl, h.fit.kl, h.fit.kb, h.fit.sb⟩, h.mb, h.wb⟩
/-! ### settling -/
def settledB (t : Tk) : Bool := (t.sent.zip t.kept).all fun p => decide (p.2 + 1 = p.1.length)
def doneT (t : Tk) : Bool := t.way.isEmpty && settledB t
def lates (t : Tk) : List Nat := (List.range t.sent.length).filter fun i => decide (t.kpt i + 1 < (t.snt i).length)
def lateT (t : Tk) : Nat := (lates t).headD 0
def fill1 (t : Tk) : Tk := if t.way.isEmpty then { t with way := [(lateT t, (t.snt (lateT t)).length - 1)] } else t
def set1 (g : Gr) (t : Tk) : Tk := (arrT g { fill1 t with way := (fill1 t).way.tail } ((fill1 t).way.headD (0, 0)).1 ((fill1 t).way.headD (0, 0)).2).1
def settleF (g : Gr) : Nat → Tk × Nat → Tk × Nat
  | 0, s => s
  | f + 1, s => if doneT s.1 then s else settleF g f (set1 g s.1, s.2 + 1)
/-- the settling ends within f turns, all along within bounds -/
def RunOK (g : Gr) : Nat → Tk → Prop
  | 0, t => Good g t ∧ t.way.length ≤ 39 ∧ doneT t = true
  | f + 1, t => Good g t ∧ t.way.length ≤ 39 ∧ (doneT t = true ∨ RunOK g f (set1 g t))
theorem RunOK.good {g : Gr} : ∀ {f : Nat} {t : Tk}, RunOK g f t → Good g t ∧ t.way.length ≤ 39
  | 0, _, h => ⟨h.1, h.2.1⟩
  | _ + 1, _, h => ⟨h.1, h.2.1⟩
theorem settleF_done {g : Gr} {s : Tk × Nat} (h : doneT s.1 = true) : ∀ f, settleF g f s = s
  | 0 => rfl
  | f + 1 => by
    unfold settleF
    rw [if_pos h]
theorem settleF_step {g : Gr} {s : Tk × Nat} (h : doneT s.1 = false) (f : Nat) : settleF g (f + 1) s = settleF g f (set1 g s.1, s.2 + 1) := by
  rw [settleF, h]
  rfl
theorem settled_iff {g : Gr} {t : Tk} (F : Fit g t) : settledB t = true ↔ ∀ i, i < (dirs g).length → t.kpt i + 1 = (t.snt i).length := by
  unfold settledB
  rw [List.all_eq_true]
  constructor
  · intro h i hi
    have h1 : i < t.sent.length := by rw [F.sl]; exact hi
    have h2 : i < t.kept.length := by rw [F.kl]; exact hi
    have hz := zip_at (List.getElem?_eq_getElem h1) (List.getElem?_eq_getElem h2)
    have := h _ (List.mem_of_getElem? hz)
    simp only [decide_eq_true_eq] at this
    simp only [Tk.kpt, Tk.snt, List.getD_eq_getElem?_getD, List.getElem?_eq_getElem h1, List.getElem?_eq_getElem h2, Option.getD_some]
    exact this
  · intro h p hp
    obtain ⟨i, hi, rfl⟩ := List.mem_iff_getElem.mp hp
    rw [List.length_zip] at hi
    have h1 : i < t.sent.length := by omega
    have h2 : i < t.kept.length := by omega
    have := h i (by have := F.sl; omega)
    simp only [Tk.kpt, Tk.snt, List.getD_eq_getElem?_getD, List.getElem?_eq_getElem h1, List.getElem?_eq_getElem h2, Option.getD_some] at this
    rw [List.getElem_zip]
    simpa using this
theorem late_ok {g : Gr} {t : Tk} (F : Fit g t) (h : settledB t = false) : ∃ l, lates t = lateT t :: l ∧ lateT t < (dirs g).length ∧ t.kpt (lateT t) + 1 < (t.snt (lateT t)).length := by
  have hne : lates t ≠ [] := by
    intro e
    have : settledB t = true := (settled_iff F).mpr fun i hi => by
      have h1 := F.kb i hi
      have h2 : i ∉ lates t := by rw [e]; simp
      unfold lates at h2
      rw [List.mem_filter, List.mem_range, F.sl] at h2
      simp only [hi, true_and, decide_eq_true_eq] at h2
      omega
    rw [this] at h
    cases h
  cases e : lates t with
  | nil => exact absurd e hne
  | cons a l =>
    have ea : lateT t = a := by
      unfold lateT
      rw [e]
      rfl
    have hm : a ∈ lates t := by rw [e]; simp
    unfold lates at hm
    rw [List.mem_filter, List.mem_range, F.sl] at hm
    rw [ea]
    exact ⟨l, rfl, hm.1, by simpa using hm.2⟩
theorem fill_good {g : Gr} {t : Tk} (G : Good g t) (h : doneT t = false) : Good g (fill1 t) ∧ ∃ p l, (fill1 t).way = p :: l ∧ (fill1 t).way.length ≤ max 1 t.way.length := by
  unfold fill1
  cases e : t.way with
  | nil =>
    have hs : settledB t = false := by
      unfold doneT at h
      rw [e] at h
      simpa using h
    obtain ⟨l, h1, h2, h3⟩ := late_ok G.fit hs
    refine ⟨?_, (lateT t, (t.snt (lateT t)).length - 1), [], by simp, by simp⟩
    simp only [List.isEmpty_nil, if_true]
    exact G.way fun p hp => by
      rw [List.mem_singleton.mp hp]
      exact ⟨h2, by show (t.snt (lateT t)).length - 1 < (t.snt (lateT t)).length; omega⟩
  | cons p l =>
    refine ⟨?_, p, l, by simp [e], by simp [e]⟩
    simp only [List.isEmpty_cons]
    exact G
/-- a row set, taken away -/
def tabT (t : Tab) (row : Row) (c : Option Int) : Tab := srtP ((t.filter fun p => !decide (p.1 = row)) ++ (match c with
  | some x => [(row, x)]
  | none => []))
def setT (g : Gr) (t : Tk) (node : Nat) (row : Row) (c : Option Int) : Tk × Nat := updT g { t with tabs := t.tabs.set node (tabT (t.tabs.getD node []) row c) } node
def resT (g : Gr) (t : Tk) (a b : Nat) : Tk × Nat :=
  if (t.snt (dix g a b)).length ≤ 1 then (t, 0) else ({ t with way := t.way ++ [(dix g a b, (t.snt (dix g a b)).length - 1)] }, 1)
theorem tab_rows (t : Tab) (row : Row) (c : Option Int) (hn : (t.map (·.1)).Nodup) : (((t.filter fun p => !decide (p.1 = row)) ++ (match c with
  | some x => [(row, x)]
  | none => [])).map (·.1)).Nodup := by
  have hf : ((t.filter fun p => !decide (p.1 = row)).map (·.1)).Nodup := (List.filter_sublist.map _).nodup hn
  rw [List.map_append]
  refine List.nodup_append.mpr ⟨hf, ?_, fun a ha b hb e => ?_⟩
  · cases c with
    | some x => exact List.nodup_cons.mpr ⟨by simp, List.nodup_nil⟩
    | none => exact List.nodup_nil
  · cases c with
    | none => cases hb
    | some x =>
      have eb : b = row := by simpa using hb
      obtain ⟨p, hp, rfl⟩ := List.mem_map.mp ha
      have := (List.mem_filter.mp hp).2
      rw [e, eb] at this
      simp at this
theorem tabT_ok {g : Gr} {n : Nat} {t : Tab} {row : Row} {c : Option Int} (h : TabOK g n t) (hf : t.length ≤ 59) (hr : RowOK g.vals (g.sc n) row) : TabOK g n (tabT t row c) ∧ (tabT t row c).length ≤ t.length + 1 := by
  have hp := isort_perm ltP ((t.filter fun p => !decide (p.1 = row)) ++ (match c with
    | some x => [(row, x)]
    | none => []))
  have hlen : (tabT t row c).length ≤ t.length + 1 := by
    unfold tabT srtP
    rw [hp.length_eq, List.length_append]
    have h1 := List.length_filter_le (fun p : Row × Int => !decide (p.1 = row)) t
    cases c <;> simp <;> omega
  refine ⟨⟨by omega, fun p hm => ?_, ?_⟩, hlen⟩
  · unfold tabT srtP at hm
    rw [hp.mem_iff, List.mem_append] at hm
    rcases hm with hm | hm
    · exact h.row p (List.mem_filter.mp hm).1
    · cases c with
      | none => cases hm
      | some x =>
        rw [List.mem_singleton.mp hm]
        exact hr
  · exact ((hp.map _).nodup_iff).mpr (tab_rows t row c h.nd)
theorem tabs_set {g : Gr} {ts : List Tab} (h : TabsOK g ts) {n : Nat} (hn : n < g.n) {t' : Tab} (h' : TabOK g n t') : TabsOK g (ts.set n t') where
  len := (List.length_set ..).trans h.len
  ok := fun m hm => by
    rw [List.getD_eq_getElem?_getD, List.getElem?_set]
    by_cases e : n = m
    · subst e
      rw [if_pos rfl, if_pos (by rw [h.len]; exact hn)]
      exact h'
    · rw [if_neg e, ← List.getD_eq_getElem?_getD]
      exact h.ok m hm
end Tt

namespace Tt
open PySem PySem.Spec PyProof.Rows L2 RZ
open C8 (Cal Met Mak pe_c pe_mk pe_mt pe_mt0 pe_gc)
section
variable {P : Program} {w : World} {K : PySem.W.Frag} {mg : Str → Option Value} {base : Heap}
theorem s_setL {σ : L2.St} {H : Hp} {to ti tv : TE} {p : Addr} {xs : List V} {j : Nat} {d : PyData} {w : TS} {D : Ends} (hv : EF tv σ H d) (ho : AtD to σ H p) (e : H p = some (.lst xs)) (hi : EF ti σ H (.int (j : Int))) (hj : j < xs.length)
    (k : ∀ v H1, Same H H1 → Fz H1 v d → w D σ (upd H1 p (.lst (xs.set j v)))) : tSeq (tAsg tv (gSub to ti rSetL)) w D σ H :=
  hv.go fun v H1 s f => ho H1 s _ (hi H1 s _ fun y H2 s2 f2 => by
    obtain rfl := f2.intI
    refine ⟨p, xs, j, j, rfl, rfl, s2 _ _ (s _ _ e), ?_, k v H2 (s.trans s2) (f.same s2)⟩
    unfold ixN
    rw [if_pos (by omega), if_pos (by omega)]
    rfl)
theorem set_nat {l : List Nat} {j n : Nat} : (l.map fun (n : Nat) => V.int (n : Int)).set j (.int (n : Int)) = (l.set j n).map fun (n : Nat) => V.int (n : Int) := by rw [List.map_set]
def spArr (K : PySem.W.Frag) : Sp := fun vs H Q E => ∃ a A g t i n, vs = [.ref a, .int (i : Nat), .int (n : Nat)] ∧ PT K H a A g t ∧ GOK g ∧ Good g t ∧ i < (dirs g).length ∧ n < (t.snt i).length ∧ (arrT g t i n).1.way.length ≤ 40 ∧
  ∀ H', Fr A.fp H H' → PT K H' a A g (arrT g t i n).1 → Q (.int ((arrT g t i n).2 : Nat)) H'
theorem GOK.dn {g : Gr} (G : GOK g) {i : Nat} (hi : i < (dirs g).length) : ((dirs g).getD i (0, 0)).2 < g.n ∧ ((dirs g).getD i (0, 0)).1 < g.n := by
  have e : (dirs g).getD i (0, 0) = (dirs g)[i] := by simp [List.getD_eq_getElem?_getD, hi]
  rw [e]
  have := G.dlt (a := (dirs g)[i].1) (b := (dirs g)[i].2) (List.getElem_mem hi)
  exact ⟨this.2, this.1⟩
theorem sc_Talk_arrive : FnScope ["self", "place", "number"] ["self", "place", "number"] (defScope s_Talk_arrive) := ⟨rfl, rfl, rfl, by decide +kernel, rfl, by decide +kernel, by decide +kernel⟩
theorem met_Talk_arrive (T : Tx K mg) : Met P w K mg base 6 (CTalk K) "arrive" (spArr K) [] :=
  T.met 71 rfl T.cls_Talk T.me_Talk_arrive sc_Talk_arrive (fun _ _ _ _ _ _ us hl => match us, hl with | [_, _, _], _ => rfl) (fun vs H Q E ⟨_, _, _, _, _, _, e, _⟩ => by rw [e]; rfl) fun f cdv A' outer s H vs Q E hr h => by
    obtain ⟨a, A, g, t, i, n, rfl, pt, G, gd, hi, hn, hw, k⟩ := h
    refine ⟨_, (pss_cons (ps_if (pt_cmpR op_le (pv 2) (pe_ix (k_ixL (K := K)) (k_fld (K := K) (pv 0)) (pv 1) (fun _ _ => rfl)) (nomark _)) (pss_one (ps_ret pe_int)) pss_nil)
      (pss_cons (ps_asg (pv 2) (pg_sub (k_fld (K := K) (pv 0)) (pv 1) set_list))
      (pss_one (ps_ret (pe_mt (met_Talk_update T) hr (by decide) (pv 0) (pa_cons (pe_ix (k_ixT (K := K)) (pe_ix (k_ixL (K := K)) (pe_c (cal_directions_of T) hr (by decide) rfl (pa_cons (k_fld (K := K) (pv 0)) pa_nil)) (pv 1) (fun _ _ => rfl)) pe_int (fun _ _ => rfl)) pa_nil)))))), ?_⟩
    have he3 := G.e3
    have hdl := dirs_len g
    have hik : i < t.kept.length := by rw [gd.fit.kl]; exact hi
    refine s_ifQ (t_test (e_le (e_var rfl (.int _)) (e_ixL (at_e (pt.a_kept T (at_var rfl)) pt.r.fk) (e_var rfl (.int _)) (map_at (f := eN) 0 hik)))) (fun hle H1 s1 => ?_) fun hgt H1 s1 => ?_
    · have hle' : n ≤ t.kpt i := by
        have h := of_decide_eq_true hle
        show n ≤ t.kept.getD i 0
        omega
      have ea : arrT g t i n = (t, 0) := by
        unfold arrT
        rw [if_pos hle']
      rw [ea] at k
      exact EF.ret (d := .int ((0 : Nat) : Int)) e_int fun v H2 s2 f2 => by
        obtain rfl := f2.intI
        exact k H2 (Fr.same (s1.trans s2)) (pt.same (s1.trans s2))
    · have hgt' : ¬ n ≤ t.kpt i := by
        have h := of_decide_eq_false hgt
        show ¬ n ≤ t.kept.getD i 0
        omega
      have ea : arrT g t i n = updT g { t with kept := t.kept.set i n } ((dirs g).getD i (0, 0)).2 := by
        unfold arrT
        rw [if_neg hgt']
      rw [ea] at k hw
      have pt1 := pt.same s1
      refine s_setL (e_var rfl (.int _)) (pt1.a_kept T (at_var rfl)) pt1.r.k (e_var rfl (.int _)) (by rw [List.length_map]; exact hik) fun v H2 s2 f2 => ?_
      obtain rfl := f2.intI
      rw [set_nat]
      have pt2 := pt1.same s2
      have fr : Fr A.fp H2 (upd H2 A.k (.lst ((t.kept.set i n).map fun (n : Nat) => V.int (n : Int)))) := fr_upd (by simp)
      have pt3 := pt2.with fr (pt2.r.setK (t.kept.set i n)) rfl
      have gd3 := gd.kept hi hn
      obtain ⟨dx, gv, tv, ei, _, _⟩ := pt3.i
      refine m_go (Q := Q) (at_var rfl) ei rfl (ea_cons (e_ixT (e_ixL (EL.ef (e_callL (ea_cons (pt3.e_graph T (at_var rfl)) ea_nil) ⟨g, rfl, by omega, rfl⟩)) (e_var rfl (.int _)) (map_at (0, 0) hi)) e_int (by rfl)) ea_nil) fun vs4 H4 s4 f4 => ?_
      obtain ⟨y, rfl, fy⟩ := f4.oneI
      obtain rfl := fy.intI
      refine ⟨a, A, g, _, ((dirs g).getD i (0, 0)).2, rfl, pt3.same s4, G, (G.dn hi).1, gd3.tabs, gd3.km.ms G, gd3.fit, hw, fun H5 fr5 pt5 => k H5 ((((Fr.same (s1.trans s2)).trans fr).trans (Fr.same s4)).trans fr5) pt5⟩
def spSett (K : PySem.W.Frag) : Sp := fun vs H Q E => ∃ a A g t, vs = [.ref a] ∧ PT K H a A g t ∧ GOK g ∧ Fit g t ∧ ∀ v H', Same H H' → Fz H' v (.bool (settledB t)) → Q v H'
theorem sc_Talk_is_settled : FnScope ["self", "row", "number"] ["self"] (defScope s_Talk_is_settled) := ⟨rfl, rfl, rfl, by decide +kernel, rfl, by decide +kernel, by decide +kernel⟩
theorem met_Talk_is_settled (T : Tx K mg) : Met P w K mg base 1 (CTalk K) "is_settled" (spSett K) [] :=
  T.met 72 rfl T.cls_Talk T.me_Talk_is_settled sc_Talk_is_settled (fun _ _ _ _ _ _ us hl => match us, hl with | [_], _ => rfl) (fun vs H Q E ⟨_, _, _, _, e, _⟩ => by rw [e]; rfl) fun f cdv A' outer s H vs Q E hr h => by
    obtain ⟨a, A, g, t, rfl, pt, G, F, k⟩ := h
    refine ⟨_, (pss_one (ps_ret (pe_callB (k_all (K := K)) (by rfl) T.n_all (by decide +kernel) (pa_cons (pe_lc (own := [("row", 1), ("number", 2)]) (g := g2 K 1 2) (tt := tYes) rfl sc_Talk_is_settled.nd (k_piZip (K := K) (by rfl) T.n_zip (pa_cons (k_fld (K := K) (pv 0)) (pa_cons (k_fld (K := K) (pv 0)) pa_nil))) (blkOk_by (N := ["self", "row", "number"]) (sc := defScope s_Talk_is_settled) (by decide +kernel)) (fun _ _ _ _ _ => (k_tg (K := K) (n := 2) (pgs_cons (pg_name (i := 1) sc_Talk_is_settled.nd rfl (Or.inl rfl)) (pgs_cons (pg_name (i := 2) sc_Talk_is_settled.nd rfl (Or.inl rfl)) pgs_nil)))) (fun _ _ _ _ _ => pts_nil) (fun _ _ _ _ _ => (pe_cmpR op_eq (pv 2) (pe_op op_sub (pe_callB (k_len (K := K)) (by rfl) T.n_len (by decide +kernel) (pa_cons (pv 1) pa_nil)) pe_int) (nomark _)))) pa_nil)))), ?_⟩
    have hd := F.dl G
    refine EF.ret ((e_all (bs := (t.sent.zip t.kept).map fun p => decide (p.2 + 1 = p.1.length)) (EF.is (EL.ef (el_map2 (xs := t.sent.zip t.kept) (e1 := fun p => .list (p.1.map eM)) (e2 := fun p => eN p.2) (g := fun p => .bool (decide (p.2 + 1 = p.1.length))) (w_sk (at_e (pt.a_sent T (at_var rfl)) pt.r.fs) (at_e (pt.a_kept T (at_var rfl)) pt.r.fk) hd.2.symm) (by rw [List.length_zip]; omega) (fun _ _ => rfl) (fun p hp y1 y2 H1 s1 g1 g2 =>
      (e_eqI (e_var rfl g2) (e_sub (e_lenL (e_var rfl g1)) e_int)).is (by
        have := (F.zip hp).1
        rw [List.length_map]
        congr 1
        exact decide_eq_decide.mpr (by omega))))) (by rw [List.map_map]; rfl))).is ?_) k
    unfold settledB
    rw [List.all_map]
    rfl
end
end Tt

namespace Tt
open PySem PySem.Spec PyProof.Rows L2 RZ
open C8 (Cal Met Mak pe_c pe_mk pe_mt pe_mt0 pe_gc)
section
variable {P : Program} {w : World} {K : PySem.W.Frag} {mg : Str → Option Value} {base : Heap}
theorem s_ifC {σ : L2.St} {H : Hp} {t : TT} {tu w : TS} {D : Ends} {b : Bool} (M : L2.St → Hp → Prop) (h : ET t σ H b) (k1 : ∀ W : L2.St → Hp → Prop, (∀ σ2 H2, M σ2 H2 → W σ2 H2) → b = true → ∀ H1, Same H H1 → tu { D with nx := W } σ H1) (k2 : b = false → ∀ H1, Same H H1 → M σ H1)
    (k : ∀ σ2 H2, M σ2 H2 → w D σ2 H2) : tSeq (tIfS t tu tNext) w D σ H := h.go fun H1 s => by
  cases b with
  | true => exact k1 _ k rfl H1 s
  | false => exact k _ _ (k2 rfl H1 s)
theorem s_popA {σ : L2.St} {H : Hp} {ta ti : TE} {gt : TG} {w : TS} {D : Ends} {l : Addr} {xs : List V} {x : V} {i : Nat} (ha : AtD ta σ H l) (e : H l = some (.lst xs)) (hi : EF ti σ H (.int (i : Int))) (hx : xs[i]? = some x) (hz : xs.length ≤ 100000) (k : ∀ H1, Same H H1 → gt x σ (upd H1 l (.lst (xs.eraseIdx i))) fun σ2 H2 => w D σ2 H2) :
    tSeq (tAsg (tBM K "list" rPopAt ta (tCons ti tNil)) gt) w D σ H :=
  ha H (Same.refl H) _ ⟨.inl ⟨rfl, _, SqL.of e⟩, hi.go fun v H1 s f => by
    obtain rfl := f.intI
    have hl := (List.getElem?_eq_some_iff.mp hx).1
    refine ⟨l, xs, i, i, x, rfl, rfl, s _ _ e, by omega, by omega, ?_, hx, k H1 s⟩
    have : ixN xs.length (i : Int) = some i := by
      unfold ixN
      rw [if_pos (by omega), if_pos (by omega)]
      rfl
    exact (ixN_seq this).1⟩
theorem s_popD {σ : L2.St} {H : Hp} {ta ti : TE} {D : Ends} {l : Addr} {xs : List V} {x : V} {i : Nat} (ha : AtD ta σ H l) (e : H l = some (.lst xs)) (hi : EF ti σ H (.int (i : Int))) (hx : xs[i]? = some x) (hz : xs.length ≤ 100000) (k : ∀ H1, Same H H1 → D.nx σ (upd H1 l (.lst (xs.eraseIdx i)))) :
    tDrop (tBM K "list" rPopAt ta (tCons ti tNil)) D σ H :=
  ha H (Same.refl H) _ ⟨.inl ⟨rfl, _, SqL.of e⟩, hi.go fun v H1 s f => by
    obtain rfl := f.intI
    have hl := (List.getElem?_eq_some_iff.mp hx).1
    refine ⟨l, xs, i, i, x, rfl, rfl, s _ _ e, by omega, by omega, ?_, hx, k H1 s⟩
    have : ixN xs.length (i : Int) = some i := by
      unfold ixN
      rw [if_pos (by omega), if_pos (by omega)]
      rfl
    exact (ixN_seq this).1⟩
theorem e_settled (T : Tx K mg) {σ : L2.St} {H : Hp} {td : TE} {a : Addr} {A : Ad} {g : Gr} {t : Tk} {E : XK} (pt : PT K H a A g t) (G : GOK g) (F : Fit g t) (hd : AtD td σ H a) : EF (tMeth (CTalk K) "is_settled" (spSett K) [] E td tNil) σ H (.bool (settledB t)) := fun H1 s Q q => by
  have pt1 := pt.same s
  obtain ⟨dx, gv, tv, ei, _, _⟩ := pt1.i
  refine m_go (fun H2 s2 => hd H2 (s.trans s2)) ei rfl ea_nil fun vs H2 s2 f2 => ?_
  cases f2
  exact ⟨a, A, g, t, rfl, pt1.same s2, G, F, fun v H3 s3 f3 => q v H3 (s2.trans s3) f3⟩
def spSettle (K : PySem.W.Frag) : Sp := fun vs H Q E => ∃ a A g t f, vs = [.ref a] ∧ PT K H a A g t ∧ GOK g ∧ RunOK g f t ∧ ∀ H', Fr A.fp H H' → PT K H' a A g (settleF g f (t, 0)).1 → Q (.int ((settleF g f (t, 0)).2 : Nat)) H'
theorem w_sentE {σ : L2.St} {H : Hp} {ts : TE} {t : Tk} (hs : EF ts σ H (.list (t.sent.map fun m => .list (m.map eM)))) : WF (iEnum K (tCons ts tNil)) σ H ((List.range t.sent.length).map fun i => .tuple [eN i, .list ((t.snt i).map eM)]) :=
  (w_enumL (ea_cons hs ea_nil)).is (by
    rw [List.length_map]
    refine List.map_congr_left fun i hi => ?_
    have h := List.mem_range.mp hi
    simp [Tk.snt, List.getD_eq_getElem?_getD, h])
theorem sc_Talk_settle : FnScope ["self", "count", "late", "place", "number", "at", "row"] ["self"] (defScope s_Talk_settle) := ⟨rfl, rfl, rfl, by decide +kernel, rfl, by decide +kernel, by decide +kernel⟩
theorem met_Talk_settle (T : Tx K mg) : Met P w K mg base 7 (CTalk K) "settle" (spSettle K) [] :=
  T.met 73 rfl T.cls_Talk T.me_Talk_settle sc_Talk_settle (fun _ _ _ _ _ _ us hl => match us, hl with | [_], _ => rfl) (fun vs H Q E ⟨_, _, _, _, _, e, _⟩ => by rw [e]; rfl) fun f cdv A' outer s H vs Q E hr h => by
    obtain ⟨a, A, g, t, fu, rfl, pt, G, ro, k⟩ := h
    refine ⟨_, (pss_cons (ps_set (i := 1) sc_Talk_settle.nd rfl (Or.inl rfl) pe_int)
      (pss_cons (ps_while PassesOwn.never (PW.pt (pw_or (k_truth (K := K) (k_fld (K := K) (pv 0))) (pw_or1 (pt_not (pt_val (pe_mt0 (met_Talk_is_settled T) hr (by decide) (pv 0)))))))
        (pss_cons (ps_if (pt_not (k_truth (K := K) (k_fld (K := K) (pv 0)))) (pss_cons (ps_setLc (i := 2) (own := [("at", 5), ("row", 6)]) (g := g2 K 5 6) (by rfl) sc_Talk_settle.nd rfl rfl (sw_true rfl rfl rfl (by decide +kernel)) (k_piEnum (K := K) (by rfl) T.n_enumerate (pa_cons (k_fld (K := K) (pv 0)) pa_nil)) (blkOk_by (N := ["self", "count", "late", "place", "number", "at", "row"]) (sc := defScope s_Talk_settle) (by decide +kernel)) (fun _ _ _ _ _ => (k_tg (K := K) (n := 2) (pgs_cons (pg_name (i := 5) sc_Talk_settle.nd rfl (Or.inl rfl)) (pgs_cons (pg_name (i := 6) sc_Talk_settle.nd rfl (Or.inl rfl)) pgs_nil)))) (fun _ _ _ _ _ => (pts_one (pt_cmpR op_lt (pe_ix (k_ixL (K := K)) (k_fld (K := K) (pv 0)) (pv 5) (fun _ _ => rfl)) (pe_op op_sub (pe_callB (k_len (K := K)) (by rfl) T.n_len (by decide +kernel) (pa_cons (pv 6) pa_nil)) pe_int) (nomark _)))) (fun _ _ _ _ _ => (pv 5)))
          (pss_one (ps_expr (pe_mt (met_Talk_put T) hr (by decide) (pv 0) (pa_cons (pe_ix (k_ixL (K := K)) (pv 2) pe_int (fun _ _ => rfl)) (pa_cons (pe_op op_sub (pe_callB (k_len (K := K)) (by rfl) T.n_len (by decide +kernel) (pa_cons (pe_ix (k_ixL (K := K)) (k_fld (K := K) (pv 0)) (pe_ix (k_ixL (K := K)) (pv 2) pe_int (fun _ _ => rfl)) (fun _ _ => rfl)) pa_nil)) pe_int) pa_nil)))))) pss_nil)
        (pss_cons (ps_asg (k_bm (K := K) PySem.F.plainAttrs_list PySem.F.slot_list_pop PySem.F.type_list_pop mt_popAt (k_fld (K := K) (pv 0)) (pa_cons pe_int pa_nil)) (k_tg (K := K) (n := 2) (pgs_cons (pg_name (i := 3) sc_Talk_settle.nd rfl (Or.inl rfl)) (pgs_cons (pg_name (i := 4) sc_Talk_settle.nd rfl (Or.inl rfl)) pgs_nil))))
        (pss_cons (ps_expr (pe_mt (met_Talk_arrive T) hr (by decide) (pv 0) (pa_cons (pv 3) (pa_cons (pv 4) pa_nil))))
        (pss_one (ps_set (i := 1) sc_Talk_settle.nd rfl (Or.inl rfl) (pe_op op_add (pv 1) pe_int)))))))
      (pss_one (ps_ret (pv 1))))), ?_⟩
    have he3 := G.e3
    have hdl := dirs_len g
    refine s_asg (d := .int ((0 : Nat) : Int)) e_int fun v H1 s1 f1 => ?_
    obtain rfl := f1.intI
    refine s_while (fun m σ' H' => ∃ (t' : Tk) (c : Nat) (o2 o3 o4 : Option V), σ' = [some (.ref a), some (.int (c : Int)), o2, o3, o4, none, none] ∧ PT K H' a A g t' ∧ RunOK g m t' ∧ settleF g m (t', c) = settleF g fu (t, 0) ∧ Fr A.fp H H') fu ⟨t, 0, _, _, _, rfl, pt.same s1, ro, rfl, Fr.same s1⟩ ?_
    rintro m σ' H' ⟨t', c, o2, o3, o4, rfl, pt', ro', hs', fr'⟩
    obtain ⟨gd, hw⟩ := ro'.good
    refine ⟨!doneT t', ((t_or (t_trL (at_e (pt'.a_way T (at_var rfl)) pt'.r.fw)) fun _ => t_not (t_B (e_settled T pt' G gd.fit (at_var rfl)))).is ?_), fun hb H2 s2 => ?_, fun hb H2 s2 => ?_⟩
    · unfold doneT
      cases t'.way <;> simp
    · have hdn : doneT t' = false := by simpa using hb
      obtain ⟨gdf, p, l, hpl, hwf⟩ := fill_good gd hdn
      cases m with
      | zero =>
        have := ro'.2.2
        rw [this] at hdn
        cases hdn
      | succ m =>
        have ro2 : RunOK g m (set1 g t') := by
          rcases ro'.2.2 with h | h
          · rw [h] at hdn
            cases hdn
          · exact h
        have hs2 : settleF g m (set1 g t', c + 1) = settleF g fu (t, 0) := by
          rw [← hs', settleF_step (s := (t', c)) hdn]
        have pt2 := pt'.same s2
        refine s_ifC (fun σ2 H3 => ∃ o2, σ2 = [some (.ref a), some (.int (c : Int)), o2, o3, o4, none, none] ∧ PT K H3 a A g (fill1 t') ∧ Fr A.fp H' H3) (t_not (t_trL (at_e (pt2.a_way T (at_var rfl)) pt2.r.fw))) (fun W hW hem H3 s3 => ?_) (fun hem H3 s3 => ?_) ?_
        · have hnil : t'.way = [] := by
            cases e : t'.way with
            | nil => rfl
            | cons p l => rw [e] at hem; simp at hem
          have hst : settledB t' = false := by
            unfold doneT at hdn
            rw [hnil] at hdn
            simpa using hdn
          obtain ⟨ll, hl1, hl2, hl3⟩ := late_ok gd.fit hst
          have hlt : lateT t' < t'.sent.length := by rw [gd.fit.sl]; exact hl2
          have hfill : fill1 t' = { t' with way := t'.way ++ [(lateT t', (t'.snt (lateT t')).length - 1)] } := by
            unfold fill1
            rw [hnil]
            rfl
          have pt3 := pt2.same s3
          have hsd := gd.fit.dl G
          have hsn : ∀ i, i < t'.sent.length → atI (t'.sent.map fun m => PyData.list (m.map eM)) ((i : Nat) : Int) = some (PyData.list ((t'.snt i).map eM)) := fun i hi => map_at (f := fun m : List Msg => PyData.list (m.map eM)) [] hi
          refine s_asgL (el_flt2 (xs := List.range t'.sent.length) (e1 := eN) (e2 := fun i => .list ((t'.snt i).map eM)) (f := fun i => decide (t'.kpt i + 1 < (t'.snt i).length)) (g := eN) (w_sentE (at_e (pt3.a_sent T (at_var rfl)) pt3.r.fs)) (by rw [List.length_range]; omega) (fun _ _ _ => rfl) (fun i hi y1 y2 H4 s4 g1 g2 =>
            ⟨t_test ((e_lt (e_ixL (at_e ((pt3.same s4).a_kept T (at_var rfl)) (pt3.same s4).r.fk) (e_var rfl g1) (map_at (f := eN) 0 (by have := List.mem_range.mp hi; omega))) (e_sub (e_lenL (e_var rfl g2)) e_int)).is (by
              rw [List.length_map]
              congr 1
              exact decide_eq_decide.mpr (by show ((t'.kept.getD i 0 : Nat) : Int) < _ ↔ t'.kept.getD i 0 + 1 < _; omega))), fun _ => e_var rfl g1⟩)) fun pl xl H4 nl s4 el fl => ?_
          have fl' : FzAll H4 xl (eNs (lates t')) := fl
          rw [hl1] at fl'
          have pt4 := pt3.same s4
          have e0 : ∀ {H5 : Hp}, Same H4 H5 → EF (tOp (rIxL K) (tVar 2) (tC (.int 0))) [some (.ref a), some (.int (c : Int)), some (.ref pl), o3, o4, none, none] H5 (eN (lateT t')) := fun s5 => e_ixL (e_var rfl (Fz.lst (s5 _ _ el) (fl'.same s5))) e_int (n_at (l := lateT t' :: ll) (n := 0) (by simp))
          obtain ⟨dx, gv, tv, ei, _, _⟩ := pt4.i
          refine m_go (Q := fun _ H1 => W _ H1) (at_var rfl) ei rfl (ea_cons (e0 (Same.refl _)) (ea_cons (e_sub (e_lenL (e_ixL (at_e (pt4.a_sent T (at_var rfl)) pt4.r.fs) (e0 (Same.refl _)) (hsn _ hlt))) e_int) ea_nil)) fun vs5 H5 s5 f5 => ?_
          obtain ⟨v1, v2, rfl, f51, f52⟩ := f5.I2
          obtain rfl := f51.intI
          obtain rfl := f52.intI
          refine ⟨a, A, g, t', lateT t', (t'.snt (lateT t')).length - 1, by rw [List.length_map, Int.ofNat_sub (by omega)]; rfl, pt4.same s5, by rw [hnil]; decide, fun H6 fr6 pt6 => hW _ _ ⟨_, rfl, by rw [hfill]; exact pt6, (((Fr.same (s2.trans s3)).trans (Fr.same s4)).trans (Fr.same s5)).trans fr6⟩⟩
        · have hne : fill1 t' = t' := by
            unfold fill1
            cases e : t'.way with
            | nil => rw [e] at hem; simp at hem
            | cons p l => rfl
          exact ⟨_, rfl, by rw [hne]; exact pt2.same s3, Fr.same (s2.trans s3)⟩
        · rintro σ2 H3 ⟨o2', rfl, pt3, fr3⟩
          obtain ⟨xs, ew, fw⟩ := pt3.r.w
          rw [hpl] at fw
          cases fw with
          | @cons x xs' _ _ fx fxs =>
            have hwl : (fill1 t').way.length ≤ 39 := by omega
            have hlen : (x :: xs').length ≤ 100000 := by
              have := fxs.len
              rw [List.length_map] at this
              rw [hpl] at hwl
              simp at hwl ⊢
              omega
            refine s_popA (i := 0) (pt3.a_way T (at_var rfl)) ew e_int rfl hlen fun H4 s4 => ?_
            have pt4 := pt3.same s4
            have fr5 : Fr A.fp H4 (upd H4 A.w (.lst xs')) := fr_upd (by simp)
            have pt5 := pt4.with fr5 (pt4.r.setW (w' := l) (fxs.same s4)) rfl
            have fx5 : Fz (upd H4 A.w (.lst xs')) x (eE p) := (fx.same s4).tk (pt4.r.tk fr5) (tb_eE _)
            show g2 K 3 4 x _ (upd H4 A.w (.lst xs')) _
            refine g2_go fx5 fun y3 y4 f3 f4 => ?_
            obtain rfl := f3.intI
            obtain rfl := f4.intI
            have htail : ({ fill1 t' with way := (fill1 t').way.tail } : Tk) = { fill1 t' with way := l } := by rw [hpl]; rfl
            have hset : set1 g t' = (arrT g { fill1 t' with way := l } p.1 p.2).1 := by
              unfold set1
              rw [htail, hpl]
              rfl
            have hpb := gdf.wb p (by rw [hpl]; simp)
            have gd5 : Good g { fill1 t' with way := l } := gdf.way fun q hq => gdf.wb q (by rw [hpl]; simp [hq])
            obtain ⟨dx, gv, tv, ei, _, _⟩ := pt5.i
            refine s_dropK (m_go (at_var rfl) ei rfl (ea_cons (e_var rfl (.int _)) (ea_cons (e_var rfl (.int _)) ea_nil)) fun vs6 H6 s6 f6 => ?_)
            obtain ⟨v1, v2, rfl, f61, f62⟩ := f6.I2
            obtain rfl := f61.intI
            obtain rfl := f62.intI
            have hwa : (arrT g { fill1 t' with way := l } p.1 p.2).1.way.length ≤ 40 := by
              rw [← hset]
              have := ro2.good.2
              omega
            refine ⟨a, A, g, _, p.1, p.2, rfl, pt5.same s6, G, gd5, hpb.1, hpb.2, hwa, fun H7 fr7 pt7 => ?_⟩
            refine s_asg1 (d := .int ((c + 1 : Nat) : Int)) ((e_add (e_var rfl (.int _)) e_int).is (by simp)) fun vc H8 s8 fc => ?_
            obtain rfl := fc.intI
            refine ⟨m, Nat.lt_succ_self _, set1 g t', c + 1, _, _, _, rfl, ?_, ro2, hs2, fr'.trans (fr3.trans ((((Fr.same s4).trans fr5).trans (Fr.same s6)).trans (fr7.trans (Fr.same s8))))⟩
            rw [hset]
            exact pt7.same s8
    · have hdn : doneT t' = true := by simpa using hb
      rw [settleF_done (s := (t', c)) hdn] at hs'
      refine EF.ret (e_var rfl (.int (c : Int))) fun v H3 s3 f3 => ?_
      obtain rfl := f3.intI
      have e1 : (settleF g fu (t, 0)).2 = c := by rw [← hs']
      have e2 : (settleF g fu (t, 0)).1 = t' := by rw [← hs']
      have := k H3 (fr'.trans (Fr.same (s2.trans s3))) (by rw [e2]; exact pt'.same (s2.trans s3))
      rw [e1] at this
      exact this
end
end Tt

/-! Slices, sums of tuples, sorted pairs, by data; fields written. -/
namespace Tt
open PySem L2 RZ
section
variable {K : PySem.W.Frag} {σ : St} {H H' : Hp} {ta tb tc te ti tx : TE} {d e : PyData} {v : V} {ds es : List PyData} {D : Ends} {w : TS}
theorem e_catA (ha : EF ta σ H (.tuple ds)) (hb : EF tb σ H (.tuple es)) (hz : ds.length + es.length ≤ 100000) : EF (tOp (rCatA K) ta tb) σ H (.tuple (ds ++ es)) :=
  e_op ha hb fun x y H1 s f1 f2 Q q => by
    obtain ⟨a, xs, rfl, ea, fa⟩ := f1.tupI
    obtain ⟨b, ys, rfl, eb, fb⟩ := f2.tupI
    refine ⟨a, b, xs, ys, rfl, rfl, SqT.of ea, SqT.of eb, by rw [fa.len, fb.len]; exact Nat.le_trans hz (by decide), fun hx => ?_, fun hx hy => ?_, fun hx hy p hp => ?_⟩
    · subst hx
      cases fa
      exact q _ H1 (Same.refl _) f2
    · subst hy
      cases fb
      rw [List.append_nil] at q
      exact q _ H1 (Same.refl _) f1
    · exact q _ _ (same_new hp) (.tup upd_same ((fa.append fb).same (same_new hp)))
theorem e_slTo {n : Nat} (ha : EF te σ H (.tuple ds)) (hi : EF ti σ H (.int (n : Int))) : EF (tSl (rSlA K) te tNoPart (tPart ti)) σ H (.tuple (ds.take n)) := fun H1 a Q q =>
  ha H1 a _ fun x H2 s2 f2 => hi H2 (a.trans s2) _ fun y H3 s3 f3 => by
    obtain ⟨p, xs, rfl, e, fa⟩ := f2.tupI
    obtain rfl := f3.intI
    refine ⟨_, rfl, p, xs, rfl, SqT.of (s3 _ _ e), ?_⟩
    rw [HT.sIx_none, HT.sIx_nat]
    refine ⟨fun hh => ?_, fun hh l hl => ?_⟩
    · have : ds.take n = ds := List.take_of_length_le (by rw [← fa.len]; omega)
      rw [this] at q
      exact q _ H3 (s2.trans s3) (f2.same s3)
    · have e2 : cutV xs none (some (n : Int)) = xs.take n := by
        unfold cutV
        rw [HT.sIx_none, HT.sIx_nat, List.drop_zero, Nat.sub_zero]
        by_cases h : n ≤ xs.length
        · rw [Nat.min_eq_left h]
        · rw [Nat.min_eq_right (by omega), List.take_length, List.take_of_length_le (by omega)]
      rw [e2]
      exact q _ _ ((s2.trans s3).trans (same_new hl)) (.tup upd_same (((fa.same s3).take n).same (same_new hl)))
theorem e_slFrom {n : Nat} (ha : EF te σ H (.tuple ds)) (hi : EF ti σ H (.int (n : Int))) : EF (tSl (rSlA K) te (tPart ti) tNoPart) σ H (.tuple (ds.drop n)) := fun H1 a Q q =>
  ha H1 a _ fun x H2 s2 f2 => hi H2 (a.trans s2) _ fun y H3 s3 f3 => by
    obtain ⟨p, xs, rfl, e, fa⟩ := f2.tupI
    obtain rfl := f3.intI
    refine ⟨_, rfl, p, xs, rfl, SqT.of (s3 _ _ e), ?_⟩
    rw [HT.sIx_none, HT.sIx_nat]
    refine ⟨fun hh => ?_, fun hh l hl => ?_⟩
    · have hn : n = 0 ∨ xs.length = 0 := by omega
      have : ds.drop n = ds := by
        rcases hn with h | h
        · rw [h, List.drop_zero]
        · have : ds = [] := List.eq_nil_of_length_eq_zero (by rw [← fa.len]; exact h)
          rw [this]
          simp
      rw [this] at q
      exact q _ H3 (s2.trans s3) (f2.same s3)
    · have e2 : cutV xs (some (n : Int)) none = xs.drop n := by
        unfold cutV
        rw [HT.sIx_none, HT.sIx_nat]
        by_cases h : n ≤ xs.length
        · rw [Nat.min_eq_left h, List.take_of_length_le (by rw [List.length_drop]; omega)]
        · rw [Nat.min_eq_right (by omega), Nat.sub_self, List.take_zero, List.drop_eq_nil_of_le (by omega)]
      rw [e2]
      exact q _ _ ((s2.trans s3).trans (same_new hl)) (.tup upd_same (((fa.same s3).drop n).same (same_new hl)))
theorem el_slTo {n : Nat} (ha : EF te σ H (.list ds)) (hi : EF ti σ H (.int (n : Int))) : EL (tSl (rSlL K) te tNoPart (tPart ti)) σ H (ds.take n) := fun H1 a Q q =>
  ha H1 a _ fun x H2 s2 f2 => hi H2 (a.trans s2) _ fun y H3 s3 f3 => by
    obtain ⟨p, xs, rfl, e, fa⟩ := f2.lstI
    obtain rfl := f3.intI
    refine ⟨_, rfl, p, xs, rfl, SqL.of (s3 _ _ e), fun l hl => ?_⟩
    have e2 : cutV xs none (some (n : Int)) = xs.take n := by
      unfold cutV
      rw [HT.sIx_none, HT.sIx_nat, List.drop_zero, Nat.sub_zero]
      by_cases h : n ≤ xs.length
      · rw [Nat.min_eq_left h]
      · rw [Nat.min_eq_right (by omega), List.take_length, List.take_of_length_le (by omega)]
    rw [e2]
    exact q _ _ _ ((s2.trans s3).free hl) ((s2.trans s3).trans (same_new hl)) upd_same (((fa.same s3).take n).same (same_new hl))
/-- sorted(pairs of a row and a number) -/
theorem fz_pairV {e : Row × Int} (f : Fz H v (eP e)) : PairV H v e := by
  obtain ⟨t, xs, rfl, et, fa⟩ := f.tupI
  obtain ⟨x, y, rfl, f1, f2⟩ := fa.I2
  obtain ⟨k, ys, rfl, ek, fb⟩ := f1.tupI
  obtain rfl := f2.intI
  obtain rfl := fz_ints fb
  exact ⟨t, k, rfl, et, ek⟩
theorem pairV_fz {e : Row × Int} (h : PairV H v e) : Fz H v (eP e) := by
  obtain ⟨t, k, rfl, et, ek⟩ := h
  exact .tup et (.cons (.tup ek (fz_of_ints _)) (.one (.int _)))
theorem fz_pairs : ∀ {xs : List V} {l : Tab}, FzAll H xs (l.map eP) → Paired (PairV H) xs l
  | [], [], _ => .nil
  | [], _ :: _, h => by cases h
  | _ :: _, [], h => by cases h
  | x :: xs, e :: l, h => by
    cases h with
    | cons f t => exact .cons (fz_pairV f) (fz_pairs t)
theorem pairs_fz {xs : List V} {l : Tab} (p : Paired (PairV H) xs l) : FzAll H xs (l.map eP) := by
  induction p with
  | nil => exact .nil
  | cons h _ ih => exact .cons (pairV_fz h) ih
theorem el_sortedRC {l : Tab} (h : EF te σ H (.list (l.map eP))) (hn : (l.map (·.1)).Nodup) : EL (tCB (rSortedRC K) (tCons te tNil)) σ H ((srtP l).map eP) := el_cb (ea_cons h ea_nil) fun vs H1 s f Q q => by
  obtain ⟨v, rfl, fv⟩ := f.oneI
  obtain ⟨p, xs, rfl, e, fa⟩ := fv.lstI
  refine ⟨p, xs, l, rfl, SqL.of e, fz_pairs fa, fun ys L' p' hp hu hpr n => ?_⟩
  obtain rfl := srtP_of hn hp (hu.imp fun h => ltRC_row h)
  exact q p' ys _ n (same_new n) upd_same ((pairs_fz hpr).same (same_new n))
/-- o.f = v -/
theorem s_fldK {C dx a : Addr} {fs : List (Str × V)} {f : Str} {to tv : TE} (hv : EF tv σ H d) (ho : AtD to σ H a) (e : H a = some (.ins C dx fs)) (c : Cls K C) (n : NoAttr K C f) (hl : fs.length < 1000)
    (k : ∀ v H1, Same H H1 → Fz H1 v d → w D σ (upd H1 a (.ins C dx (putF f v fs)))) : tSeq (sFld K to tv f) w D σ H :=
  hv.go fun v H1 s fv => ho H1 s _ ⟨a, C, dx, fs, rfl, s _ _ e, c, n, hl, k v H1 s fv⟩
theorem e_notNt (h : EF te σ H d) : ET (tTest (tOp rNotN te (tC .non))) σ H (!isN d) := t_test (e_notN h)
end
theorem PT.move {K : PySem.W.Frag} {H H' : Hp} {A : Ad} {t : Tk} {a : Addr} {g : Gr} (h : PT K H a A g t) (k : TK H H') (e : ∀ b ∈ a :: A.fp, H' b = H b) : PT K H' a A g t := by
  obtain ⟨dx, gv, tv, q, f1, f2⟩ := h.i
  exact ⟨⟨dx, gv, tv, (e a (by simp)).trans q, f1.tk k (tb_eG _), f2.tk k (tb_eTabs _)⟩, h.r.move k fun b hb => e b (List.mem_cons_of_mem _ hb)⟩
theorem ins_tk {H : Hp} {a C dx : Addr} {fs fs' : List (Str × V)} (e : H a = some (.ins C dx fs)) : TK H (upd H a (.ins C dx fs')) := tk_upd e (fun xs z => by cases z)
end Tt

/-! Lists of new lists. -/
namespace Tt
open PySem L2 RZ
section
variable {K : PySem.W.Frag} {σ : St} {H H' : Hp} {ta tb tc te ti tx to tv : TE} {d e : PyData} {v : V} {ds es : List PyData} {D : Ends} {w : TS}
abbrev LL (H : Hp) (a : Addr) (ds : List PyData) : Prop := ∃ zs, H a = some (.lst zs) ∧ FzAll H zs ds
theorem LL.same {a : Addr} (h : LL H a ds) (s : Same H H') : LL H' a ds := by
  obtain ⟨zs, e, f⟩ := h
  exact ⟨zs, s _ _ e, f.same s⟩
theorem LL.move {a : Addr} (h : LL H a ds) (k : TK H H') (e : H' a = H a) (hb : tupsB ds = true) : LL H' a ds := by
  obtain ⟨zs, q, f⟩ := h
  exact ⟨zs, e.trans q, f.tk k hb⟩
theorem lcL {α : Type} {xs : List α} {enc : α → PyData} {wi : TI} {gt : TG} {vs : List Nat} {σw : St} {P : α → St → Hp → Prop} (g : α → List PyData)
    (hw : WF wi σ H (xs.map enc)) (h1 : wipe σ vs = σw) (hz : xs.length ≤ 100000)
    (hs : ∀ x ∈ xs, ∀ y H1, Same H H1 → Fz H1 y (enc x) → ∀ S : St → Hp → Prop, (∀ σ2, wipe σ2 vs = σw → P x σ2 H1 → S σ2 H1) → gt y σw H1 S)
    (hg : ∀ x ∈ xs, tupsB (g x) = true) (ht : ∀ x ∈ xs, ∀ σ2 H1, Same H H1 → P x σ2 H1 → EL te σ2 H1 (g x))
    {Q : VK} (q : ∀ p ps H2, Same H H2 → H2 p = some (.lst (ps.map V.ref)) → (p :: ps).Nodup → (∀ b ∈ p :: ps, H b = none) → Paired (fun a x => LL H2 a (g x)) ps xs → Q (.ref p) H2) : tLc wi gt tYes te vs σ H Q := hw H (Same.refl H) _ fun J H1 s1 jok => by
  intro D hD
  have dI : ∀ {i : Nat}, i < xs.length → ∃ x, xs[i]? = some x ∧ x ∈ xs := fun {i} hi => ⟨xs[i], by simp [hi], by simp⟩
  have W : Walk J xs.length (fun H => Same H1 H) (fun i H3 x H' => Same H3 H' ∧ ∀ z, xs[i]? = some z → Fz H' x (enc z)) := by
    refine ⟨fun i H3 hi s => (jok i H3 s).1 (by simpa using hi), fun H3 s => (jok _ H3 s).2.1 (by simp), fun i H3 x H' hi s y => ?_⟩
    obtain ⟨z, hz, _⟩ := dI hi
    obtain ⟨r1, r2⟩ := (jok i H3 s).2.2 x H' y (enc z) (by simp [hz])
    exact ⟨r1, fun z' hz' => by
      rw [hz] at hz'
      cases hz'
      exact r2⟩
  refine lc_it W (fun i H => Same H1 H ∧ ∃ ps, H D = some (.lst (ps.map V.ref)) ∧ (D :: ps).Nodup ∧ (∀ b ∈ D :: ps, H1 b = none) ∧ Paired (fun a x => LL H a (g x) ∧ tupsB (g x) = true) ps (xs.take i)) ⟨same_new hD, [], upd_same, by simp, by simpa using hD, by rw [List.take_zero]; exact .nil⟩ (fun i H _ p => p.1) ?_ ?_
  · rintro i x H3 H' hi ⟨s3, ps, hps, hnd, hfr, facc⟩ ⟨s4, hx⟩
    obtain ⟨z, hz, hm⟩ := dI hi
    have s5 := s3.trans s4
    rw [h1]
    refine hs z hm x H' (s1.trans s5) (hx z hz) _ fun σ2 hw2 hP => ⟨hw2, ?_⟩
    have hD6 : H' D = some (.lst (ps.map V.ref)) := s4 _ _ hps
    show te σ2 H' _
    refine (ht z hm σ2 H' (s1.trans s5) hP).go fun p zs H7 n7 s7 e7 f7 => ?_
    have hD7 : H7 D = some (.lst (ps.map V.ref)) := s7 _ _ hD6
    have hl : (ps.map V.ref).length ≤ 100000 := by
      have := Paired.length facc
      rw [List.length_take] at this
      rw [List.length_map]
      omega
    have hpD : p ≠ D := fun e => by
      rw [e, hD6] at n7
      cases n7
    have hold : ∀ a ∈ ps, ∃ o, H' a = some o := by
      intro a ha
      obtain ⟨j, hj, rfl⟩ := List.mem_iff_getElem.mp ha
      obtain ⟨_, _, ⟨zs, e, _⟩, _⟩ := paired_get facc (List.getElem?_eq_getElem hj)
      exact ⟨_, s4 _ _ e⟩
    have hpn : p ∉ ps := fun hp => by
      obtain ⟨o, e⟩ := hold p hp
      rw [n7] at e
      cases e
    have tkU : TK H7 (upd H7 D (.lst (ps.map V.ref ++ [V.ref p]))) := tk_upd hD7 (fun xs z => by cases z)
    refine ⟨_, hD7, Nat.lt_of_le_of_lt hl (by decide), ?_, ps ++ [p], by rw [List.map_append]; exact upd_same, ?_, ?_, ?_⟩
    · intro b o hb
      rw [upd_ne (ne_of_none hb hD)]
      exact s7 _ _ (s5 _ _ hb)
    · rw [← List.cons_append]
      refine List.nodup_append.mpr ⟨hnd, List.nodup_cons.mpr ⟨by simp, List.nodup_nil⟩, fun a ha b hb e => ?_⟩
      rw [List.mem_singleton.mp hb] at e
      rcases List.mem_cons.mp ha with h | h
      · exact hpD (e ▸ h)
      · exact hpn (e ▸ h)
    · intro b hb
      rw [← List.cons_append] at hb
      rcases List.mem_append.mp hb with h | h
      · exact hfr b h
      · rw [List.mem_singleton.mp h]
        exact s5.free n7
    · rw [List.take_add_one, hz]
      refine paired_snoc (paired_mem facc fun a ha x r => ⟨(r.1.same (s4.trans s7)).move tkU (upd_ne (fun e => ?_)) r.2, r.2⟩) ⟨⟨zs, by rw [upd_ne hpD]; exact e7, f7.tk tkU (hg z hm)⟩, hg z hm⟩
      rw [List.nodup_cons] at hnd
      exact hnd.1 (e ▸ ha)
  · rintro H3 ⟨s3, ps, hps, hnd, hfr, facc⟩
    rw [List.take_length] at facc
    exact q D ps H3 (s1.trans s3) hps hnd (fun b hb => s1.free (hfr b hb)) (paired_mono (fun _ _ r => r.1) facc)
/-- [x] * n -/
theorem el_rep {n : Nat} (ha : EL ta σ H [d]) (hb : EF tb σ H (.int (n : Int))) (hn : n ≤ 100000) : EL (tOp rRep ta tb) σ H (List.replicate n d) := fun H1 a Q q =>
  ha H1 a _ fun p xs H2 n2 s2 e2 f2 => hb H2 (a.trans s2) _ fun y H3 s3 f3 => by
    obtain rfl := f3.intI
    obtain ⟨x, rfl, fx⟩ := f2.oneI
    refine ⟨p, n, [x], rfl, rfl, s3 _ _ e2, by omega, by omega, ?_, fun l hl => q l _ _ ((s2.trans s3).free hl) ((s2.trans s3).trans (same_new hl)) upd_same ?_⟩
    · simp
      exact Nat.le_trans hn (by decide)
    · have fx' := (fx.same s3).same (same_new (o := .lst (List.replicate (n : Int).toNat [x]).flatten) hl)
      rw [Int.toNat_natCast] at fx' ⊢
      generalize upd H3 l _ = H4 at fx'
      clear hb hn q f3
      induction n with
      | zero => exact .nil
      | succ n ih =>
        rw [List.replicate_succ, List.replicate_succ]
        exact .cons fx' ih
end
end Tt

namespace Tt
open PySem PySem.Spec PyProof.Rows L2 RZ
open C8 (Cal Met Mak pe_c pe_mk pe_mt pe_mt0 pe_gc)
section
variable {P : Program} {w : World} {K : PySem.W.Frag} {mg : Str → Option Value} {base : Heap}
def cO : PyData → Option Int
  | .int x => some x
  | _ => none
def spSet (K : PySem.W.Frag) : Sp := fun vs H Q E => ∃ a A g t node row c rv cv, vs = [.ref a, .int (node : Nat), rv, cv] ∧ PT K H a A g t ∧ GOK g ∧ Good g t ∧ node < g.n ∧ Fz H rv (eR row) ∧ Fz H cv c ∧ (c = .none ∨ ∃ x, c = .int x) ∧ RowOK g.vals (g.sc node) row ∧ (t.tabs.getD node []).length ≤ 59 ∧
  (setT g t node row (cO c)).1.way.length ≤ 40 ∧ ∀ H', Fr (a :: A.fp) H H' → PT K H' a A g (setT g t node row (cO c)).1 → Q (.int ((setT g t node row (cO c)).2 : Nat)) H'
theorem set_cut {l : List Tab} {n : Nat} {x : Tab} (h : n < l.length) : (l.map eTab).take n ++ [eTab x] ++ (l.map eTab).drop (n + 1) = (l.set n x).map eTab := by
  rw [← List.map_take, ← List.map_drop, List.set_eq_take_append_cons_drop, if_pos h, List.map_append, List.map_cons]
  simp
theorem sc_Talk_set_row : FnScope ["self", "node", "row", "cost", "rows", "pair"] ["self", "node", "row", "cost"] (defScope s_Talk_set_row) := ⟨rfl, rfl, rfl, by decide +kernel, rfl, by decide +kernel, by decide +kernel⟩
theorem met_Talk_set_row (T : Tx K mg) : Met P w K mg base 6 (CTalk K) "set_row" (spSet K) [] :=
  T.met 74 rfl T.cls_Talk T.me_Talk_set_row sc_Talk_set_row (fun _ _ _ _ _ _ us hl => match us, hl with | [_, _, _, _], _ => rfl) (fun vs H Q E ⟨_, _, _, _, _, _, _, _, _, e, _⟩ => by rw [e]; rfl) fun f cdv A' outer s H vs Q E hr h => by
    obtain ⟨a, A, g, t, node, row, c, rv, cv, rfl, pt, G, gd, hn, fr, fc, hc, hrow, hfew, hw, k⟩ := h
    refine ⟨_, (pss_cons (ps_setLc (i := 4) (own := [("pair", 5)]) (g := gName 5) (by rfl) sc_Talk_set_row.nd rfl rfl (sw_true rfl rfl rfl (by decide +kernel)) (k_piT (K := K) (pe_ix (k_ixT (K := K)) (k_fld (K := K) (pv 0)) (pv 1) (fun _ _ => rfl))) (blkOk_by (N := ["self", "node", "row", "cost", "rows", "pair"]) (sc := defScope s_Talk_set_row) (by decide +kernel)) (fun _ _ _ _ _ => (pg_name (i := 5) sc_Talk_set_row.nd rfl (Or.inl rfl))) (fun _ _ _ _ _ => (pts_one (pt_cmpR (k_neD (K := K) hr.units) (pe_ix (k_ixT (K := K)) (pv 5) pe_int (fun _ _ => rfl)) (pv 2) (nomark _)))) (fun _ _ _ _ _ => (pv 5)))
      (pss_cons (ps_if (pt_cmpR op_notN (pv 3) pe_non (nomark _)) (pss_one (ps_expr (k_bm (K := K) PySem.F.plainAttrs_list PySem.F.slot_list_append PySem.F.type_list_append mt_append (pv 4) (pa_cons (pe_tup (pa_cons (pv 2) (pa_cons (pv 3) pa_nil))) pa_nil)))) pss_nil)
      (pss_cons (ps_fld (pv 0) (pe_op (k_catA (K := K)) (pe_op (k_catA (K := K)) (pe_slice (k_slA (K := K)) (k_fld (K := K) (pv 0)) po_none (po_some (pv 1))) (pe_tup (pa_cons (pe_callTy (k_tupOf (K := K)) (by rfl) T.n_tuple (by decide +kernel) (pa_cons (pe_callB (cr_sortedRC (K := K) (Nat.lt_of_le_of_lt (Nat.add_le_add_left (by decide : 2 ≤ 64) _) hr.units)) (by rfl) T.n_sorted (by decide +kernel) (pa_cons (pv 4) pa_nil)) pa_nil)) pa_nil))) (pe_slice (k_slA (K := K)) (k_fld (K := K) (pv 0)) (po_some (pe_op op_add (pv 1) pe_int)) po_none)) rfl)
      (pss_one (ps_ret (pe_mt (met_Talk_update T) hr (by decide) (pv 0) (pa_cons (pv 1) pa_nil))))))), ?_⟩
    have hn4 := G.n4
    have tl := gd.tabs.len
    have htn : node < t.tabs.length := by omega
    have tok := gd.tabs.ok node hn
    have tabAt : atI (t.tabs.map eTab) (node : Int) = some (eTab (t.tabs.getD node [])) := map_at [] htn
    refine s_asgL (el_flt1 (xs := t.tabs.getD node []) (enc := eP) (f := fun p => !decide (p.1 = row)) (g := eP) (w_tup (e_ixT (pt.e_tables T (at_var rfl)) (e_var rfl (.int _)) tabAt)) (by omega) (fun _ _ _ => tb_eP _) (fun p hp y H1 s1 fy =>
      ⟨t_test (e_neR (e_ixT (e_var rfl fy) e_int (by rfl)) (e_var rfl (fr.same s1))), fun _ => e_var rfl fy⟩)) fun pl xl H1 nl s1 el fl => ?_
    have hpl : pl ∉ a :: A.fp := fun hb => by
      rcases List.mem_cons.mp hb with h | h
      · obtain ⟨_, _, _, q, _⟩ := pt.i
        rw [h, q] at nl
        cases nl
      · obtain ⟨ys, e⟩ := pt.r.lst h
        rw [nl] at e
        cases e
    have pt1 := pt.same s1
    refine s_ifC (fun σ2 H2 => σ2 = [some (.ref a), some (.int (node : Nat)), some rv, some cv, some (.ref pl), none] ∧ PT K H2 a A g t ∧ Same H H2 ∧ ∃ xs, H2 pl = some (.lst xs) ∧ FzAll H2 xs (((t.tabs.getD node []).filter (fun p => !decide (p.1 = row)) ++ (match cO c with
      | some x => [(row, x)]
      | none => [])).map eP)) (e_notNt (e_var rfl (fc.same s1))) (fun W hW hb H2 s2 => ?_) (fun hb H2 s2 => ?_) ?_
    · rcases hc with rfl | ⟨x, rfl⟩
      · cases hb
      · have hlen := List.length_filter_le (fun p : Row × Int => !decide (p.1 = row)) (t.tabs.getD node [])
        refine s_appV (Q := fun _ _ => True) (s2 _ _ el) (at_var rfl) (e_tup (ea_cons (e_var rfl (fr.same (s1.trans s2))) (ea_cons (e_var rfl (fc.same (s1.trans s2))) ea_nil))) ?_ fun v H3 s3 fv => hW _ _ ⟨rfl, ?_, ?_, _, upd_same, ?_⟩
        · rw [fl.len, List.length_map]
          omega
        · have tk3 : TK H3 (upd H3 pl (.lst (xl ++ [v]))) := tk_upd (s3 _ _ (s2 _ _ el)) (fun xs z => by cases z)
          exact (pt1.same (s2.trans s3)).move tk3 fun b hb => upd_ne (fun e => hpl (e ▸ hb))
        · exact same_mut ((s1.trans s2).trans s3) nl
        · have tk3 : TK H3 (upd H3 pl (.lst (xl ++ [v]))) := tk_upd (s3 _ _ (s2 _ _ el)) (fun xs z => by cases z)
          rw [List.map_append]
          exact ((fl.same (s2.trans s3)).tk tk3 (tupsB_map tb_eP)).snoc (fv.tk tk3 (tb_eP (row, x)))
    · rcases hc with rfl | ⟨x, rfl⟩
      · refine ⟨rfl, pt1.same s2, s1.trans s2, _, s2 _ _ el, ?_⟩
        show FzAll H2 xl ((_ ++ []).map eP)
        rw [List.append_nil]
        exact fl.same s2
      · cases hb
    · rintro σ2 H2 ⟨rfl, pt2, s02, xs, exs, fxs⟩
      have hnd := tab_rows (t.tabs.getD node []) row (cO c) tok.nd
      have htt : ∀ {H3 : Hp}, Same H2 H3 → EF (tTup (tCons (tCB (rTupQ K) (tCons (tCB (rSortedRC K) (tCons (tVar 4) tNil)) tNil)) tNil)) [some (.ref a), some (.int (node : Nat)), some rv, some cv, some (.ref pl), none] H3 (.tuple [eTab (tabT (t.tabs.getD node []) row (cO c))]) := fun s3 =>
        e_tup (ea_cons (e_tupL (EL.ef (el_sortedRC (e_var rfl (Fz.lst (s3 _ _ exs) (fxs.same s3))) hnd))) ea_nil)
      obtain ⟨dx, gv, tv, ei, fg, ft⟩ := pt2.i
      refine s_fldK (d := eTabs (t.tabs.set node (tabT (t.tabs.getD node []) row (cO c)))) ((e_catA (e_catA (e_slTo (n := node) (pt2.e_tables T (at_var rfl)) (e_var rfl (.int _))) (htt (Same.refl _)) (by simp; omega)) (e_slFrom (n := node + 1) (pt2.e_tables T (at_var rfl)) ((e_add (e_var rfl (.int _)) e_int).is (by simp))) (by simp; omega)).is (by rw [set_cut htn]; rfl)) (at_var rfl) ei T.cls_Talk T.no_Talk_tables (by simp [ftk]) fun v H3 s3 fv => ?_
      have ei3 := s3 _ _ ei
      have tk3 : TK H3 (upd H3 a (.ins (CTalk K) dx (putF "tables" v (ftk gv tv A)))) := ins_tk ei3
      have pt3 := pt2.same s3
      have pt4 : PT K (upd H3 a (.ins (CTalk K) dx (putF "tables" v (ftk gv tv A)))) a A g { t with tabs := t.tabs.set node (tabT (t.tabs.getD node []) row (cO c)) } := by
        refine ⟨⟨dx, gv, v, upd_same, (fg.same s3).tk tk3 (tb_eG _), fv.tk tk3 (tb_eTabs _)⟩, ?_⟩
        have r := pt3.r.move tk3 fun b hb => upd_ne (fun e => pt3.out (e ▸ hb))
        exact ⟨r.s, r.sent, r.k, r.w, r.nd⟩
      have fr4 : Fr (a :: A.fp) H (upd H3 a (.ins (CTalk K) dx (putF "tables" v (ftk gv tv A)))) := (Fr.same (s02.trans s3)).trans (fr_upd (by simp))
      generalize upd H3 a (.ins (CTalk K) dx (putF "tables" v (ftk gv tv A))) = H4 at pt4 fr4 tk3 ⊢
      obtain ⟨dx4, gv4, tv4, ei4, _, _⟩ := pt4.i
      have gd4 := gd.setTabs (tabs_set gd.tabs hn (tabT_ok (c := cO c) tok hfew hrow).1)
      refine m_go (Q := Q) (at_var rfl) ei4 rfl (ea_cons (e_var rfl (.int _)) ea_nil) fun vs5 H5 s5 f5 => ?_
      obtain ⟨v5, rfl, fv5⟩ := f5.oneI
      obtain rfl := fv5.intI
      exact ⟨a, A, g, _, node, rfl, pt4.same s5, G, hn, gd4.tabs, gd4.km.ms G, gd4.fit, hw, fun H6 fr6 pt6 => k H6 ((fr4.trans (Fr.same s5)).trans (fr6.sub fun b hb => by simp [hb])) pt6⟩
end
end Tt

namespace Tt
open PySem PySem.Spec PyProof.Rows L2 RZ
open C8 (Cal Met Mak pe_c pe_mk pe_mt pe_mt0 pe_gc)
section
variable {P : Program} {w : World} {K : PySem.W.Frag} {mg : Str → Option Value} {base : Heap}
theorem Tx.mak (T : Tx K mg) (i j : Nat) {c q : Str} {st : Stmt} {N ps : List Str} {k : Nat} {sp : Sp} (hd : fn[i]? = some ⟨(c, some "__init__"), "__init__", q, defArgs st, defBody st, defScope st, [], []⟩) (hg : fa[j]? = some (.glo c)) (M : Mk K (He.ga K c) (He.ma K (He.ga K c) "__init__")) (S : FnScope N ps (defScope st))
    (hb : ∀ (kV doc pm : Value) (an : Option Addr) (cdv ct : Value) (us : List Value), us.length = ps.length → bindArgs (PySem.W.fnOf "__init__" q (defArgs st) (defBody st) (defScope st) .none kV doc pm an cdv ct) ⟨us, []⟩ = pure (ps.zip us))
    (len : ∀ vs H Q E, sp vs H Q E → vs.length = ps.length) (body : BodyOk P w K mg base N q st k sp) : Mak P w K mg base (k + 1) c (He.ga K c) sp [] := by
  obtain ⟨fd, F⟩ := T.c.def_ i hd
  exact ⟨_, fd, ps, [], M, okD F S len (body _), T.glo j hg, F.bindsN hb, .nil⟩
def spRes (K : PySem.W.Frag) : Sp := fun vs H Q E => ∃ a A g t x y, vs = [.ref a, .int (x : Nat), .int (y : Nat)] ∧ PT K H a A g t ∧ GOK g ∧ Good g t ∧ (x, y) ∈ dirs g ∧ t.way.length < 40 ∧ ∀ H', Fr A.fp H H' → PT K H' a A g (resT g t x y).1 → Q (.int ((resT g t x y).2 : Nat)) H'
theorem sc_Talk_resend : FnScope ["self", "node", "other", "place", "number"] ["self", "node", "other"] (defScope s_Talk_resend) := ⟨rfl, rfl, rfl, by decide +kernel, rfl, by decide +kernel, by decide +kernel⟩
theorem met_Talk_resend (T : Tx K mg) : Met P w K mg base 2 (CTalk K) "resend" (spRes K) [] :=
  T.met 75 rfl T.cls_Talk T.me_Talk_resend sc_Talk_resend (fun _ _ _ _ _ _ us hl => match us, hl with | [_, _, _], _ => rfl) (fun vs H Q E ⟨_, _, _, _, _, _, e, _⟩ => by rw [e]; rfl) fun f cdv A' outer s H vs Q E hr h => by
    obtain ⟨a, A, g, t, x, y, rfl, pt, G, gd, hd, hw, k⟩ := h
    refine ⟨_, (pss_cons (ps_set (i := 3) sc_Talk_resend.nd rfl (Or.inl rfl) (k_bm (K := K) PySem.F.plainAttrs_list PySem.F.slot_list_index PySem.F.type_list_index (k_index (K := K) (hu65 hr)) (pe_c (cal_directions_of T) hr (by decide) rfl (pa_cons (k_fld (K := K) (pv 0)) pa_nil)) (pa_cons (pe_tup (pa_cons (pv 1) (pa_cons (pv 2) pa_nil))) pa_nil)))
      (pss_cons (ps_set (i := 4) sc_Talk_resend.nd rfl (Or.inl rfl) (pe_op op_sub (pe_callB (k_len (K := K)) (by rfl) T.n_len (by decide +kernel) (pa_cons (pe_ix (k_ixL (K := K)) (k_fld (K := K) (pv 0)) (pv 3) (fun _ _ => rfl)) pa_nil)) pe_int))
      (pss_cons (ps_if (pt_cmpR op_eq (pv 4) pe_int (nomark _)) (pss_one (ps_ret pe_int)) pss_nil)
      (pss_cons (ps_expr (pe_mt (met_Talk_put T) hr (by decide) (pv 0) (pa_cons (pv 3) (pa_cons (pv 4) pa_nil))))
      (pss_one (ps_ret pe_int)))))), ?_⟩
    have he3 := G.e3
    have hi := dix_lt hd
    have hk := gd.fit.kb _ hi
    have hsl : dix g x y < t.sent.length := by rw [gd.fit.sl]; exact hi
    refine s_asg (e_index (EL.ef (e_callL (ea_cons (pt.e_graph T (at_var rfl)) ea_nil) ⟨g, rfl, by omega, rfl⟩)) (e_tup (ea_cons (e_var rfl (.int _)) (ea_cons (e_var rfl (.int _)) ea_nil))) hd) fun vp H1 s1 fp => ?_
    obtain rfl := fp.intI
    have pt1 := pt.same s1
    have hsn : atI (t.sent.map fun m => PyData.list (m.map eM)) ((dix g x y : Nat) : Int) = some (PyData.list ((t.snt (dix g x y)).map eM)) := map_at (f := fun m : List Msg => PyData.list (m.map eM)) [] hsl
    refine s_asg (d := .int (((t.snt (dix g x y)).length - 1 : Nat) : Int)) ((e_sub (e_lenL (e_ixL (at_e (pt1.a_sent T (at_var rfl)) pt1.r.fs) (e_var rfl (.int _)) hsn)) e_int).is (by rw [List.length_map, Int.ofNat_sub (by omega)]; rfl)) fun vn H2 s2 fn => ?_
    obtain rfl := fn.intI
    have pt2 := pt1.same s2
    refine s_ifQ (t_test (e_eqI (e_var rfl (.int _)) e_int)) (fun hz H3 s3 => ?_) fun hz H3 s3 => ?_
    · have hz' := of_decide_eq_true hz
      have er : resT g t x y = (t, 0) := by
        unfold resT
        rw [if_pos (by omega)]
      rw [er] at k
      exact EF.ret (d := .int ((0 : Nat) : Int)) e_int fun v H4 s4 f4 => by
        obtain rfl := f4.intI
        exact k H4 (Fr.same (((s1.trans s2).trans s3).trans s4)) (pt2.same (s3.trans s4))
    · have hz' := of_decide_eq_false hz
      have er : resT g t x y = ({ t with way := t.way ++ [(dix g x y, (t.snt (dix g x y)).length - 1)] }, 1) := by
        unfold resT
        rw [if_neg (by omega)]
      rw [er] at k
      have pt3 := pt2.same s3
      obtain ⟨dx, gv, tv, ei, _, _⟩ := pt3.i
      refine s_dropK (m_go (at_var rfl) ei rfl (ea_cons (e_var rfl (.int _)) (ea_cons (e_var rfl (.int _)) ea_nil)) fun vs4 H4 s4 f4 => ?_)
      obtain ⟨v1, v2, rfl, f41, f42⟩ := f4.I2
      obtain rfl := f41.intI
      obtain rfl := f42.intI
      refine ⟨a, A, g, t, dix g x y, (t.snt (dix g x y)).length - 1, rfl, pt3.same s4, hw, fun H5 fr5 pt5 => ?_⟩
      refine EF.ret (d := .int ((1 : Nat) : Int)) e_int fun v H6 s6 f6 => ?_
      obtain rfl := f6.intI
      exact k H6 ((Fr.same (((s1.trans s2).trans s3).trans s4)).trans (fr5.trans (Fr.same s6))) (pt5.same s6)
/-- a new talk -/
def newT (g : Gr) (tabs : List Tab) : Tk := ⟨tabs, (computed g tabs).map fun m => [m], List.replicate (computed g tabs).length 0, []⟩
def spInit (K : PySem.W.Frag) : Sp := fun vs H Q E => ∃ a dx gv tv g tabs, vs = [.ref a, gv, tv] ∧ H a = some (.ins (CTalk K) dx []) ∧ Fz H gv (eG g) ∧ Fz H tv (eTabs tabs) ∧ GOK g ∧ TabsOK g tabs ∧
  ∀ H' A, Fr [a] H H' → (∀ b ∈ A.fp, H b = none) → PT K H' a A g (newT g tabs) → Q .non H'
abbrev FldK (K : PySem.W.Frag) (to : TE) (f : Str) (w : TS) (D : Ends) (σ : L2.St) : VK := fun y H1 => to σ H1 fun x H2 => ∃ a C dx fs, x = .ref a ∧ H2 a = some (.ins C dx fs) ∧ Cls K C ∧ NoAttr K C f ∧ fs.length < 1000 ∧ w D σ (upd H2 a (.ins C dx (putF f y fs)))
theorem s_fldR {σ : L2.St} {H : Hp} {to tv : TE} {f : Str} {w : TS} {D : Ends} (h : tv σ H (FldK K to f w D σ)) : tSeq (sFld K to tv f) w D σ H := h
theorem fldK {σ : L2.St} {H : Hp} {to : TE} {f : Str} {w : TS} {D : Ends} {C dx a : Addr} {fs : List (Str × V)} {y : V} (ho : AtD to σ H a) (e : H a = some (.ins C dx fs)) (c : Cls K C) (n : NoAttr K C f) (hl : fs.length < 1000) (k : w D σ (upd H a (.ins C dx (putF f y fs)))) : FldK K to f w D σ y H :=
  ho H (Same.refl H) _ ⟨a, C, dx, fs, rfl, e, c, n, hl, k⟩
abbrev wEnd : TS := fun D σ H => D.nx σ H
theorem s_fld1 {σ : L2.St} {H : Hp} {to tv : TE} {f : Str} {D : Ends} (h : tv σ H (FldK K to f wEnd D σ)) : sFld K to tv f D σ H := h
theorem Fr1.list {H H' : Hp} {a p : Addr} {xs : List V} (k : Fr [a] H H') (e : H p = some (.lst xs)) (ne : p ≠ a) : H' p = some (.lst xs) := k _ _ (by simpa using ne) e
theorem sc_Talk___init__ : FnScope ["self", "graph", "tables", "message"] ["self", "graph", "tables"] (defScope s_Talk___init__) := ⟨rfl, rfl, rfl, by decide +kernel, rfl, by decide +kernel, by decide +kernel⟩
theorem mak_Talk (T : Tx K mg) : Mak P w K mg base 7 "Talk" (CTalk K) (spInit K) [] :=
  T.mak 66 67 rfl rfl T.mk_Talk sc_Talk___init__ (fun _ _ _ _ _ _ us hl => match us, hl with | [_, _, _], _ => rfl) (fun vs H Q E ⟨_, _, _, _, _, _, e, _⟩ => by rw [e]; rfl) fun f cdv A' outer s H vs Q E hr h => by
    obtain ⟨a, dx, gv, tv, g, tabs, rfl, ea, fg, ft, G, ht, k⟩ := h
    refine ⟨_, (pss_cons (ps_fld (pv 0) (pv 1) rfl)
      (pss_cons (ps_fld (pv 0) (pv 2) rfl)
      (pss_cons (ps_fld (pv 0) (pe_lc (own := [("message", 3)]) (g := gName 3) (tt := tYes) rfl sc_Talk___init__.nd (k_piT (K := K) (pe_c (cal_computed T) hr (by decide) rfl (pa_cons (pv 1) (pa_cons (pv 2) pa_nil)))) (blkOk_by (N := ["self", "graph", "tables", "message"]) (sc := defScope s_Talk___init__) (by decide +kernel)) (fun _ _ _ _ _ => (pg_name (i := 3) sc_Talk___init__.nd rfl (Or.inl rfl))) (fun _ _ _ _ _ => pts_nil) (fun _ _ _ _ _ => (pe_lst (pa_cons (pv 3) pa_nil)))) rfl)
      (pss_cons (ps_fld (pv 0) (pe_op op_rep (pe_lst (pa_cons pe_int pa_nil)) (pe_callB (k_len (K := K)) (by rfl) T.n_len (by decide +kernel) (pa_cons (k_fld (K := K) (pv 0)) pa_nil))) rfl)
      (pss_one (ps_fld (pv 0) (pe_lst pa_nil) rfl)))))), ?_⟩
    have hcl : (computed g tabs).length = (dirs g).length := by rw [computed_eq]; exact (iter_bd G ht _).len
    have he3 := G.e3
    have hdl := dirs_len g
    refine s_fldK (e_var rfl fg) (at_var rfl) ea T.cls_Talk T.no_Talk_graph (by simp) fun gv1 H1 s1 fg1 => ?_
    have tk1 : TK H1 (upd H1 a (.ins (CTalk K) dx [("graph", gv1)])) := ins_tk (s1 _ _ ea)
    show tSeq (sFld K (tVar 0) (tVar 2) "tables") _ _ _ (upd H1 a (.ins (CTalk K) dx [("graph", gv1)]))
    refine s_fldK (e_var rfl ((ft.same s1).tk tk1 (tb_eTabs _))) (at_var rfl) upd_same T.cls_Talk T.no_Talk_tables (by simp) fun tv2 H2 s2 ft2 => ?_
    have e2 : H2 a = some (.ins (CTalk K) dx [("graph", gv1)]) := s2 _ _ upd_same
    have tk2 : TK H2 (upd H2 a (.ins (CTalk K) dx [("graph", gv1), ("tables", tv2)])) := ins_tk e2
    show tSeq (sFld K (tVar 0) _ "sent") _ _ _ (upd H2 a (.ins (CTalk K) dx [("graph", gv1), ("tables", tv2)]))
    have fg3 : Fz (upd H2 a (.ins (CTalk K) dx [("graph", gv1), ("tables", tv2)])) gv1 (eG g) := ((fg1.tk tk1 (tb_eG _)).same s2).tk tk2 (tb_eG _)
    have ft3 : Fz (upd H2 a (.ins (CTalk K) dx [("graph", gv1), ("tables", tv2)])) tv2 (eTabs tabs) := ft2.tk tk2 (tb_eTabs _)
    have fgp : Fz (upd H2 a (.ins (CTalk K) dx [("graph", gv1), ("tables", tv2)])) gv (eG g) := ((((fg.same s1).tk tk1 (tb_eG _)).same s2).tk tk2 (tb_eG _))
    have ftp : Fz (upd H2 a (.ins (CTalk K) dx [("graph", gv1), ("tables", tv2)])) tv (eTabs tabs) := ((((ft.same s1).tk tk1 (tb_eTabs _)).same s2).tk tk2 (tb_eTabs _))
    have e3 : (upd H2 a (.ins (CTalk K) dx [("graph", gv1), ("tables", tv2)])) a = some (.ins (CTalk K) dx [("graph", gv1), ("tables", tv2)]) := upd_same
    have fr3 : Fr [a] H (upd H2 a (.ins (CTalk K) dx [("graph", gv1), ("tables", tv2)])) := (((Fr.same s1).trans (fr_upd (by simp))).trans (Fr.same s2)).trans (fr_upd (by simp))
    generalize upd H2 a (.ins (CTalk K) dx [("graph", gv1), ("tables", tv2)]) = H3 at fg3 ft3 fgp ftp e3 fr3 ⊢
    have nH : ∀ b, H3 b = none → H b = none := fun b hb => by
      cases e : H b with
      | none => rfl
      | some o =>
        by_cases q : b = a
        · rw [q, e3] at hb
          cases hb
        · rw [fr3 b o (by simpa using q) e] at hb
          cases hb
    refine s_fldR (lcL (xs := computed g tabs) (enc := eM) (P := fun m σ2 H4 => ∃ y, σ2 = [some (.ref a), some gv, some tv, some y] ∧ Fz H4 y (eM m)) (fun m => [eM m]) (w_tup (e_call (ea_cons (e_var rfl fgp) (ea_cons (e_var rfl ftp) ea_nil)) ⟨g, tabs, rfl, G, ht, rfl⟩)) rfl (by omega) (fun m hm y H4 s4 fy S kk => kk [some (.ref a), some gv, some tv, some y] rfl ⟨y, rfl, fy⟩) (fun m _ => by simp [tupsB, tb_eM]) (fun m hm σ2 H4 s4 ⟨y, e, fy⟩ => by
      subst e
      exact el_lst (ea_cons (e_var rfl fy) ea_nil)) fun p ps H4 s4 ep hnd hfr pr => ?_)
    have hpa : ∀ b ∈ p :: ps, b ≠ a := fun b hb e => by
      have := hfr b hb
      rw [e, e3] at this
      cases this
    refine fldK (at_var rfl) (s4 _ _ e3) T.cls_Talk T.no_Talk_sent (by simp) ?_
    show tSeq (sFld K (tVar 0) _ "kept") _ _ _ (upd H4 a (.ins (CTalk K) dx [("graph", gv1), ("tables", tv2), ("sent", .ref p)]))
    have tk5 : TK H4 (upd H4 a (.ins (CTalk K) dx [("graph", gv1), ("tables", tv2), ("sent", .ref p)])) := ins_tk (s4 _ _ e3)
    have ep5 : (upd H4 a (.ins (CTalk K) dx [("graph", gv1), ("tables", tv2), ("sent", .ref p)])) p = some (.lst (ps.map V.ref)) := by rw [upd_ne (hpa p (by simp))]; exact ep
    have pr5 : Paired (fun b m => LL (upd H4 a (.ins (CTalk K) dx [("graph", gv1), ("tables", tv2), ("sent", .ref p)])) b [eM m]) ps (computed g tabs) := paired_mem pr fun b hb m r => r.move tk5 (upd_ne (hpa b (by simp [hb]))) (by simp [tupsB, tb_eM])
    have fg5 := (fg3.same s4).tk tk5 (tb_eG _)
    have ft5 := (ft3.same s4).tk tk5 (tb_eTabs _)
    have e5 : (upd H4 a (.ins (CTalk K) dx [("graph", gv1), ("tables", tv2), ("sent", .ref p)])) a = some (.ins (CTalk K) dx [("graph", gv1), ("tables", tv2), ("sent", .ref p)]) := upd_same
    have fr5 : Fr [a] H3 (upd H4 a (.ins (CTalk K) dx [("graph", gv1), ("tables", tv2), ("sent", .ref p)])) := (Fr.same s4).trans (fr_upd (by simp))
    generalize upd H4 a (.ins (CTalk K) dx [("graph", gv1), ("tables", tv2), ("sent", .ref p)]) = H5 at tk5 ep5 pr5 fg5 ft5 e5 fr5 ⊢
    have fsent : ∀ {ps : List Addr} {l : List Msg}, Paired (fun b m => LL H5 b [eM m]) ps l → FzAll H5 (ps.map V.ref) (l.map fun m => .list [eM m]) := by
      intro ps l q
      induction q with
      | nil => exact .nil
      | cons r _ ih =>
        obtain ⟨zs, e, fz⟩ := r
        exact .cons (.lst e fz) ih
    refine s_fldR (EL.go (el_rep (n := (computed g tabs).length) (el_lst (ea_cons e_int ea_nil)) ((e_lenL (e_fld (at_var rfl) e5 T.cls_Talk T.no_Talk_sent rfl (Fz.lst ep5 (fsent pr5)))).is (by rw [List.length_map])) (by omega)) fun pk xk H6 nk s6 ek fk => ?_)
    have hpk : pk ≠ a := fun e => by
      rw [e, e5] at nk
      cases nk
    refine fldK (at_var rfl) (s6 _ _ e5) T.cls_Talk T.no_Talk_kept (by simp) ?_
    show sFld K (tVar 0) _ "on_way" _ _ (upd H6 a (.ins (CTalk K) dx [("graph", gv1), ("tables", tv2), ("sent", .ref p), ("kept", .ref pk)]))
    have tk7 : TK H6 (upd H6 a (.ins (CTalk K) dx [("graph", gv1), ("tables", tv2), ("sent", .ref p), ("kept", .ref pk)])) := ins_tk (s6 _ _ e5)
    have e7 : (upd H6 a (.ins (CTalk K) dx [("graph", gv1), ("tables", tv2), ("sent", .ref p), ("kept", .ref pk)])) a = some (.ins (CTalk K) dx [("graph", gv1), ("tables", tv2), ("sent", .ref p), ("kept", .ref pk)]) := upd_same
    have fr7 : Fr [a] H5 (upd H6 a (.ins (CTalk K) dx [("graph", gv1), ("tables", tv2), ("sent", .ref p), ("kept", .ref pk)])) := (Fr.same s6).trans (fr_upd (by simp))
    have ek7 : (upd H6 a (.ins (CTalk K) dx [("graph", gv1), ("tables", tv2), ("sent", .ref p), ("kept", .ref pk)])) pk = some (.lst xk) := by rw [upd_ne hpk]; exact ek
    have fk7 := fk.tk tk7 (by
      rw [tupsB_iff]
      intro d hd
      rw [(List.mem_replicate.mp hd).2]
      rfl)
    have pr7 : Paired (fun b m => LL (upd H6 a (.ins (CTalk K) dx [("graph", gv1), ("tables", tv2), ("sent", .ref p), ("kept", .ref pk)])) b [eM m]) ps (computed g tabs) := paired_mem pr5 fun b hb m r => (r.same s6).move tk7 (upd_ne (hpa b (by simp [hb]))) (by simp [tupsB, tb_eM])
    have fg7 := (fg5.same s6).tk tk7 (tb_eG _)
    have ft7 := (ft5.same s6).tk tk7 (tb_eTabs _)
    generalize upd H6 a (.ins (CTalk K) dx [("graph", gv1), ("tables", tv2), ("sent", .ref p), ("kept", .ref pk)]) = H7 at tk7 e7 fr7 ek7 fk7 pr7 fg7 ft7 ⊢
    refine s_fld1 (EL.go (el_lst ea_nil) fun pw xw H8 nw s8 ew fw => ?_)
    cases fw
    have hpw : pw ≠ a := fun e => by
      rw [e, e7] at nw
      cases nw
    refine fldK (at_var rfl) (s8 _ _ e7) T.cls_Talk T.no_Talk_on_way (by simp) ?_
    show Q _ (upd H8 a (.ins (CTalk K) dx (ftk gv1 tv2 ⟨p, pk, pw, ps⟩)))
    have tk9 : TK H8 (upd H8 a (.ins (CTalk K) dx (ftk gv1 tv2 ⟨p, pk, pw, ps⟩))) := ins_tk (s8 _ _ e7)
    have ep7 : H7 p = some (.lst (ps.map V.ref)) := fr7 _ _ (by simpa using hpa p (by simp)) ep5
    have hin7 : ∀ b ∈ p :: ps, ∃ o, H7 b = some o := fun b hb => by
      rcases List.mem_cons.mp hb with rfl | hb
      · exact ⟨_, ep7⟩
      · obtain ⟨i, hi, rfl⟩ := List.mem_iff_getElem.mp hb
        obtain ⟨_, _, zs, e, _⟩ := paired_get pr7 (List.getElem?_eq_getElem hi)
        exact ⟨_, e⟩
    have hin5 : ∀ b ∈ p :: ps, ∃ o, H5 b = some o := fun b hb => by
      rcases List.mem_cons.mp hb with rfl | hb
      · exact ⟨_, ep5⟩
      · obtain ⟨i, hi, rfl⟩ := List.mem_iff_getElem.mp hb
        obtain ⟨_, _, zs, e, _⟩ := paired_get pr5 (List.getElem?_eq_getElem hi)
        exact ⟨_, e⟩
    have hk1 : pk ∉ p :: ps := fun hb => by
      obtain ⟨o, e⟩ := hin5 _ hb
      rw [nk] at e
      cases e
    have hw1 : pw ∉ p :: ps := fun hb => by
      obtain ⟨o, e⟩ := hin7 _ hb
      rw [nw] at e
      cases e
    have hw2 : pw ≠ pk := fun e => by
      rw [e, ek7] at nw
      cases nw
    have hn3 : ∀ b, H5 b = none → b ≠ a → H3 b = none := fun b hb ne => by
      cases e : H3 b with
      | none => rfl
      | some o =>
        rw [fr5 b o (by simpa using ne) e] at hb
        cases hb
    have hn5 : ∀ b, H7 b = none → b ≠ a → H5 b = none := fun b hb ne => by
      cases e : H5 b with
      | none => rfl
      | some o =>
        rw [fr7 b o (by simpa using ne) e] at hb
        cases hb
    refine k _ ⟨p, pk, pw, ps⟩ ((fr3.trans (fr5.trans fr7)).trans ((Fr.same s8).trans (fr_upd (by simp)))) (fun b hb => ?_) ⟨⟨dx, gv1, tv2, upd_same, (fg7.same s8).tk tk9 (tb_eG _), (ft7.same s8).tk tk9 (tb_eTabs _)⟩, ?_⟩
    · simp only [Ad.fp, List.mem_cons] at hb
      rcases hb with rfl | rfl | rfl | hb
      · exact nH _ (hfr _ (by simp))
      · exact nH _ (hn3 _ nk hpk)
      · exact nH _ (hn3 _ (hn5 _ nw hpw) hpw)
      · exact nH _ (hfr _ (by simp [hb]))
    · refine ⟨by rw [upd_ne (hpa p (by simp))]; exact s8 _ _ ep7, ?_, ?_, ⟨[], by rw [upd_ne hpw]; exact ew, .nil⟩, ?_⟩
      · show Paired (LM _) ps ((computed g tabs).map fun m => [m])
        have : ∀ {qs : List Addr} {l : List Msg}, (∀ b ∈ qs, b ≠ a) → Paired (fun b m => LL H7 b [eM m]) qs l → Paired (LM (upd H8 a (.ins (CTalk K) dx (ftk gv1 tv2 ⟨p, pk, pw, ps⟩)))) qs (l.map fun m => [m]) := by
          intro qs l hne q
          induction q with
          | nil => exact .nil
          | cons r _ ih => exact .cons ((r.same s8).move tk9 (upd_ne (hne _ (by simp))) (by simp [tupsB, tb_eM])) (ih fun b hb => hne b (by simp [hb]))
        exact this (fun b hb => hpa b (by simp [hb])) pr7
      · show (upd H8 a _) pk = some (.lst ((List.replicate (computed g tabs).length 0).map fun (n : Nat) => V.int (n : Int)))
        rw [upd_ne hpk, s8 _ _ ek7]
        have e0 : (List.replicate (computed g tabs).length (PyData.int 0)) = (List.replicate (computed g tabs).length (0 : Int)).map PyData.int := by rw [List.map_replicate]
        rw [e0] at fk7
        rw [fz_ints fk7, List.map_replicate, List.map_replicate]
        rfl
      · have h1 : (p :: ps).Nodup := hnd
        rw [List.nodup_cons] at h1
        simp only [List.mem_cons, not_or] at hk1 hw1
        show (p :: pk :: pw :: ps).Nodup
        rw [List.nodup_cons, List.nodup_cons, List.nodup_cons]
        refine ⟨?_, ?_, hw1.2, h1.2⟩
        · simp only [List.mem_cons, not_or]
          exact ⟨fun e => hk1.1 e.symm, fun e => hw1.1 e.symm, h1.1⟩
        · simp only [List.mem_cons, not_or]
          exact ⟨fun e => hw2 e.symm, hk1.2⟩
end
end Tt

namespace Tt
open PySem PySem.Spec PyProof.Rows L2 RZ
open C8 (Cal Met Mak pe_c pe_mk pe_mt pe_mt0 pe_gc)
section
variable {P : Program} {w : World} {K : PySem.W.Frag} {mg : Str → Option Value} {base : Heap}
theorem mk_go {σ : L2.St} {H : Hp} {ta : TA} {Q : VK} {g : Gr} {tabs : List Tab} (h : EFA ta σ H [eG g, eTabs tabs]) (G : GOK g) (ht : TabsOK g tabs) {E : XK}
    (k : ∀ x A H', Same H H' → H x = none → (∀ b ∈ A.fp, H b = none) → PT K H' x A g (newT g tabs) → Q (.ref x) H') : tMake (CTalk K) (spInit K) [] E ta σ H Q := h.go fun vs H1 s1 f x dx nx nd hne => by
  obtain ⟨gv, tv, rfl, fg, ft⟩ := f.I2
  have s2 : Same H1 (upd (upd H1 dx (.own x)) x (.ins (CTalk K) dx [])) := (same_new nd).trans (same_new (by rw [upd_ne (Ne.symm hne)]; exact nx))
  refine ⟨x, dx, gv, tv, g, tabs, rfl, upd_same, fg.same s2, ft.same s2, G, ht, fun H' A fr hn pt => ⟨rfl, k x A H' (s1.trans fun b o e => fr b o (by simpa using ne_of_none e nx) (s2 b o e)) (s1.free nx) (fun b hb => s1.free (s2.free (hn b hb))) pt⟩⟩
def spCop (K : PySem.W.Frag) : Sp := fun vs H Q E => ∃ a A g t, vs = [.ref a] ∧ PT K H a A g t ∧ GOK g ∧ Good g t ∧ t.way.length ≤ 1000 ∧ ∀ x A' H', Same H H' → H x = none → (∀ b ∈ A'.fp, H b = none) → PT K H' x A' g t → Q (.ref x) H'
theorem sc_Talk_copied : FnScope ["self", "other", "row"] ["self"] (defScope s_Talk_copied) := ⟨rfl, rfl, rfl, by decide +kernel, rfl, by decide +kernel, by decide +kernel⟩
theorem met_Talk_copied (T : Tx K mg) : Met P w K mg base 9 (CTalk K) "copied" (spCop K) [] :=
  T.met 67 rfl T.cls_Talk T.me_Talk_copied sc_Talk_copied (fun _ _ _ _ _ _ us hl => match us, hl with | [_], _ => rfl) (fun vs H Q E ⟨_, _, _, _, e, _⟩ => by rw [e]; rfl) fun f cdv A' outer s H vs Q E hr h => by
    obtain ⟨a, A, g, t, rfl, pt, G, gd, hwl, k⟩ := h
    refine ⟨_, (pss_cons (ps_set (i := 1) sc_Talk_copied.nd rfl (Or.inl rfl) (pe_mk (mak_Talk T) hr (by decide) rfl (pa_cons (k_fld (K := K) (pv 0)) (pa_cons (k_fld (K := K) (pv 0)) pa_nil))))
      (pss_cons (ps_fld (pv 1) (pe_lc (own := [("row", 2)]) (g := gName 2) (tt := tYes) rfl sc_Talk_copied.nd (k_piL (K := K) (k_fld (K := K) (pv 0))) (blkOk_by (N := ["self", "other", "row"]) (sc := defScope s_Talk_copied) (by decide +kernel)) (fun _ _ _ _ _ => (pg_name (i := 2) sc_Talk_copied.nd rfl (Or.inl rfl))) (fun _ _ _ _ _ => pts_nil) (fun _ _ _ _ _ => (pe_callTy (k_lstOf (K := K)) (by rfl) T.n_list (by decide +kernel) (pa_cons (pv 2) pa_nil)))) rfl)
      (pss_cons (ps_fld (pv 1) (pe_callTy (k_lstOf (K := K)) (by rfl) T.n_list (by decide +kernel) (pa_cons (k_fld (K := K) (pv 0)) pa_nil)) rfl)
      (pss_cons (ps_fld (pv 1) (pe_callTy (k_lstOf (K := K)) (by rfl) T.n_list (by decide +kernel) (pa_cons (k_fld (K := K) (pv 0)) pa_nil)) rfl)
      (pss_one (ps_ret (pv 1))))))), ?_⟩
    have hdl := gd.fit.dl G
    refine s_asgK (mk_go (ea_cons (pt.e_graph T (at_var rfl)) (ea_cons (pt.e_tables T (at_var rfl)) ea_nil)) G gd.tabs fun x A1 H1 s1 nx nA1 ptx => ?_)
    obtain ⟨dx, gv, tv, ex, fg, ft⟩ := ptx.i
    have pt1 := pt.same s1
    have hax : a ≠ x := fun e => by
      obtain ⟨_, _, _, q, _⟩ := pt.i
      rw [e, nx] at q
      cases q
    have hAx : ∀ b ∈ A.fp, b ≠ x := fun b hb e => by
      obtain ⟨ys, q⟩ := pt.r.lst hb
      rw [e, nx] at q
      cases q
    refine s_fldR (lcL (xs := t.sent) (enc := fun m => .list (m.map eM)) (P := fun m σ2 H4 => ∃ y, σ2 = [some (.ref a), some (.ref x), some y] ∧ Fz H4 y (.list (m.map eM))) (fun m => m.map eM) (w_list (at_e (pt1.a_sent T (at_var rfl)) pt1.r.fs)) rfl (by omega) (fun m hm y H4 s4 fy S kk => kk [some (.ref a), some (.ref x), some y] rfl ⟨y, rfl, fy⟩) (fun m _ => tupsB_map tb_eM) (fun m hm σ2 H4 s4 ⟨y, e, fy⟩ => by
      subst e
      exact el_listL (e_var rfl fy)) fun p ps H4 s4 ep hnd hfr pr => ?_)
    have hpa : ∀ b ∈ p :: ps, b ≠ x := fun b hb e => by
      have := hfr b hb
      rw [e, ex] at this
      cases this
    refine fldK (at_var rfl) (s4 _ _ ex) T.cls_Talk T.no_Talk_sent (by simp [ftk]) ?_
    show tSeq (sFld K (tVar 1) _ "kept") _ _ _ (upd H4 x (.ins (CTalk K) dx (ftk gv tv ⟨p, A1.k, A1.w, ps⟩)))
    have tk5 : TK H4 (upd H4 x (.ins (CTalk K) dx (ftk gv tv ⟨p, A1.k, A1.w, ps⟩))) := ins_tk (s4 _ _ ex)
    have ep5 : (upd H4 x (.ins (CTalk K) dx (ftk gv tv ⟨p, A1.k, A1.w, ps⟩))) p = some (.lst (ps.map V.ref)) := by rw [upd_ne (hpa p (by simp))]; exact ep
    have pr5 : Paired (LM (upd H4 x (.ins (CTalk K) dx (ftk gv tv ⟨p, A1.k, A1.w, ps⟩)))) ps t.sent := paired_mem pr fun b hb m r => r.move tk5 (upd_ne (hpa b (by simp [hb]))) (tupsB_map tb_eM)
    have fg5 := (fg.same s4).tk tk5 (tb_eG _)
    have ft5 := (ft.same s4).tk tk5 (tb_eTabs _)
    have e5 : (upd H4 x (.ins (CTalk K) dx (ftk gv tv ⟨p, A1.k, A1.w, ps⟩))) x = some (.ins (CTalk K) dx (ftk gv tv ⟨p, A1.k, A1.w, ps⟩)) := upd_same
    have pt5 : PT K (upd H4 x (.ins (CTalk K) dx (ftk gv tv ⟨p, A1.k, A1.w, ps⟩))) a A g t := (pt1.same s4).move tk5 fun b hb => upd_ne (by
      rcases List.mem_cons.mp hb with rfl | hb
      · exact hax
      · exact hAx b hb)
    have s05 : Same H (upd H4 x (.ins (CTalk K) dx (ftk gv tv ⟨p, A1.k, A1.w, ps⟩))) := same_mut (s1.trans s4) nx
    generalize upd H4 x (.ins (CTalk K) dx (ftk gv tv ⟨p, A1.k, A1.w, ps⟩)) = H5 at tk5 ep5 pr5 fg5 ft5 e5 pt5 s05 ⊢
    refine s_fldR (EL.go (el_listL (at_e (pt5.a_kept T (at_var rfl)) pt5.r.fk)) fun pk xk H6 nk s6 ek fk => ?_)
    have hpk : pk ≠ x := fun e => by
      rw [e, e5] at nk
      cases nk
    refine fldK (at_var rfl) (s6 _ _ e5) T.cls_Talk T.no_Talk_kept (by simp [ftk]) ?_
    show tSeq (sFld K (tVar 1) _ "on_way") _ _ _ (upd H6 x (.ins (CTalk K) dx (ftk gv tv ⟨p, pk, A1.w, ps⟩)))
    have tk7 : TK H6 (upd H6 x (.ins (CTalk K) dx (ftk gv tv ⟨p, pk, A1.w, ps⟩))) := ins_tk (s6 _ _ e5)
    have e7 : (upd H6 x (.ins (CTalk K) dx (ftk gv tv ⟨p, pk, A1.w, ps⟩))) x = some (.ins (CTalk K) dx (ftk gv tv ⟨p, pk, A1.w, ps⟩)) := upd_same
    have ek7 : (upd H6 x (.ins (CTalk K) dx (ftk gv tv ⟨p, pk, A1.w, ps⟩))) pk = some (.lst xk) := by rw [upd_ne hpk]; exact ek
    have fk7 := fk.tk tk7 (by
      show tupsB (eNs t.kept) = true
      exact tbN t.kept)
    have ep7 : (upd H6 x (.ins (CTalk K) dx (ftk gv tv ⟨p, pk, A1.w, ps⟩))) p = some (.lst (ps.map V.ref)) := by rw [upd_ne (hpa p (by simp))]; exact s6 _ _ ep5
    have pr7 : Paired (LM (upd H6 x (.ins (CTalk K) dx (ftk gv tv ⟨p, pk, A1.w, ps⟩)))) ps t.sent := paired_mem pr5 fun b hb m r => (LM.same r s6).move tk7 (upd_ne (hpa b (by simp [hb])))
    have fg7 := (fg5.same s6).tk tk7 (tb_eG _)
    have ft7 := (ft5.same s6).tk tk7 (tb_eTabs _)
    have pt7 : PT K (upd H6 x (.ins (CTalk K) dx (ftk gv tv ⟨p, pk, A1.w, ps⟩))) a A g t := (pt5.same s6).move tk7 fun b hb => upd_ne (by
      rcases List.mem_cons.mp hb with rfl | hb
      · exact hax
      · exact hAx b hb)
    have s07 : Same H (upd H6 x (.ins (CTalk K) dx (ftk gv tv ⟨p, pk, A1.w, ps⟩))) := same_mut (s05.trans s6) nx
    generalize upd H6 x (.ins (CTalk K) dx (ftk gv tv ⟨p, pk, A1.w, ps⟩)) = H7 at tk7 e7 ek7 fk7 ep7 pr7 fg7 ft7 pt7 s07 ⊢
    refine s_fldR (EL.go (el_listL (at_e (pt7.a_way T (at_var rfl)) pt7.r.fw)) fun pw xw H8 nw s8 ew fw => ?_)
    have hpw : pw ≠ x := fun e => by
      rw [e, e7] at nw
      cases nw
    refine fldK (at_var rfl) (s8 _ _ e7) T.cls_Talk T.no_Talk_on_way (by simp [ftk]) ?_
    show tRet (tVar 1) _ _ (upd H8 x (.ins (CTalk K) dx (ftk gv tv ⟨p, pk, pw, ps⟩)))
    have tk9 : TK H8 (upd H8 x (.ins (CTalk K) dx (ftk gv tv ⟨p, pk, pw, ps⟩))) := ins_tk (s8 _ _ e7)
    have hin7 : ∀ b ∈ p :: ps, ∃ o, H7 b = some o := fun b hb => by
      rcases List.mem_cons.mp hb with rfl | hb
      · exact ⟨_, ep7⟩
      · obtain ⟨i, hi, rfl⟩ := List.mem_iff_getElem.mp hb
        obtain ⟨_, _, zs, e, _⟩ := paired_get pr7 (List.getElem?_eq_getElem hi)
        exact ⟨_, e⟩
    have hin5 : ∀ b ∈ p :: ps, ∃ o, H5 b = some o := fun b hb => by
      rcases List.mem_cons.mp hb with rfl | hb
      · exact ⟨_, ep5⟩
      · obtain ⟨i, hi, rfl⟩ := List.mem_iff_getElem.mp hb
        obtain ⟨_, _, zs, e, _⟩ := paired_get pr5 (List.getElem?_eq_getElem hi)
        exact ⟨_, e⟩
    have hk1 : pk ∉ p :: ps := fun hb => by
      obtain ⟨o, e⟩ := hin5 _ hb
      rw [nk] at e
      cases e
    have hw1 : pw ∉ p :: ps := fun hb => by
      obtain ⟨o, e⟩ := hin7 _ hb
      rw [nw] at e
      cases e
    have hw2 : pw ≠ pk := fun e => by
      rw [e, ek7] at nw
      cases nw
    refine at_var (l := x) rfl _ (Same.refl _) _ ?_
    refine k x ⟨p, pk, pw, ps⟩ _ (same_mut (s07.trans s8) nx) nx (fun b hb => ?_) ⟨⟨dx, gv, tv, upd_same, (fg7.same s8).tk tk9 (tb_eG _), (ft7.same s8).tk tk9 (tb_eTabs _)⟩, ?_⟩
    · simp only [Ad.fp, List.mem_cons] at hb
      rcases hb with rfl | rfl | rfl | hb
      · exact s1.free (hfr _ (by simp))
      · exact s05.free nk
      · exact s07.free nw
      · exact s1.free (hfr _ (by simp [hb]))
    · refine ⟨by rw [upd_ne (hpa p (by simp))]; exact s8 _ _ ep7, paired_mem pr7 fun b hb m r => (LM.same r s8).move tk9 (upd_ne (hpa b (by simp [hb]))), ?_, ⟨xw, by rw [upd_ne hpw]; exact ew, fw.tk tk9 (tupsB_map tb_eE)⟩, ?_⟩
      · show (upd H8 x _) pk = some (.lst (t.kept.map fun (n : Nat) => V.int (n : Int)))
        rw [upd_ne hpk, s8 _ _ ek7]
        rw [eNs_int] at fk7
        rw [fz_ints fk7, List.map_map]
        rfl
      · have h1 : (p :: ps).Nodup := hnd
        rw [List.nodup_cons] at h1
        simp only [List.mem_cons, not_or] at hk1 hw1
        show (p :: pk :: pw :: ps).Nodup
        rw [List.nodup_cons, List.nodup_cons, List.nodup_cons]
        refine ⟨?_, ?_, hw1.2, h1.2⟩
        · simp only [List.mem_cons, not_or]
          exact ⟨fun e => hk1.1 e.symm, fun e => hw1.1 e.symm, h1.1⟩
        · simp only [List.mem_cons, not_or]
          exact ⟨fun e => hw2 e.symm, hk1.2⟩
end
end Tt

/-! Commands. -/
namespace Tt
open PySem L2 RZ
inductive Cmd where
  | set (n : Nat) (r : Row) (c : Int)
  | rem (n : Nat) (r : Row)
  | dlv (i : Nat)
  | dbl (i : Nat)
  | los (i : Nat)
  | res (a b : Nat)
  | stl
abbrev S (x : String) : PyData := .str (Str.ofString x)
def Cmd.enc : Cmd → PyData
  | .set n r c => .tuple [S "set", eN n, eR r, .int c]
  | .rem n r => .tuple [S "remove", eN n, eR r]
  | .dlv i => .tuple [S "deliver", eN i]
  | .dbl i => .tuple [S "double", eN i]
  | .los i => .tuple [S "lose", eN i]
  | .res a b => .tuple [S "resend", eN a, eN b]
  | .stl => .tuple [S "settle"]
def CmdOK (g : Gr) : Cmd → Prop
  | .set n r c => n < g.n ∧ RowOK g.vals (g.sc n) r ∧ 0 ≤ c ∧ c ≤ 100
  | .rem n r => n < g.n ∧ RowOK g.vals (g.sc n) r
  | .dlv i => i ≤ 39
  | .dbl i => i ≤ 39
  | .los i => i ≤ 39
  | .res a b => a < g.n ∧ b < g.n
  | .stl => True
theorem tb_cmd (c : Cmd) : tupB c.enc = true := by
  have h : ∀ x ∈ ["set", "remove", "deliver", "double", "lose", "resend", "settle"], tupB (S x) = true := by decide +kernel
  simp at h
  obtain ⟨h1, h2, h3, h4, h5, h6, h7⟩ := h
  cases c <;> simp [Cmd.enc, tupB, tupsB, tb_eR] <;> simp_all [tupB]
section
variable {K : PySem.W.Frag} {σ : St} {H H' : Hp} {ta tb tc te ti tx : TE} {d e : PyData} {v : V} {ds es : List PyData}
theorem fz_strs : ∀ {xs : List V} {ys : List Str}, FzAll H xs (ys.map PyData.str) → xs = ys.map V.str
  | [], [], _ => rfl
  | [], _ :: _, h => by cases h
  | _ :: _, [], h => by cases h
  | x :: xs, y :: ys, h => by
    cases h with
    | cons f t =>
      cases f
      rw [fz_strs t, List.map_cons]
theorem inV_strs (x : Str) (ys : List Str) : inV (.str x) (ys.map V.str) = decide (x ∈ ys) := by
  unfold inV
  rw [List.any_map, Bool.eq_iff_iff, List.any_eq_true, decide_eq_true_eq]
  constructor
  · rintro ⟨y, hy, h⟩
    have : (y == x) = true := h
    rw [beq_iff_eq] at this
    exact this ▸ hy
  · intro h
    refine ⟨x, h, ?_⟩
    show (x == x) = true
    simp
theorem flat_strs (ys : List Str) : (ys.map V.str).all flatV = true := by simp [List.all_map, List.all_eq_true, flatV]
theorem e_inS {neg : Bool} {x : Str} {ys : List Str} (ha : EF ta σ H (.str x)) (hb : EF tb σ H e) (he : e = .tuple (ys.map .str) ∨ e = .list (ys.map .str)) : EF (tOp (rIn K neg) ta tb) σ H (.bool (if neg then !decide (x ∈ ys) else decide (x ∈ ys))) :=
  e_op ha hb fun u y H1 s f1 f2 Q q => by
    cases f1
    rcases he with rfl | rfl
    · obtain ⟨a, xs, rfl, ea, fa⟩ := f2.tupI
      obtain rfl := fz_strs fa
      refine ⟨a, _, rfl, .inr (SqT.of ea), rfl, flat_strs ys, q _ H1 (Same.refl _) ?_⟩
      rw [inV_strs]
      exact .bl _
    · obtain ⟨a, xs, rfl, ea, fa⟩ := f2.lstI
      obtain rfl := fz_strs fa
      refine ⟨a, _, rfl, .inl (SqL.of ea), rfl, flat_strs ys, q _ H1 (Same.refl _) ?_⟩
      rw [inV_strs]
      exact .bl _
end
end Tt

namespace Tt
open PySem PySem.Spec PyProof.Rows L2 RZ
open C8 (Cal Met Mak pe_c pe_mk pe_mt pe_mt0 pe_gc)
section
variable {P : Program} {w : World} {K : PySem.W.Frag} {mg : Str → Option Value} {base : Heap}
def R_rowact (ds : List PyData) (d : PyData) : Prop := ∃ g n r x, GOK g ∧ ((ds = [eG g, (Cmd.set n r x).enc] ∧ CmdOK g (.set n r x)) ∨ (ds = [eG g, (Cmd.rem n r).enc] ∧ CmdOK g (.rem n r))) ∧ d = .bool true
theorem sc_is_row_action : FnScope ["graph", "value", "many"] ["graph", "value"] (defScope s_is_row_action) := ⟨rfl, rfl, rfl, by decide +kernel, rfl, by decide +kernel, by decide +kernel⟩
theorem cal_is_row_action (T : Tx K mg) : Cal P w K mg base 3 "is_row_action" (spP R_rowact) [] :=
  T.cal 27 27 rfl rfl sc_is_row_action (fun _ _ _ _ _ _ us hl => match us, hl with | [_, _], _ => rfl) (spP_len fun ds d ⟨_, _, _, _, _, e, _⟩ => by rcases e with ⟨e, _⟩ | ⟨e, _⟩ <;> rw [e] <;> rfl) fun f cdv A outer s H vs Q E hr h => by
    obtain ⟨ds, d, fv, ⟨g, n, r, x, G, hc, rfl⟩, k⟩ := h
    rcases hc with ⟨rfl, hn, hrow, hx1, hx2⟩ | ⟨rfl, hn, hrow⟩
    · obtain ⟨y, z, rfl, f1, f2⟩ := fv.I2
      refine ⟨_, (pss_cons (ps_set (i := 2) sc_is_row_action.nd rfl (Or.inl rfl) (pe_ifExp (pt_cmpR op_eq (pe_ix (k_ixT (K := K)) (pv 1) pe_int (fun _ _ => rfl)) pe_str (nomark _)) pe_int pe_int))
      (pss_cons (ps_if (PW.pt (pw_or (pt_cmpR op_ne (pe_callB (k_len (K := K)) (by rfl) T.n_len (by decide +kernel) (pa_cons (pv 1) pa_nil)) (pv 2) (nomark _)) (pw_or (pt_not (pt_val (pe_c (cal_is_node T) hr (by decide) rfl (pa_cons (pe_ix (k_ixT (K := K)) (pv 1) pe_int (fun _ _ => rfl)) (pa_cons (pv 0) pa_nil))))) (pw_or1 (pt_not (pt_val (pe_c (cal_is_row T) hr (by decide) rfl (pa_cons (pe_ix (k_ixT (K := K)) (pv 0) pe_int (fun _ _ => rfl)) (pa_cons (pe_ix (k_ixT (K := K)) (pe_ix (k_ixT (K := K)) (pv 0) pe_int (fun _ _ => rfl)) (pe_ix (k_ixT (K := K)) (pv 1) pe_int (fun _ _ => rfl)) (fun _ _ => rfl)) (pa_cons (pe_ix (k_ixT (K := K)) (pv 1) pe_int (fun _ _ => rfl)) pa_nil)))))))))) (pss_one (ps_ret pe_bl)) pss_nil)
      (pss_one (ps_ret (pe_or (pe_cmpR op_eq (pe_ix (k_ixT (K := K)) (pv 1) pe_int (fun _ _ => rfl)) pe_str (nomark _)) (pe_one (pe_c (cal_is_whole T) hr (by decide) rfl (pa_cons (pe_ix (k_ixT (K := K)) (pv 1) pe_int (fun _ _ => rfl)) (pa_cons pe_int (pa_cons (pe_gc (by rfl) T.c_MOST_COST) pa_nil)))))))))), ?_⟩
      refine s_asg (d := .int 4) (e_if (t_test (e_eqS (e_ixT (e_var rfl f2) e_int (by rfl)) e_str)) (fun _ => e_int) (fun h => absurd h (by decide +kernel))) fun v H1 s1 fv => ?_
      refine s_ifQ ((t_or (t_test (e_neI (e_lenT (e_var rfl (f2.same s1))) (e_var rfl fv))) fun _ => t_or (t_not (t_B (e_call (ea_cons (e_ixT (e_var rfl (f2.same s1)) e_int (by rfl)) (ea_cons (e_var rfl (f1.same s1)) ea_nil)) ⟨n, g, rfl, rfl⟩))) fun _ => t_not (t_B (e_call (ea_cons (e_ixT (e_var rfl (f1.same s1)) e_int (by rfl)) (ea_cons (e_ixT (e_ixT (e_var rfl (f1.same s1)) e_int (by rfl)) (e_ixT (e_var rfl (f2.same s1)) e_int (by rfl)) (sc_at hn)) (ea_cons (e_ixT (e_var rfl (f2.same s1)) e_int (by rfl)) ea_nil))) ⟨g.vals, g.sc n, r, rfl, hrow, rfl⟩))).is (c := false) (by simp; omega)) (fun h => nohold h rfl) fun _ H2 s2 => ?_
      have f2' := (f2.same s1).same s2
      refine ((e_orV (e_eqS (e_ixT (e_var rfl f2') e_int (by rfl)) e_str) fun _ => e_call (ea_cons (e_ixT (e_var rfl f2') e_int (by rfl)) (ea_cons e_int (ea_cons e_gl ea_nil))) ⟨x, 0, 100, rfl, rfl⟩).is ?_).ret fun v H' s' => k v H' ((s1.trans s2).trans s')
      simp [hx1, hx2]
    · obtain ⟨y, z, rfl, f1, f2⟩ := fv.I2
      refine ⟨_, (pss_cons (ps_set (i := 2) sc_is_row_action.nd rfl (Or.inl rfl) (pe_ifExp (pt_cmpR op_eq (pe_ix (k_ixT (K := K)) (pv 1) pe_int (fun _ _ => rfl)) pe_str (nomark _)) pe_int pe_int))
      (pss_cons (ps_if (PW.pt (pw_or (pt_cmpR op_ne (pe_callB (k_len (K := K)) (by rfl) T.n_len (by decide +kernel) (pa_cons (pv 1) pa_nil)) (pv 2) (nomark _)) (pw_or (pt_not (pt_val (pe_c (cal_is_node T) hr (by decide) rfl (pa_cons (pe_ix (k_ixT (K := K)) (pv 1) pe_int (fun _ _ => rfl)) (pa_cons (pv 0) pa_nil))))) (pw_or1 (pt_not (pt_val (pe_c (cal_is_row T) hr (by decide) rfl (pa_cons (pe_ix (k_ixT (K := K)) (pv 0) pe_int (fun _ _ => rfl)) (pa_cons (pe_ix (k_ixT (K := K)) (pe_ix (k_ixT (K := K)) (pv 0) pe_int (fun _ _ => rfl)) (pe_ix (k_ixT (K := K)) (pv 1) pe_int (fun _ _ => rfl)) (fun _ _ => rfl)) (pa_cons (pe_ix (k_ixT (K := K)) (pv 1) pe_int (fun _ _ => rfl)) pa_nil)))))))))) (pss_one (ps_ret pe_bl)) pss_nil)
      (pss_one (ps_ret (pe_or (pe_cmpR op_eq (pe_ix (k_ixT (K := K)) (pv 1) pe_int (fun _ _ => rfl)) pe_str (nomark _)) (pe_one (pe_c (cal_is_whole T) hr (by decide) rfl (pa_cons (pe_ix (k_ixT (K := K)) (pv 1) pe_int (fun _ _ => rfl)) (pa_cons pe_int (pa_cons (pe_gc (by rfl) T.c_MOST_COST) pa_nil)))))))))), ?_⟩
      refine s_asg (d := .int 3) (e_if (t_test (e_eqS (e_ixT (e_var rfl f2) e_int (by rfl)) e_str)) (fun h => absurd h (by decide +kernel)) (fun _ => e_int)) fun v H1 s1 fv => ?_
      refine s_ifQ ((t_or (t_test (e_neI (e_lenT (e_var rfl (f2.same s1))) (e_var rfl fv))) fun _ => t_or (t_not (t_B (e_call (ea_cons (e_ixT (e_var rfl (f2.same s1)) e_int (by rfl)) (ea_cons (e_var rfl (f1.same s1)) ea_nil)) ⟨n, g, rfl, rfl⟩))) fun _ => t_not (t_B (e_call (ea_cons (e_ixT (e_var rfl (f1.same s1)) e_int (by rfl)) (ea_cons (e_ixT (e_ixT (e_var rfl (f1.same s1)) e_int (by rfl)) (e_ixT (e_var rfl (f2.same s1)) e_int (by rfl)) (sc_at hn)) (ea_cons (e_ixT (e_var rfl (f2.same s1)) e_int (by rfl)) ea_nil))) ⟨g.vals, g.sc n, r, rfl, hrow, rfl⟩))).is (c := false) (by simp; omega)) (fun h => nohold h rfl) fun _ H2 s2 => ?_
      have f2' := (f2.same s1).same s2
      refine ((e_orV (c := false) (e_eqS (e_ixT (e_var rfl f2') e_int (by rfl)) e_str) fun h => absurd h (by decide +kernel)).is ?_).ret fun v H' s' => k v H' ((s1.trans s2).trans s')
      exact congrArg PyData.bool (by decide +kernel)
def R_act (ds : List PyData) (d : PyData) : Prop := ∃ g y, ds = [eG g, y] ∧ GOK g ∧ ((∃ c, y = Cmd.enc c ∧ CmdOK g c ∧ d = .bool true) ∨ ((y = .none ∨ ∃ i, y = .int i) ∧ d = .bool false))
theorem e_hd {σ : L2.St} {H : Hp} {v : V} {x : Str} {ds : List PyData} (f : Fz H v (.tuple (.str x :: ds))) {i : Nat} (hi : σ[i]? = some (some v)) : EF (tOp (rIxT K) (tVar i) (tC (.int 0))) σ H (.str x) := e_ixT (e_var hi f) e_int (by
  unfold atI ixN
  rw [if_pos (by decide), if_pos (by rw [List.length_cons]; omega)]
  rfl)
abbrev sw2 : List Str := [Str.ofString "set", Str.ofString "remove"]
abbrev sw3 : List Str := [Str.ofString "deliver", Str.ofString "double", Str.ofString "lose"]
theorem sc_is_action_of : FnScope ["graph", "value"] ["graph", "value"] (defScope s_is_action_of) := ⟨rfl, rfl, rfl, by decide +kernel, rfl, by decide +kernel, by decide +kernel⟩
theorem cal_is_action_of (T : Tx K mg) : Cal P w K mg base 4 "is_action_of" (spP R_act) [] :=
  T.cal 28 28 rfl rfl sc_is_action_of (fun _ _ _ _ _ _ us hl => match us, hl with | [_, _], _ => rfl) (spP_len fun ds d ⟨_, _, e, _⟩ => by rw [e]; rfl) fun f cdv A outer s H vs Q E hr h => by
    obtain ⟨ds, d, fv, ⟨g, y, rfl, G, hc⟩, k⟩ := h
    obtain ⟨a, z, rfl, f1, f2⟩ := fv.I2
    refine ⟨_, (pss_cons (ps_if (PW.pt (pw_or (pt_not (pt_val (pe_callB (k_isi (K := K)) (by rfl) T.n_isinstance (by decide +kernel) (pa_cons (pv 1) (pa_cons (pe_bltn (v := .ty "tuple") (by rfl) T.n_tuple (by decide +kernel) rfl) pa_nil))))) (pw_or (pt_not (k_truth (K := K) (pv 1))) (pw_or1 (pt_not (pt_val (pe_callB (k_isi (K := K)) (by rfl) T.n_isinstance (by decide +kernel) (pa_cons (pe_ix (k_ixT (K := K)) (pv 1) pe_int (fun _ _ => rfl)) (pa_cons (pe_bltn (v := .ty "str") (by rfl) T.n_str (by decide +kernel) rfl) pa_nil))))))))) (pss_one (ps_ret pe_bl)) pss_nil)
      (pss_cons (ps_if (pt_cmpR (k_in (K := K)) (pe_ix (k_ixT (K := K)) (pv 1) pe_int (fun _ _ => rfl)) (pe_tup (pa_cons pe_str (pa_cons pe_str pa_nil))) (by rfl)) (pss_one (ps_ret (pe_c (cal_is_row_action T) hr (by decide) rfl (pa_cons (pv 0) (pa_cons (pv 1) pa_nil))))) pss_nil)
      (pss_cons (ps_if (pt_cmpR (k_in (K := K)) (pe_ix (k_ixT (K := K)) (pv 1) pe_int (fun _ _ => rfl)) (pe_tup (pa_cons pe_str (pa_cons pe_str (pa_cons pe_str pa_nil)))) (by rfl)) (pss_one (ps_ret (pe_and (pe_cmpR op_eq (pe_callB (k_len (K := K)) (by rfl) T.n_len (by decide +kernel) (pa_cons (pv 1) pa_nil)) pe_int (nomark _)) (pe_one (pe_c (cal_is_whole T) hr (by decide) rfl (pa_cons (pe_ix (k_ixT (K := K)) (pv 1) pe_int (fun _ _ => rfl)) (pa_cons pe_int (pa_cons (pe_op op_sub (pe_gc (by rfl) T.c_MOST_ON_WAY) pe_int) pa_nil)))))))) pss_nil)
      (pss_cons (ps_if (pt_cmpR op_eq (pe_ix (k_ixT (K := K)) (pv 1) pe_int (fun _ _ => rfl)) pe_str (nomark _)) (pss_one (ps_ret (pe_and (pe_cmpR op_eq (pe_callB (k_len (K := K)) (by rfl) T.n_len (by decide +kernel) (pa_cons (pv 1) pa_nil)) pe_int (nomark _)) (pe_and (pe_c (cal_is_node T) hr (by decide) rfl (pa_cons (pe_ix (k_ixT (K := K)) (pv 1) pe_int (fun _ _ => rfl)) (pa_cons (pv 0) pa_nil))) (pe_one (pe_c (cal_is_node T) hr (by decide) rfl (pa_cons (pe_ix (k_ixT (K := K)) (pv 1) pe_int (fun _ _ => rfl)) (pa_cons (pv 0) pa_nil)))))))) pss_nil)
      (pss_one (ps_ret (pe_cmpR (k_eqD (K := K) hr.units) (pv 1) (pe_tup (pa_cons pe_str pa_nil)) (nomark _)))))))), ?_⟩
    rcases hc with ⟨c, rfl, hok, rfl⟩ | ⟨hy, rfl⟩
    · obtain ⟨x, dt, hx⟩ : ∃ x dt, c.enc = .tuple (.str x :: dt) := by cases c <;> exact ⟨_, _, rfl⟩
      have f2x := f2
      rw [hx] at f2x
      refine s_ifQ ((t_or (t_not (t_B (e_isi (e_var rfl f2x) ki_tuple_tuple))) fun _ => t_or (t_not (t_trT (e_var rfl f2x))) fun _ => t_not (t_B (e_isi (e_hd f2x rfl) ki_str_str))).is (c := false) (by rfl)) (fun h => nohold h rfl) fun _ H1 s1 => ?_
      have e2 : ∀ {H2 : Hp}, Same H H2 → ET (tTest (tOp (rIn K false) (tOp (rIxT K) (tVar 1) (tC (.int 0))) (tTup (tCons (tC (.str (Str.ofString "set"))) (tCons (tC (.str (Str.ofString "remove"))) tNil))))) [some a, some z] H2 (decide (x ∈ sw2)) := fun s => t_test (e_inS (neg := false) (ys := sw2) (e_hd (f2x.same s) rfl) (e_tup (ea_cons e_str (ea_cons e_str ea_nil))) (.inl rfl))
      have e3 : ∀ {H2 : Hp}, Same H H2 → ET (tTest (tOp (rIn K false) (tOp (rIxT K) (tVar 1) (tC (.int 0))) (tTup (tCons (tC (.str (Str.ofString "deliver"))) (tCons (tC (.str (Str.ofString "double"))) (tCons (tC (.str (Str.ofString "lose"))) tNil)))))) [some a, some z] H2 (decide (x ∈ sw3)) := fun s => t_test (e_inS (neg := false) (ys := sw3) (e_hd (f2x.same s) rfl) (e_tup (ea_cons e_str (ea_cons e_str (ea_cons e_str ea_nil)))) (.inl rfl))
      have e4 : ∀ {H2 : Hp}, Same H H2 → ET (tTest (tOp rEq (tOp (rIxT K) (tVar 1) (tC (.int 0))) (tC (.str (Str.ofString "resend"))))) [some a, some z] H2 (decide (x = Str.ofString "resend")) := fun s => t_test (e_eqS (e_hd (f2x.same s) rfl) e_str)
      have e2' := @e2; clear e2
      refine s_ifQ (e2' s1) (fun h2 H2 s2 => ?_) fun h2 H2 s2 => ?_
      · have s02 := s1.trans s2
        refine EF.ret (e_call (ea_cons (e_var rfl (f1.same s02)) (ea_cons (e_var rfl (f2.same s02)) ea_nil)) ?_) fun v H3 s3 f3 => k v H3 (s02.trans s3) f3
        cases c with
        | set n r c => exact ⟨g, n, r, c, G, .inl ⟨rfl, hok⟩, rfl⟩
        | rem n r => exact ⟨g, n, r, 0, G, .inr ⟨rfl, hok⟩, rfl⟩
        | dlv i => cases hx; exact absurd h2 (by decide +kernel)
        | dbl i => cases hx; exact absurd h2 (by decide +kernel)
        | los i => cases hx; exact absurd h2 (by decide +kernel)
        | res a b => cases hx; exact absurd h2 (by decide +kernel)
        | stl => cases hx; exact absurd h2 (by decide +kernel)
      · have s02 := s1.trans s2
        refine s_ifQ (e3 s02) (fun h3 H3 s3 => ?_) fun h3 H3 s3 => ?_
        · have s03 := s02.trans s3
          have key : ∀ (i : Nat), i ≤ 39 → c.enc = .tuple [.str x, eN i] → tRet (tAndV (tOp rEq (tCB (rLenQ K) (tCons (tVar 1) tNil)) (tC (.int 2))) (tCall (spP R_whole) [] C8.E0 (tCons (tOp (rIxT K) (tVar 1) (tC (.int 1))) (tCons (tC (.int 0)) (tCons (tOp (rI0 fun i j => .int (i - j)) (tC (.int 40)) (tC (.int 1))) tNil))))) { nx := fun x H' => Q V.non H', rt := Q } [some a, some z] H3 := fun i hi he => by
            have f3 := f2.same s03
            rw [he] at f3
            refine ((e_andV (e_eqI (e_lenT (e_var rfl f3)) e_int) fun _ => e_call (ea_cons (e_ixT (e_var rfl f3) e_int (by rfl)) (ea_cons e_int (ea_cons (e_sub e_gl e_int) ea_nil))) ⟨i, 0, 40 - 1, rfl, rfl⟩).is ?_).ret fun v H4 s4 f4 => k v H4 (s03.trans s4) f4
            simp
            omega
          cases c with
          | set n r c => cases hx; exact absurd h3 (by decide +kernel)
          | rem n r => cases hx; exact absurd h3 (by decide +kernel)
          | dlv i => cases hx; exact key i hok rfl
          | dbl i => cases hx; exact key i hok rfl
          | los i => cases hx; exact key i hok rfl
          | res a b => cases hx; exact absurd h3 (by decide +kernel)
          | stl => cases hx; exact absurd h3 (by decide +kernel)
        · have s03 := s02.trans s3
          refine s_ifQ (e4 s03) (fun h4 H4 s4 => ?_) fun h4 H4 s4 => ?_
          · have s04 := s03.trans s4
            have f14 := f1.same s04
            have f24 := f2.same s04
            cases c with
            | set n r c => cases hx; exact absurd h4 (by decide +kernel)
            | rem n r => cases hx; exact absurd h4 (by decide +kernel)
            | dlv i => cases hx; exact absurd h4 (by decide +kernel)
            | dbl i => cases hx; exact absurd h4 (by decide +kernel)
            | los i => cases hx; exact absurd h4 (by decide +kernel)
            | stl => cases hx; exact absurd h4 (by decide +kernel)
            | res p q =>
              refine ((e_andV (e_eqI (e_lenT (e_var rfl f24)) e_int) fun _ => e_andV (e_call (ea_cons (e_ixT (e_var rfl f24) e_int (by rfl)) (ea_cons (e_var rfl f14) ea_nil)) ⟨p, g, rfl, rfl⟩) fun _ => e_call (ea_cons (e_ixT (e_var rfl f24) e_int (by rfl)) (ea_cons (e_var rfl f14) ea_nil)) ⟨q, g, rfl, rfl⟩).is ?_).ret fun v H5 s5 f5 => k v H5 (s04.trans s5) f5
              simp
              exact ⟨hok.1, hok.2⟩
          · have s04 := s03.trans s4
            have f24 := f2.same s04
            cases c with
            | set n r c => cases hx; exact absurd h2 (by decide +kernel)
            | rem n r => cases hx; exact absurd h2 (by decide +kernel)
            | dlv i => cases hx; exact absurd h3 (by decide +kernel)
            | dbl i => cases hx; exact absurd h3 (by decide +kernel)
            | los i => cases hx; exact absurd h3 (by decide +kernel)
            | res p q => cases hx; exact absurd h4 (by decide +kernel)
            | stl =>
              refine ((e_eqD (d := Cmd.stl.enc) (e := Cmd.stl.enc) (e_var rfl f24) (e_tup (ea_cons e_str ea_nil)) (by decide +kernel) (by decide +kernel)).is ?_).ret fun v H5 s5 f5 => k v H5 (s04.trans s5) f5
              exact congrArg PyData.bool (by decide +kernel)
    · have f2' : ∀ {b : Bool}, True := trivial
      rcases hy with rfl | ⟨i, rfl⟩
      · refine s_ifQ (t_or (c := true) (t_not (t_B (e_isi (e_var rfl f2) ki_NoneType_tuple))) fun h => nomatch h) (fun _ H1 s1 => EF.ret e_bl fun v H2 s2 f3 => k v H2 (s1.trans s2) f3) fun h => absurd h (by decide)
      · refine s_ifQ (t_or (c := true) (t_not (t_B (e_isi (e_var rfl f2) ki_int_tuple))) fun h => nomatch h) (fun _ H1 s1 => EF.ret e_bl fun v H2 s2 f3 => k v H2 (s1.trans s2) f3) fun h => absurd h (by decide)
end
end Tt

/-! NotPossible: raised, let through, caught. -/
namespace Tt
open PySem PySem.Spec PyProof.Rows L2 RZ
open C8 (Cal Met Mak pe_c pe_mk pe_mt pe_mt0 pe_gc)
abbrev CNP (K : PySem.W.Frag) : Addr := He.ga K "NotPossible"
abbrev CTL (K : PySem.W.Frag) : Addr := He.ga K "TooLarge"
/-- what the written part says of NotPossible -/
structure Ux (K : PySem.W.Frag) : Prop where
  oex : OexC K (CNP K)
  ini : PySem.W.findIn K (.ref (CNP K)) "__init__" = some (some (.ref (He.ma K (CNP K) "__init__")))
  tin : PySem.W.typeIn K (.ref (He.ma K (CNP K) "__init__")) = some (.type "function")
  why : PySem.W.findIn K (.ref (CNP K)) "why" = some none
  any : PySem.W.exmAny K (.ref (CNP K)) [.ref (CNP K), .ref (CTL K)] = some true
def spNP (K : PySem.W.Frag) : Sp := fun vs H Q E => ∃ a y, vs = [.ref a, y] ∧ H a = some (exo a (CNP K) none) ∧ ∀ dx, H dx = none → dx ≠ a → Q .non (upd (upd H dx (exd dx [("why", y)])) a (exo a (CNP K) (some dx)))
structure NPx (P : Program) (w : World) (K : PySem.W.Frag) (mg : Str → Option Value) (base : Heap) : Prop where
  u : Ux K
  g : mg "NotPossible" = some (.ref (CNP K))
  ex : ∃ fd ps, FnOk P w K mg base C8.CX0 1 (He.ma K (CNP K) "__init__") fd ps (spNP K) ∧ Binds K fd ps []
section
variable {P : Program} {w : World} {K : PySem.W.Frag} {mg : Str → Option Value} {base : Heap}
abbrev tNP (K : PySem.W.Frag) (W : WX) (ta : TA) : TS := fun _ σ H => tMkO (CNP K) (spNP K) [] ta σ H fun cls d H' => W cls d σ H'
theorem ps_raiseNP {X : Cx} {W : WX} {e : Expr} {ta : TA} {j : Nat} {p pos pos' : Pos} (N : NPx X.prog X.w X.K X.mg X.base) (hr : Room j X.A) (hj : 2 ≤ j) (hc : X.calm = true) (tk : Takes X W) (hg : Gl X "NotPossible") (ha : PA X [e] ta)
    (he : starEach [e] X.env = (false, eval e X.env) :: starEach [] X.env := by rfl) (hpl : (backTo pos (starEach [] X.env)).any (·.1) = false := by rfl) : PS X (.Raise (some (.Call (.Name "NotPossible" p) [e] [] pos)) none pos') (tNP X.K W ta) := by
  obtain ⟨fd, ps, F, b⟩ := N.ex
  exact ps_raise hc tk (pmk_oex N.u.oex N.u.ini N.u.tin F (hr.mono hj) b .nil C8.pass0 hg N.g ha (by decide) he hpl)
theorem s_raiseNP {W : WX} {ta : TA} {σ : L2.St} {H : Hp} {D : Ends} {d : PyData} (h : EFA ta σ H [d]) (k : ∀ dx H', Same H H' → W (.ref (CNP K)) (some dx) σ H') : tNP K W ta D σ H := h.go fun vs H1 s f => by
  obtain ⟨y, rfl, fy⟩ := f.oneI
  refine ⟨by simp, fun a na => ⟨a, y, rfl, upd_same, fun dx ndx hne => ⟨rfl, dx, [("why", y)], upd_same, ?_, ?_, k dx _ fun b o e => ?_⟩⟩⟩
  · rw [upd_ne hne, upd_same]
  · rw [upd_ne hne] at ndx
    exact ndx
  · have e1 := s b o e
    have nb : b ≠ a := ne_of_none e1 na
    have nd : b ≠ dx := by
      rw [upd_ne hne] at ndx
      exact ne_of_none e1 ndx
    rw [upd_ne nd, del_ne nb, upd_ne nb, upd_ne nd, upd_ne nb]
    exact e1
/-! ### defs that may let one out -/
abbrev BodyX (P : Program) (w : World) (K : PySem.W.Frag) (mg : Str → Option Value) (base : Heap) (N : List Str) (qual : Str) (st : Stmt) (k : Nat) (sp : Sp) : Prop :=
  ∀ (f : Addr) (cdv : Value) (A : Around) (outer : List Env) (s : Shared) (H : Hp) (vs : List V) (Q : VK) (E : XK), Room k (A.deeper (envOfC qual (defScope st) s.heap.objs.size f cdv)) → sp vs H Q E →
      ∃ t, PSs (cxOf (L2.CX P w) P w K mg base N qual (defScope st) f cdv A outer s H E) (defBody st) t ∧ t { nx := fun _ H' => Q .non H', rt := Q } (start N vs) H
structure CalX (P : Program) (w : World) (K : PySem.W.Frag) (mg : Str → Option Value) (base : Heap) (k : Nat) (x : Str) (sp : Sp) : Prop where
  ex : ∃ (f : Addr) (fd : FuncData) (ps : List Str), FnOk P w K mg base (L2.CX P w) k f fd ps sp ∧ mg x = some (.ref f) ∧ PySem.W.keepIn K (.ref f) = true ∧ Binds K fd ps []
theorem Tx.calX (T : Tx K mg) (i j : Nat) {x : Str} {st : Stmt} {N ps : List Str} {k : Nat} {sp : Sp} (hd : fn[i]? = some ⟨(x, none), x, x, defArgs st, defBody st, defScope st, [], []⟩) (hg : fa[j]? = some (.glo x)) (S : FnScope N ps (defScope st))
    (hb : ∀ (kV doc pm : Value) (an : Option Addr) (cdv ct : Value) (us : List Value), us.length = ps.length → bindArgs (PySem.W.fnOf x x (defArgs st) (defBody st) (defScope st) .none kV doc pm an cdv ct) ⟨us, []⟩ = pure (ps.zip us))
    (len : ∀ vs H Q E, sp vs H Q E → vs.length = ps.length) (body : BodyX P w K mg base N x st k sp) : CalX P w K mg base (k + 1) x sp := by
  obtain ⟨fd, F⟩ := T.c.def_ i hd
  exact ⟨_, fd, ps, F.ok S len (body _), T.glo j hg, F.kp, F.bindsN hb⟩
theorem tkX {N : List Str} {qual : Str} {sc : Scope} {f : Addr} {cdv : Value} {A : Around} {outer : List Env} {s : Shared} {H : Hp} {E : XK} : Takes (cxOf (L2.CX P w) P w K mg base N qual sc f cdv A outer s H E) (fun cls d _ H => E cls d H) := takes_of rfl rfl rfl rfl
theorem pe_cX {X : Cx} {W : WX} {k j : Nat} {x : Str} {sp : Sp} {p pos : Pos} {e : Expr} {es : List Expr} {t : TA} (c : CalX X.prog X.w X.K X.mg X.base k x sp) (hr : Room j X.A) (hk : k ≤ j) (tk : Takes X W) (hg : Gl X x) (ha : PA X (e :: es) t)
    (hdb : (x == ("__debug__" : Str)) = false := by decide) (he : starEach (e :: es) X.env = (false, eval e X.env) :: starEach es X.env := by rfl) (hpl : (backTo pos (starEach es X.env)).any (·.1) = false := by rfl) :
    PE X (.Call (.Name x p) (e :: es) [] pos) (tCallS sp (WE W) t) := by
  obtain ⟨f, fd, ps, F, hm, kp, b⟩ := c.ex
  exact pe_callS F (hr.mono hk) hg hm kp b (passAt tk) ha hdb he hpl
theorem cX_go {sp : Sp} {E : L2.St → XK} {ta : TA} {σ : L2.St} {H : Hp} {Q : VK} {ds : List PyData} (h : EFA ta σ H ds) (k : ∀ vs H1, Same H H1 → FzAll H1 vs ds → sp vs H1 Q (E σ)) : tCallS sp E ta σ H Q := h.go k
theorem sc_NotPossible___init__ : FnScope ["self", "why"] ["self", "why"] (defScope s_NotPossible___init__) := ⟨rfl, rfl, rfl, by decide +kernel, rfl, by decide +kernel, by decide +kernel⟩
theorem npx (T : Tx K mg) (U : Ux K) : NPx P w K mg base := by
  obtain ⟨fd, F⟩ := T.c.def_ 65 (d := ⟨("NotPossible", some "__init__"), "__init__", "NotPossible.__init__", defArgs s_NotPossible___init__, defBody s_NotPossible___init__, defScope s_NotPossible___init__, [], []⟩) rfl
  refine ⟨U, T.glo 66 rfl, fd, ["self", "why"], okD F sc_NotPossible___init__ (fun vs H Q E ⟨_, _, e, _⟩ => by rw [e]; rfl) fun cdv A outer s H vs Q E hr h => ?_, F.bindsN (fun _ _ _ _ _ _ us hl => match us, hl with | [_, _], _ => rfl)⟩
  obtain ⟨a, y, rfl, ea, k⟩ := h
  refine ⟨_, (pss_one (ps_ost (pv 0) (pv 1) (by rfl))), ?_⟩
  exact ⟨y, rfl, .ref a, rfl, a, CNP K, rfl, U.oex, U.why, .inl ⟨ea, fun dx ndx hne => k dx ndx hne⟩⟩
end
end Tt

/-! What the head says of NotPossible. -/
namespace Tt
open PySem PySem.Spec PyProof.Rows L2
theorem oexB_ok {K : PySem.W.Frag} {C : Addr} (h : oexB K C = true) : ∃ nm q N bs bm sn sub ab col dd k0 k1 k2 k3 k5, K.lookup C = some (excClassObj nm q C N bs bm true sn sub ab col dd k0 k1 k2 k3 k5 "ValueError.__new__") ∧ PySem.HandSPX.refsVE bm = true := by
  unfold oexB at h
  split at h
  · rename_i ty dd nm bs mro N q hd sn sub ab col del sl e
    rw [Bool.and_eq_true] at h
    obtain ⟨h0, h⟩ := h
    have h0 := of_decide_eq_true h0
    subst h0
    split at h
    · rename_i C' bm k0 k1 k2 k3 n k5 e2
      simp only [Bool.and_eq_true, decide_eq_true_eq, Bool.not_eq_true'] at h
      obtain ⟨rfl, rfl, rfl, rfl, h5⟩ := h
      refine ⟨nm, q, N, bs, bm, sn, sub, ab, col, dd, k0, k1, k2, k3, k5, ?_, h5⟩
      rw [e]
      have : sl = #[k0, k1, k2, k3, some (.builtin "ValueError.__new__"), k5] := by
        rw [← Array.toArray_toList (xs := sl), e2]
      rw [this]
    · cases h
  · cases h
theorem uxB_ok {K : PySem.W.Frag} (h : uxB K = true) : Ux K := by
  unfold uxB at h
  simp only [Bool.and_eq_true, decide_eq_true_eq] at h
  obtain ⟨h1, h2, h3, h4, h5, h6, h7, h8, h9⟩ := h
  exact ⟨⟨oexB_ok h1, He.eqO_ok h2, h3, h4, h5⟩, He.eqO_ok h6, h7, He.eqO_ok h8, h9⟩
end Tt

/-! What a command does, in the mirror. -/
namespace Tt
open PySem
def whyB (g : Gr) (t : Tk) : Cmd → Bool
  | .set _ _ _ => true
  | .rem n r => decide (r ∈ (t.tabs.getD n []).map (·.1))
  | .dlv i => decide (i < t.way.length)
  | .dbl i => decide (i < t.way.length)
  | .los i => decide (i < t.way.length)
  | .res a b => decide (b ∈ nbrs g a)
  | .stl => true
def offW (t : Tk) (i : Nat) : Tk := { t with way := t.way.eraseIdx i }
def perfT (g : Gr) (t : Tk) : Cmd → Tk × Nat
  | .set n r c => setT g t n r (some c)
  | .rem n r => setT g t n r none
  | .dlv i => arrT g (offW t i) (t.way.getD i (0, 0)).1 (t.way.getD i (0, 0)).2
  | .dbl i => arrT g t (t.way.getD i (0, 0)).1 (t.way.getD i (0, 0)).2
  | .los i => (offW t i, 0)
  | .res a b => resT g t a b
  | .stl => settleF g 400 (t, 0)
/-- all that the walk of a command asks -/
structure PerfOK (g : Gr) (t : Tk) (c : Cmd) : Prop where
  G : GOK g
  gd : Good g t
  wl : t.way.length ≤ 39
  cok : CmdOK g c
  tl : ∀ n, (t.tabs.getD n []).length ≤ 59
  fl : whyB g t c = true → (perfT g t c).1.way.length ≤ 39
  run : c = .stl → RunOK g 400 t
theorem off_way {g : Gr} {t : Tk} (h : Good g t) (i : Nat) : Good g (offW t i) := h.way fun p hp => h.wb p (List.mem_of_mem_eraseIdx hp)
end Tt

namespace Tt
open PySem PySem.Spec PyProof.Rows L2 RZ
open C8 (Cal Met Mak pe_c pe_mk pe_mt pe_mt0 pe_gc)
section
variable {P : Program} {w : World} {K : PySem.W.Frag} {mg : Str → Option Value} {base : Heap}
def spEff (K : PySem.W.Frag) : Sp := fun vs H Q E => ∃ a A g t c cv, vs = [.ref a, cv] ∧ PT K H a A g t ∧ Fz H cv (Cmd.enc c) ∧ PerfOK g t c ∧
  (whyB g t c = true → ∀ H', Fr (a :: A.fp) H H' → PT K H' a A g (perfT g t c).1 → Q (.int ((perfT g t c).2 : Nat)) H') ∧ (whyB g t c = false → ∀ d H', Same H H' → E (.ref (CNP K)) (some d) H')
def isMsg : Cmd → Bool
  | .dlv _ => true
  | .dbl _ => true
  | .los _ => true
  | _ => false
def spMsg (K : PySem.W.Frag) : Sp := fun vs H Q E => ∃ a A g t c cv, vs = [.ref a, cv] ∧ isMsg c = true ∧ PT K H a A g t ∧ Fz H cv (Cmd.enc c) ∧ PerfOK g t c ∧
  (whyB g t c = true → ∀ H', Fr (a :: A.fp) H H' → PT K H' a A g (perfT g t c).1 → Q (.int ((perfT g t c).2 : Nat)) H') ∧ (whyB g t c = false → ∀ d H', Same H H' → E (.ref (CNP K)) (some d) H')
theorem sc_message_effect : FnScope ["talk", "action", "word", "at", "place", "number"] ["talk", "action"] (defScope s_message_effect) := ⟨rfl, rfl, rfl, by decide +kernel, rfl, by decide +kernel, by decide +kernel⟩
theorem calX_message_effect (T : Tx K mg) (U : Ux K) : CalX P w K mg base 7 "message_effect" (spMsg K) :=
  T.calX 29 29 rfl rfl sc_message_effect (fun _ _ _ _ _ _ us hl => match us, hl with | [_, _], _ => rfl) (fun vs H Q E ⟨_, _, _, _, _, _, e, _⟩ => by rw [e]; rfl) fun f cdv A' outer s H vs Q E hr h => by
    obtain ⟨a, A, g, t, c, cv, rfl, hmsg, pt, fc, ok, k1, k2⟩ := h
    refine ⟨_, (pss_cons (ps_asg (pv 1) (k_tg (K := K) (n := 2) (pgs_cons (pg_name (i := 2) sc_message_effect.nd rfl (Or.inl rfl)) (pgs_cons (pg_name (i := 3) sc_message_effect.nd rfl (Or.inl rfl)) pgs_nil))))
      (pss_cons (ps_if (pt_cmpR op_ge (pv 3) (pe_callB (k_len (K := K)) (by rfl) T.n_len (by decide +kernel) (pa_cons (k_fld (K := K) (pv 0)) pa_nil)) (nomark _)) (pss_one (ps_raiseNP (npx T U) hr (by decide) rfl tkX (by rfl) (pa_cons pe_str pa_nil))) pss_nil)
      (pss_cons (ps_asg (pe_ix (k_ixL (K := K)) (k_fld (K := K) (pv 0)) (pv 3) (fun _ _ => rfl)) (k_tg (K := K) (n := 2) (pgs_cons (pg_name (i := 4) sc_message_effect.nd rfl (Or.inl rfl)) (pgs_cons (pg_name (i := 5) sc_message_effect.nd rfl (Or.inl rfl)) pgs_nil))))
      (pss_cons (ps_if (pt_cmpR op_ne (pv 2) pe_str (nomark _)) (pss_one (ps_expr (k_bm (K := K) PySem.F.plainAttrs_list PySem.F.slot_list_pop PySem.F.type_list_pop mt_popAt (k_fld (K := K) (pv 0)) (pa_cons (pv 3) pa_nil)))) pss_nil)
      (pss_one (ps_ret (pe_ifExp (pt_cmpR op_eq (pv 2) pe_str (nomark _)) pe_int (pe_mt (met_Talk_arrive T) hr (by decide) (pv 0) (pa_cons (pv 4) (pa_cons (pv 5) pa_nil)))))))))), ?_⟩
    obtain ⟨x, i, hx, hw, hxs⟩ : ∃ x i, c.enc = .tuple [.str x, eN i] ∧ whyB g t c = decide (i < t.way.length) ∧ ((x = Str.ofString "deliver" ∧ c = .dlv i) ∨ (x = Str.ofString "double" ∧ c = .dbl i) ∨ (x = Str.ofString "lose" ∧ c = .los i)) := by
      cases c with
      | dlv i => exact ⟨_, i, rfl, rfl, .inl ⟨rfl, rfl⟩⟩
      | dbl i => exact ⟨_, i, rfl, rfl, .inr (.inl ⟨rfl, rfl⟩)⟩
      | los i => exact ⟨_, i, rfl, rfl, .inr (.inr ⟨rfl, rfl⟩)⟩
      | set _ _ _ => cases hmsg
      | rem _ _ => cases hmsg
      | res _ _ => cases hmsg
      | stl => cases hmsg
    rw [hx] at fc
    refine s_asg2 (e_var rfl fc) fun v1 v2 H1 s1 f1 f2 => ?_
    obtain rfl := f2.intI
    have pt1 := pt.same s1
    refine s_ifQ (t_test ((e_ge (e_var rfl (.int _)) (e_lenL (at_e (pt1.a_way T (at_var rfl)) pt1.r.fw))).is (e := .bool (decide (t.way.length ≤ i))) (by rw [List.length_map]; simp))) (fun hge H2 s2 => ?_) fun hlt H2 s2 => ?_
    · have hno : whyB g t c = false := by
        rw [hw]
        exact decide_eq_false (by have := of_decide_eq_true hge; omega)
      exact s_raiseNP (d := .str (Str.ofString "missing")) (ea_cons e_str ea_nil) fun dx H3 s3 => k2 hno dx H3 ((s1.trans s2).trans s3)
    · have hi : i < t.way.length := by have := of_decide_eq_false hlt; omega
      have hyes : whyB g t c = true := by rw [hw]; exact decide_eq_true hi
      have k := k1 hyes
      have pt2 := pt1.same s2
      have hwb := ok.gd.wb (t.way.getD i (0, 0)) (by
        rw [List.getD_eq_getElem?_getD, List.getElem?_eq_getElem hi]
        exact List.getElem_mem hi)
      have hwl := ok.wl
      refine s_asg2 (e_ixL (at_e (pt2.a_way T (at_var rfl)) pt2.r.fw) (e_var rfl (.int _)) (map_at (0, 0) hi)) fun v3 v4 H3 s3 f3 f4 => ?_
      obtain rfl := f3.intI
      obtain rfl := f4.intI
      have pt3 := pt2.same s3
      have f13 : Fz H3 v1 (.str x) := (f1.same s2).same s3
      have s03 : Same H H3 := (s1.trans s2).trans s3
      refine s_ifC (fun σ2 H4 => σ2 = [some (.ref a), some cv, some v1, some (.int (i : Nat)), some (.int ((t.way.getD i (0, 0)).1 : Nat)), some (.int ((t.way.getD i (0, 0)).2 : Nat))] ∧ Fr A.fp H3 H4 ∧ PT K H4 a A g (if x = Str.ofString "double" then t else offW t i)) (t_test (e_neS (e_var rfl f13) e_str)) (fun W hW hne H4 s4 => ?_) (fun heq H4 s4 => ?_) ?_
      · have hne' : x ≠ Str.ofString "double" := by simpa using hne
        have pt4 := pt3.same s4
        obtain ⟨xs, ew, fw⟩ := pt4.r.w
        have hil : i < xs.length := by rw [fw.len, List.length_map]; exact hi
        refine s_popD (pt4.a_way T (at_var rfl)) ew (e_var rfl (.int _)) (List.getElem?_eq_getElem hil) (by rw [fw.len, List.length_map]; omega) fun H5 s5 => hW _ _ ⟨rfl, ?_, ?_⟩
        · exact (Fr.same (s4.trans s5)).trans (fr_upd (by simp))
        · rw [if_neg hne']
          have pt5 := pt4.same s5
          exact pt5.with (fr_upd (by simp)) (pt5.r.setW (w' := t.way.eraseIdx i) (by
            rw [DT.map_erase]
            exact (fw.same s5).eraseIdx i)) rfl
      · have heq' : x = Str.ofString "double" := by simpa using heq
        refine ⟨rfl, Fr.same s4, ?_⟩
        rw [if_pos heq']
        exact pt3.same s4
      · rintro σ2 H4 ⟨rfl, fr4, pt4⟩
        have f14 : Fz H4 v1 (.str x) := f13.tk (pt3.r.tk fr4) (by
          show PyData.strOk x = true
          rcases hxs with ⟨rfl, _⟩ | ⟨rfl, _⟩ | ⟨rfl, _⟩ <;> decide +kernel)
        have fr04 : Fr (a :: A.fp) H H4 := (Fr.same s03).trans (fr4.sub fun b hb => by simp [hb])
        show tRet (tIf _ _ _) _ _ H4
        refine (t_test (e_eqS (e_var rfl f14) e_str)).go fun H5 s5 => ?_
        have pt5 := pt4.same s5
        by_cases hl : x = Str.ofString "lose"
        · have hc : c = .los i := by
            rcases hxs with ⟨h1, _⟩ | ⟨h1, _⟩ | ⟨_, h2⟩
            · rw [hl] at h1; exact absurd h1 (by decide +kernel)
            · rw [hl] at h1; exact absurd h1 (by decide +kernel)
            · exact h2
          subst hc
          rw [if_neg (by rw [hl]; decide +kernel)] at pt5
          rw [decide_eq_true hl]
          exact k H5 (fr04.trans (Fr.same s5)) pt5
        · rw [decide_eq_false hl]
          obtain ⟨dx, gv, tv, ei, _, _⟩ := pt5.i
          refine m_go (Q := Q) (at_var rfl) ei rfl (ea_cons (e_var rfl (.int _)) (ea_cons (e_var rfl (.int _)) ea_nil)) fun vs6 H6 s6 f6 => ?_
          obtain ⟨y1, y2, rfl, f61, f62⟩ := f6.I2
          obtain rfl := f61.intI
          obtain rfl := f62.intI
          have hfl := ok.fl hyes
          rcases hxs with ⟨h1, rfl⟩ | ⟨h1, rfl⟩ | ⟨h1, _⟩
          · rw [if_neg (by rw [h1]; decide +kernel)] at pt5
            exact ⟨a, A, g, offW t i, _, _, rfl, pt5.same s6, ok.G, off_way ok.gd i, hwb.1, hwb.2, Nat.le_succ_of_le hfl, fun H7 fr7 pt7 => k H7 ((fr04.trans (Fr.same (s5.trans s6))).trans (fr7.sub fun b hb => by simp [hb])) pt7⟩
          · rw [if_pos h1] at pt5
            exact ⟨a, A, g, t, _, _, rfl, pt5.same s6, ok.G, ok.gd, hwb.1, hwb.2, Nat.le_succ_of_le hfl, fun H7 fr7 pt7 => k H7 ((fr04.trans (Fr.same (s5.trans s6))).trans (fr7.sub fun b hb => by simp [hb])) pt7⟩
          · exact absurd h1 hl
end
end Tt

namespace Tt
open PySem PySem.Spec PyProof.Rows L2 RZ
open C8 (Cal Met Mak pe_c pe_mk pe_mt pe_mt0 pe_gc)
section
variable {P : Program} {w : World} {K : PySem.W.Frag} {mg : Str → Option Value} {base : Heap}
theorem any_R (l : List Row) (r : Row) : ((l.map eR).any fun z => PyData.eqv z (eR r)) = decide (r ∈ l) := by
  rw [Bool.eq_iff_iff, List.any_map, List.any_eq_true, decide_eq_true_eq]
  constructor
  · rintro ⟨x, hx, h⟩
    have h' : PyData.eqv (eR x) (eR r) = true := h
    rw [eqv_R, decide_eq_true_eq] at h'
    exact h' ▸ hx
  · intro h
    refine ⟨r, h, ?_⟩
    show PyData.eqv (eR r) (eR r) = true
    rw [eqv_R]
    simp
theorem e_ninR {σ : L2.St} {H : Hp} {ta tb : TE} {r : Row} {l : List Row} (ha : EF ta σ H (eR r)) (hb : EF tb σ H (.list (l.map eR))) : EF (tOp (rNotInD K) ta tb) σ H (.bool (!decide (r ∈ l))) :=
  (e_notInD ha hb (shp_R r) (shpL_map tb_eR dep_eR (by decide) l)).is (by rw [any_R])
theorem e_inR {σ : L2.St} {H : Hp} {ta tb : TE} {r : Row} {l : List Row} (ha : EF ta σ H (eR r)) (hb : EF tb σ H (.list (l.map eR))) : EF (tOp (rInD K) ta tb) σ H (.bool (decide (r ∈ l))) :=
  (e_inD ha hb (shp_R r) (shpL_map tb_eR dep_eR (by decide) l)).is (by rw [any_R])
theorem a2_go {sp : Sp} {E : L2.St → XK} {ta tb : TE} {σ : L2.St} {H : Hp} {Q : VK} {a : Addr} {d : PyData} (ha : AtD ta σ H a) (hb : EF tb σ H d) (k : ∀ y H1, Same H H1 → Fz H1 y d → sp [.ref a, y] H1 Q (E σ)) : tCallS sp E (tCons ta (tCons tb tNil)) σ H Q :=
  ha H (Same.refl H) _ (hb.go fun y H1 s f => k y H1 s f)
theorem tupA_go {ta tb : TE} {σ : L2.St} {H : Hp} {Q : VK} {a : Addr} {d : PyData} (ha : AtD ta σ H a) (hb : EF tb σ H d) (k : ∀ y p H1, Same H H1 → Fz H1 y d → H1 p = none → Q (.ref p) (upd H1 p (.tup [.ref a, y]))) : tTup (tCons ta (tCons tb tNil)) σ H Q :=
  ha H (Same.refl H) _ (hb.go fun y H1 s f => ⟨(by decide : 2 ≤ sizeLine), fun p hp => k y p H1 s f hp⟩)
theorem sc_effect_of : FnScope ["talk", "action", "row", "cost"] ["talk", "action"] (defScope s_effect_of) := ⟨rfl, rfl, rfl, by decide +kernel, rfl, by decide +kernel, by decide +kernel⟩
theorem calX_effect_of (T : Tx K mg) (U : Ux K) : CalX P w K mg base 8 "effect_of" (spEff K) :=
  T.calX 30 30 rfl rfl sc_effect_of (fun _ _ _ _ _ _ us hl => match us, hl with | [_, _], _ => rfl) (fun vs H Q E ⟨_, _, _, _, _, _, e, _⟩ => by rw [e]; rfl) fun f cdv A' outer s H vs Q E hr h => by
    obtain ⟨a, A, g, t, c, cv, rfl, pt, fc, ok, k1, k2⟩ := h
    refine ⟨_, (pss_cons (ps_if (pt_cmpR op_eq (pe_ix (k_ixT (K := K)) (pv 1) pe_int (fun _ _ => rfl)) pe_str (nomark _)) (pss_one (ps_ret (pe_mt (met_Talk_set_row T) hr (by decide) (pv 0) (pa_cons (pe_ix (k_ixT (K := K)) (pv 1) pe_int (fun _ _ => rfl)) (pa_cons (pe_ix (k_ixT (K := K)) (pv 1) pe_int (fun _ _ => rfl)) (pa_cons (pe_ix (k_ixT (K := K)) (pv 1) pe_int (fun _ _ => rfl)) pa_nil)))))) pss_nil)
      (pss_cons (ps_if (pt_cmpR op_eq (pe_ix (k_ixT (K := K)) (pv 1) pe_int (fun _ _ => rfl)) pe_str (nomark _)) (pss_cons (ps_if (pt_cmpR (k_ninD (K := K) (hu65 hr)) (pe_ix (k_ixT (K := K)) (pv 1) pe_int (fun _ _ => rfl)) (pe_lc (own := [("row", 2), ("cost", 3)]) (g := g2 K 2 3) (tt := tYes) rfl sc_effect_of.nd (k_piT (K := K) (pe_ix (k_ixT (K := K)) (k_fld (K := K) (pv 0)) (pe_ix (k_ixT (K := K)) (pv 1) pe_int (fun _ _ => rfl)) (fun _ _ => rfl))) (blkOk_by (N := ["talk", "action", "row", "cost"]) (sc := defScope s_effect_of) (by decide +kernel)) (fun _ _ _ _ _ => (k_tg (K := K) (n := 2) (pgs_cons (pg_name (i := 2) sc_effect_of.nd rfl (Or.inl rfl)) (pgs_cons (pg_name (i := 3) sc_effect_of.nd rfl (Or.inl rfl)) pgs_nil)))) (fun _ _ _ _ _ => pts_nil) (fun _ _ _ _ _ => (pv 2))) (by rfl)) (pss_one (ps_raiseNP (npx T U) hr (by decide) rfl tkX (by rfl) (pa_cons pe_str pa_nil))) pss_nil)
        (pss_one (ps_ret (pe_mt (met_Talk_set_row T) hr (by decide) (pv 0) (pa_cons (pe_ix (k_ixT (K := K)) (pv 1) pe_int (fun _ _ => rfl)) (pa_cons (pe_ix (k_ixT (K := K)) (pv 1) pe_int (fun _ _ => rfl)) (pa_cons pe_non pa_nil))))))) pss_nil)
      (pss_cons (ps_if (pt_cmpR op_eq (pe_ix (k_ixT (K := K)) (pv 1) pe_int (fun _ _ => rfl)) pe_str (nomark _)) (pss_cons (ps_if (pt_cmpR (k_nin (K := K)) (pe_ix (k_ixT (K := K)) (pv 1) pe_int (fun _ _ => rfl)) (pe_c (cal_neighbours T) hr (by decide) rfl (pa_cons (k_fld (K := K) (pv 0)) (pa_cons (pe_ix (k_ixT (K := K)) (pv 1) pe_int (fun _ _ => rfl)) pa_nil))) (by rfl)) (pss_one (ps_raiseNP (npx T U) hr (by decide) rfl tkX (by rfl) (pa_cons pe_str pa_nil))) pss_nil)
        (pss_one (ps_ret (pe_mt (met_Talk_resend T) hr (by decide) (pv 0) (pa_cons (pe_ix (k_ixT (K := K)) (pv 1) pe_int (fun _ _ => rfl)) (pa_cons (pe_ix (k_ixT (K := K)) (pv 1) pe_int (fun _ _ => rfl)) pa_nil)))))) pss_nil)
      (pss_cons (ps_if (pt_cmpR op_eq (pe_ix (k_ixT (K := K)) (pv 1) pe_int (fun _ _ => rfl)) pe_str (nomark _)) (pss_one (ps_ret (pe_mt0 (met_Talk_settle T) hr (by decide) (pv 0)))) pss_nil)
      (pss_one (ps_ret (pe_cX (calX_message_effect T U) hr (by decide) tkX (by rfl) (pa_cons (pv 0) (pa_cons (pv 1) pa_nil))))))))), ?_⟩
    have G := ok.G
    have gd := ok.gd
    have tl := gd.tabs.len
    have fl := ok.fl
    have cok := ok.cok
    have hq : ∀ {x y : Str} {dt : List PyData} {H1 : Hp}, Fz H1 cv (.tuple (.str x :: dt)) → ET (tTest (tOp rEq (tOp (rIxT K) (tVar 1) (tC (.int 0))) (tC (.str y)))) [some (.ref a), some cv, none, none] H1 (decide (x = y)) := fun f => t_test (e_eqS (e_hd f rfl) e_str)
    have frI : ∀ {H1 H2 : Hp}, Fr A.fp H1 H2 → Fr (a :: A.fp) H1 H2 := fun f => f.sub fun b hb => by simp [hb]
    cases c with
    | set n r v =>
      have k := k1 rfl
      refine s_ifQ (hq fc) (fun _ H1 s1 => ?_) fun h => absurd h (by decide +kernel)
      have pt1 := pt.same s1
      have fc1 := fc.same s1
      obtain ⟨dx, gv, tv, ei, _, _⟩ := pt1.i
      refine m_go (Q := Q) (at_var rfl) ei rfl (ea_cons (e_ixT (e_var rfl fc1) e_int (by rfl)) (ea_cons (e_ixT (e_var rfl fc1) e_int (by rfl)) (ea_cons (e_ixT (e_var rfl fc1) e_int (by rfl)) ea_nil))) fun vs2 H2 s2 f2 => ?_
      obtain ⟨y1, y2, y3, rfl, f21, f22, f23⟩ := f2.I3
      obtain rfl := f21.intI
      exact ⟨a, A, g, t, n, r, .int v, y2, y3, rfl, pt1.same s2, G, gd, cok.1, f22, f23, .inr ⟨v, rfl⟩, cok.2.1, ok.tl n, Nat.le_succ_of_le (fl rfl), fun H3 fr3 pt3 => k H3 ((Fr.same (s1.trans s2)).trans fr3) pt3⟩
    | rem n r =>
      refine s_ifQ (hq fc) (fun h => absurd h (by decide +kernel)) fun _ H1 s1 => ?_
      refine s_ifQ (hq (fc.same s1)) (fun _ H2 s2 => ?_) fun h => absurd h (by decide +kernel)
      have s02 := s1.trans s2
      have pt2 := pt.same s02
      have fc2 := fc.same s02
      have hn : n < g.n := cok.1
      have tabAt : ∀ {H3 : Hp}, atI (t.tabs.map eTab) ((n : Nat) : Int) = some (eTab (t.tabs.getD n [])) := fun {_} => map_at [] (by omega)
      have few := (gd.tabs.ok n hn).few
      refine s_ifQ (t_test (e_ninR (r := r) (l := (t.tabs.getD n []).map (·.1)) (e_ixT (e_var rfl fc2) e_int (by rfl)) (EF.is (EL.ef (el_map2 (xs := t.tabs.getD n []) (e1 := fun p => eR p.1) (e2 := fun p => .int p.2) (g := fun p => eR p.1) (w_tup (e_ixT (pt2.e_tables T (at_var rfl)) (e_ixT (e_var rfl fc2) e_int (by rfl)) (tabAt (H3 := H2)))) (by omega) (fun _ _ => tb_eR _) (fun p hp y1 y2 H3 s3 g1 g2 => e_var rfl g1))) (by rw [List.map_map]; rfl)))) (fun hno H3 s3 => ?_) fun hyes H3 s3 => ?_
      · have hw : whyB g t (.rem n r) = false := by
          show decide _ = false
          simpa using hno
        exact s_raiseNP (d := .str (Str.ofString "missing")) (ea_cons e_str ea_nil) fun dx H4 s4 => k2 hw dx H4 ((s02.trans s3).trans s4)
      · have hw : whyB g t (.rem n r) = true := by
          show decide _ = true
          simpa using hyes
        have k := k1 hw
        have pt3 := pt2.same s3
        have fc3 := fc2.same s3
        obtain ⟨dx, gv, tv, ei, _, _⟩ := pt3.i
        refine m_go (Q := Q) (at_var rfl) ei rfl (ea_cons (e_ixT (e_var rfl fc3) e_int (by rfl)) (ea_cons (e_ixT (e_var rfl fc3) e_int (by rfl)) (ea_cons e_non ea_nil))) fun vs4 H4 s4 f4 => ?_
        obtain ⟨y1, y2, y3, rfl, f21, f22, f23⟩ := f4.I3
        obtain rfl := f21.intI
        exact ⟨a, A, g, t, n, r, .none, y2, y3, rfl, pt3.same s4, G, gd, hn, f22, f23, .inl rfl, cok.2, ok.tl n, Nat.le_succ_of_le (fl hw), fun H5 fr5 pt5 => k H5 ((Fr.same ((s02.trans s3).trans s4)).trans fr5) pt5⟩
    | res x y =>
      refine s_ifQ (hq fc) (fun h => absurd h (by decide +kernel)) fun _ H1 s1 => ?_
      refine s_ifQ (hq (fc.same s1)) (fun h => absurd h (by decide +kernel)) fun _ H2 s2 => ?_
      have s02 := s1.trans s2
      refine s_ifQ (hq (fc.same s02)) (fun _ H3 s3 => ?_) fun h => absurd h (by decide +kernel)
      have s03 := s02.trans s3
      have pt3 := pt.same s03
      have fc3 := fc.same s03
      refine s_ifQ (t_test (e_inN (neg := true) (n := y) (l := nbrs g x) (e_ixT (e_var rfl fc3) e_int (by rfl)) (e_call (ea_cons (pt3.e_graph T (at_var rfl)) (ea_cons (e_ixT (e_var rfl fc3) e_int (by rfl)) ea_nil)) ⟨g, x, rfl, G, rfl⟩) (.inl rfl))) (fun hno H4 s4 => ?_) fun hyes H4 s4 => ?_
      · have hw : whyB g t (.res x y) = false := by
          show decide _ = false
          simpa using hno
        exact s_raiseNP (d := .str (Str.ofString "neighbour")) (ea_cons e_str ea_nil) fun dx H5 s5 => k2 hw dx H5 ((s03.trans s4).trans s5)
      · have hmem : y ∈ nbrs g x := by simpa using hyes
        have hw : whyB g t (.res x y) = true := by
          show decide _ = true
          simpa using hmem
        have k := k1 hw
        have pt4 := pt3.same s4
        have fc4 := fc3.same s4
        obtain ⟨dx, gv, tv, ei, _, _⟩ := pt4.i
        refine m_go (Q := Q) (at_var rfl) ei rfl (ea_cons (e_ixT (e_var rfl fc4) e_int (by rfl)) (ea_cons (e_ixT (e_var rfl fc4) e_int (by rfl)) ea_nil)) fun vs5 H5 s5 f5 => ?_
        obtain ⟨y1, y2, rfl, f21, f22⟩ := f5.I2
        obtain rfl := f21.intI
        obtain rfl := f22.intI
        exact ⟨a, A, g, t, x, y, rfl, pt4.same s5, G, gd, (nbr_dir hmem).2, Nat.lt_succ_of_le ok.wl, fun H6 fr6 pt6 => k H6 ((Fr.same ((s03.trans s4).trans s5)).trans (frI fr6)) pt6⟩
    | stl =>
      have k := k1 rfl
      refine s_ifQ (hq fc) (fun h => absurd h (by decide +kernel)) fun _ H1 s1 => ?_
      refine s_ifQ (hq (fc.same s1)) (fun h => absurd h (by decide +kernel)) fun _ H2 s2 => ?_
      have s02 := s1.trans s2
      refine s_ifQ (hq (fc.same s02)) (fun h => absurd h (by decide +kernel)) fun _ H3 s3 => ?_
      have s03 := s02.trans s3
      refine s_ifQ (hq (fc.same s03)) (fun _ H4 s4 => ?_) fun h => absurd h (by decide +kernel)
      have pt4 := pt.same (s03.trans s4)
      obtain ⟨dx, gv, tv, ei, _, _⟩ := pt4.i
      refine m_go (Q := Q) (at_var rfl) ei rfl ea_nil fun vs5 H5 s5 f5 => ?_
      cases f5
      exact ⟨a, A, g, t, 400, rfl, pt4.same s5, G, ok.run rfl, fun H6 fr6 pt6 => k H6 ((Fr.same ((s03.trans s4).trans s5)).trans (frI fr6)) pt6⟩
    | dlv i =>
      refine s_ifQ (hq fc) (fun h => absurd h (by decide +kernel)) fun _ H1 s1 => ?_
      refine s_ifQ (hq (fc.same s1)) (fun h => absurd h (by decide +kernel)) fun _ H2 s2 => ?_
      have s02 := s1.trans s2
      refine s_ifQ (hq (fc.same s02)) (fun h => absurd h (by decide +kernel)) fun _ H3 s3 => ?_
      have s03 := s02.trans s3
      refine s_ifQ (hq (fc.same s03)) (fun h => absurd h (by decide +kernel)) fun _ H4 s4 => ?_
      have s04 := s03.trans s4
      have pt4 := pt.same s04
      exact a2_go (at_var rfl) (e_var rfl (fc.same s04)) fun y H5 s5 f5 => ⟨a, A, g, t, .dlv i, y, rfl, rfl, pt4.same s5, f5, ok, fun hw H6 fr6 pt6 => k1 hw H6 ((Fr.same (s04.trans s5)).trans fr6) pt6, fun hw d H6 s6 => k2 hw d H6 ((s04.trans s5).trans s6)⟩
    | dbl i =>
      refine s_ifQ (hq fc) (fun h => absurd h (by decide +kernel)) fun _ H1 s1 => ?_
      refine s_ifQ (hq (fc.same s1)) (fun h => absurd h (by decide +kernel)) fun _ H2 s2 => ?_
      have s02 := s1.trans s2
      refine s_ifQ (hq (fc.same s02)) (fun h => absurd h (by decide +kernel)) fun _ H3 s3 => ?_
      have s03 := s02.trans s3
      refine s_ifQ (hq (fc.same s03)) (fun h => absurd h (by decide +kernel)) fun _ H4 s4 => ?_
      have s04 := s03.trans s4
      have pt4 := pt.same s04
      exact a2_go (at_var rfl) (e_var rfl (fc.same s04)) fun y H5 s5 f5 => ⟨a, A, g, t, .dbl i, y, rfl, rfl, pt4.same s5, f5, ok, fun hw H6 fr6 pt6 => k1 hw H6 ((Fr.same (s04.trans s5)).trans fr6) pt6, fun hw d H6 s6 => k2 hw d H6 ((s04.trans s5).trans s6)⟩
    | los i =>
      refine s_ifQ (hq fc) (fun h => absurd h (by decide +kernel)) fun _ H1 s1 => ?_
      refine s_ifQ (hq (fc.same s1)) (fun h => absurd h (by decide +kernel)) fun _ H2 s2 => ?_
      have s02 := s1.trans s2
      refine s_ifQ (hq (fc.same s02)) (fun h => absurd h (by decide +kernel)) fun _ H3 s3 => ?_
      have s03 := s02.trans s3
      refine s_ifQ (hq (fc.same s03)) (fun h => absurd h (by decide +kernel)) fun _ H4 s4 => ?_
      have s04 := s03.trans s4
      have pt4 := pt.same s04
      exact a2_go (at_var rfl) (e_var rfl (fc.same s04)) fun y H5 s5 f5 => ⟨a, A, g, t, .los i, y, rfl, rfl, pt4.same s5, f5, ok, fun hw H6 fr6 pt6 => k1 hw H6 ((Fr.same (s04.trans s5)).trans fr6) pt6, fun hw d H6 s6 => k2 hw d H6 ((s04.trans s5).trans s6)⟩
/-- a talk behind a command -/
def spBeh (K : PySem.W.Frag) : Sp := fun vs H Q E => ∃ a A g t c cv, vs = [.ref a, cv] ∧ PT K H a A g t ∧ Fz H cv (Cmd.enc c) ∧ PerfOK g t c ∧
  (whyB g t c = true → ∀ x A' H' p, Same H H' → H x = none → (∀ b ∈ A'.fp, H b = none) → PT K H' x A' g (perfT g t c).1 → H' p = some (.tup [.ref x, .int ((perfT g t c).2 : Nat)]) → Q (.ref p) H') ∧ (whyB g t c = false → ∀ d H', Same H H' → E (.ref (CNP K)) (some d) H')
theorem sc_behind : FnScope ["talk", "command", "later", "effect"] ["talk", "command"] (defScope s_behind) := ⟨rfl, rfl, rfl, by decide +kernel, rfl, by decide +kernel, by decide +kernel⟩
theorem calX_behind (T : Tx K mg) (U : Ux K) : CalX P w K mg base 10 "behind" (spBeh K) :=
  T.calX 33 33 rfl rfl sc_behind (fun _ _ _ _ _ _ us hl => match us, hl with | [_, _], _ => rfl) (fun vs H Q E ⟨_, _, _, _, _, _, e, _⟩ => by rw [e]; rfl) fun f cdv A' outer s H vs Q E hr h => by
    obtain ⟨a, A, g, t, c, cv, rfl, pt, fc, ok, k1, k2⟩ := h
    refine ⟨_, (pss_cons (ps_set (i := 2) sc_behind.nd rfl (Or.inl rfl) (pe_mt0 (met_Talk_copied T) hr (by decide) (pv 0)))
      (pss_cons (ps_set (i := 3) sc_behind.nd rfl (Or.inl rfl) (pe_cX (calX_effect_of T U) hr (by decide) tkX (by rfl) (pa_cons (pv 2) (pa_cons (pv 1) pa_nil))))
      (pss_one (ps_ret (pe_tup (pa_cons (pv 2) (pa_cons (pv 3) pa_nil))))))), ?_⟩
    obtain ⟨dx, gv, tv, ei, _, _⟩ := pt.i
    refine s_asgK (m_go (at_var rfl) ei rfl ea_nil fun vs1 H1 s1 f1 => ?_)
    cases f1
    refine ⟨a, A, g, t, rfl, pt.same s1, ok.G, ok.gd, by have := ok.wl; omega, fun x A1 H2 s2 nx nA pt2 => ?_⟩
    have s02 := s1.trans s2
    refine s_asgK (a2_go (at_var (l := x) rfl) (e_var rfl (fc.same s02)) fun y H3 s3 f3 => ?_)
    have pt3 := pt2.same s3
    have s03 := s02.trans s3
    have hfp : ∀ b ∈ x :: A1.fp, H b = none := fun b hb => by
      rcases List.mem_cons.mp hb with rfl | hb
      · exact s1.free nx
      · exact s1.free (nA b hb)
    have keep : ∀ {H4 : Hp}, Fr (x :: A1.fp) H3 H4 → Same H H4 := fun fr b o e => fr b o (fun hb => by
      rw [hfp b hb] at e
      cases e) (s03 b o e)
    refine ⟨x, A1, g, t, c, y, rfl, pt3, f3, ok, fun hw H4 fr4 pt4 => ?_, fun hw d H4 s4 => k2 hw d H4 (s03.trans s4)⟩
    show tRet (tTup _) _ _ H4
    refine tupA_go (at_var (l := x) rfl) (e_var rfl (.int _)) fun z p H5 s5 f5 hp => ?_
    obtain rfl := f5.intI
    exact k1 hw x A1 _ p (((keep fr4).trans s5).trans (same_new hp)) (hfp x (by simp)) (fun b hb => hfp b (by simp [hb])) ((pt4.same s5).same (same_new hp)) upd_same
end
end Tt

/-! try: body / except (A, B): suite, every exception of the body caught. -/
namespace Tt
open PySem PySem.Spec PyProof.Rows L2
theorem fly_push {B h : Heap} {l : List Env} {a : Addr} {Z : Obj → Prop} (f : HandSPX.FlyingZ B l a Z h) (o : Obj) : HandSPX.FlyingZ B l a Z (h.push o) := by
  obtain ⟨k1, k2, k3, oe, vs, T, oT, ts, he, hz, hd, h1, h2, h3, h4, h5, h6⟩ := f
  exact ⟨fun b u e => Heap.get?_push_of_some _ (k1 b u e), k2, k3.of_keeps fun b u e _ => ⟨u, Heap.get?_push_of_some _ e, rfl⟩, oe, vs, T, oT, ts, Heap.get?_push_of_some _ he, hz, hd, h1, h2, h3, Heap.get?_push_of_some _ h4, h5, h6⟩
/-- what is wished of an exception of the body -/
def wTup (K : PySem.W.Frag) (c1 c2 : Value) (ts : TS) (D : Ends) : WX := fun cls d σ H => PySem.W.exmAny K cls [c1, c2] = some true ∧ ts D σ H
section
variable {X : Cx} {body suite : List Stmt} {b₀ : Stmt} {x1 x2 : Str} {c1 c2 : Value} {p1 p2 pt pos' pos : Pos} {kk : Nat} {tb : WX → TS} {ts : TS}
theorem ps_try_tup2 (hs : X.stack = X.env :: X.outer) (hf : X.env.frame = some X.env.locals)
    (hb : ∀ (W : WX) (pn : List (Addr × Obj)) (xe : Value → Shared → Prop), Takes (X.tr pn xe) W → PassesOwn (model X.prog X.w) X.A X.env xe → PSs (X.tr pn xe) body (tb W))
    (g1 : Gl X x1) (m1 : X.mg x1 = some c1) (d1 : (x1 == ("__debug__" : Str)) = false) (g2 : Gl X x2) (m2 : X.mg x2 = some c2) (d2 : (x2 == ("__debug__" : Str)) = false)
    (hst : starEach [.Name x1 p1, .Name x2 p2] X.env = [(false, eval (.Name x1 p1) X.env), (false, eval (.Name x2 p2) X.env)]) (hbk : backTo pt (starEach [.Name x1 p1, .Name x2 p2] X.env) = [(false, eval (.Name x1 p1) X.env), (false, eval (.Name x2 p2) X.env)])
    (hsu : ∀ (a : Addr) (oe : Obj) (cls : Value) (d : Option Addr) (pn : List (Addr × Obj)), Zc cls d oe → (∃ vs, oe.data = .fields vs) → PSs (X.suite a ((a, oe) :: pn)) (b₀ :: suite) ts) :
    PS X (.Try body [.ExceptHandler (some (.Tuple [.Name x1 p1, .Name x2 p2] kk pt)) none (b₀ :: suite) pos'] [] [] pos) (fun D σ H => tb (wTup X.K c1 c2 ts D) D σ H) := by
  refine ⟨fun pins s σ H D I h => ?_⟩
  have ok := I.ok
  have hfr : X.A.frames = some (X.env :: X.outer) := by rw [ok.frames, hs]
  refine wpAny_Try_except ?_
  refine wpAny_mono ((hb (wTup X.K c1 c2 ts D) (X.pn ++ pins) (fun e s₁ => wpAny (model X.prog X.w) X.A (noteFrame e X.env) (fun _ s₂ => wpAny (model X.prog X.w) X.A (setFlight e none) (fun _ s₃ =>
    wpAny (model X.prog X.w) X.A (handleBy e X.env [.ExceptHandler (some (.Tuple [.Name x1 p1, .Name x2 p2] kk pt)) none (b₀ :: suite) pos']) (SP X pins D) X.xe s₃) X.xe s₂) X.xe s₁) (fun u s' xx => ?_) PassesOwn.looking).run [] s σ H D (I.toTry _) h) (fun f s1 hsp => ?_) (fun e s1 he => he)
  · obtain ⟨a, B, sI, pins', σ', H', cls, d, rfl, J', nb, up, sky, na, os, ag, w⟩ := xx
    have J : Inv X pins σ' H' sI := J'.ofTry ok
    have sky' : Sky B (X.env :: X.outer) a (Zc cls d) X.env.locals s'.heap := by rw [← hs]; exact sky
    show wpAny (model X.prog X.w) X.A (noteFrame (.ref a) X.env) _ _ _
    refine Sky.land Zc.steady hfr hf sky' fun h3 fl3 up3 => ?_
    have J3 : Inv X pins σ' H' { s' with heap := h3 } := J.landed nb fl3.1 (up.trans up3) os ag
    obtain ⟨oe3, vs3, he3, hz3, hd3⟩ := fl3.there
    have notFr : ∀ {h : Heap} {o : Obj} {vs : Array Value}, h.FunFrames B (X.env :: X.outer) → h.get? a = some o → o.data = .fields vs → a ∉ frs (X.env :: X.outer) := fun {h o vs} ff e dd hm => by
      obtain ⟨_, o', e', hnf⟩ := ff.mem hm
      rw [e] at e'; cases e'
      exact hnf _ dd
    have nfr := notFr fl3.2.2.1 he3 hd3
    have nL : a ≠ X.env.locals := fun z => nfr (List.mem_filterMap.mpr ⟨X.env, List.mem_cons_self, by rw [hf, z]⟩)
    have nF : a ∉ X.fs := fun hm => by
      obtain ⟨e, he, q⟩ := List.mem_filterMap.mp hm
      exact nfr (List.mem_filterMap.mpr ⟨e, List.mem_cons_of_mem _ he, q⟩)
    have S3 := J3.suite he3 hd3 na nL nF
    obtain ⟨wm, wk⟩ := w
    refine wpAny_handleBy_cons (codeAny_handlers_test ?_) (by intro q; cases q)
    refine wpAny_Tuple_spliced ?_
    show wpAny _ (X.A.mark (some (.ref a))) (PySem.spliced (backTo pt (starEach [.Name x1 p1, .Name x2 p2] X.env))) _ _ _
    rw [hbk]
    refine Calls.spliced_cons (ld_glob (X := X.suite a ((a, oe3) :: (X.pn ++ pins))) S3 g1 m1 (Calls.spliced_cons (ld_glob (X := X.suite a ((a, oe3) :: (X.pn ++ pins))) S3 g2 m2 (Calls.spliced_nil ⟨(by show 2 ≤ sizeLine; decide), ?_⟩) d2)) d1)
    have fl4 := fly_push fl3 { cls := .type "tuple", data := .seq [c1, c2].toArray }
    have up4 : h3.UpToSlots (h3.push { cls := .type "tuple", data := .seq [c1, c2].toArray }) := Heap.UpToSlots.of_keeps fun b o e => Heap.get?_push_of_some _ e
    have htp : (h3.push { cls := .type "tuple", data := .seq [c1, c2].toArray }).get? h3.objs.size = some { cls := .type "tuple", data := .seq [c1, c2].toArray } := Heap.get?_push_size _ rfl
    have he4 : (h3.push { cls := .type "tuple", data := .seq [c1, c2].toArray }).get? a = some oe3 := Heap.get?_push_of_some _ he3
    have J4 : Inv X pins σ' H' { s' with heap := h3.push { cls := .type "tuple", data := .seq [c1, c2].toArray } } := J.landed nb fl4.1 ((up.trans up3).trans up4) os ag
    show wpAny _ _ _ _ _ { s' with heap := h3.push { cls := .type "tuple", data := .seq [c1, c2].toArray } }
    generalize h3.push { cls := .type "tuple", data := .seq [c1, c2].toArray } = h4 at fl4 up4 htp he4 J4 ⊢
    have LT : PySem.W.Looks (model X.prog X.w) h4 (typeOf (.ref a)) cls := fun A Q E s k q => wpAny_typeOf_ref (k _ _ he4) (by rw [hz3.1]; exact q)
    have LM := PySem.W.exm_tup2 (M := model X.prog X.w) (J4.kIn) LT htp wm
    refine LM.here ?_
    refine codeAny_handlers_suite ?_
    refine HandSPX.lands_againZ fl4 fun h5 fl5 up5 => ?_
    have J5 : Inv X pins σ' H' { s' with heap := h5 } := J.landed nb fl5.1 (((up.trans up3).trans up4).trans up5) os ag
    obtain ⟨oe5, vs5, he5, hz5, hd5⟩ := fl5.there
    have S5 := J5.suite he5 hd5 na nL nF
    refine wpAny_mono ((hsu a oe5 cls d (X.pn ++ pins) hz5 ⟨_, hd5⟩).run [] _ _ H' _ S5 wk) (fun f s6 hsp => ?_) (fun _ _ z => False.elim z)
    cases f with
    | next =>
      obtain ⟨σ6, H6, S6, q6⟩ := hsp
      exact ⟨_, _, S6.unsuite ok, q6⟩
    | brk =>
      obtain ⟨σ6, H6, S6, q6⟩ := hsp
      exact ⟨_, _, S6.unsuite ok, q6⟩
    | cont =>
      obtain ⟨σ6, H6, S6, q6⟩ := hsp
      exact ⟨_, _, S6.unsuite ok, q6⟩
    | ret u =>
      obtain ⟨v6, σ6, H6, S6, r6, q6⟩ := hsp
      exact ⟨_, _, _, S6.unsuite ok, r6, q6⟩
  · cases f with
    | next =>
      obtain ⟨σ', H', J', q⟩ := hsp
      exact wpAny_execs_nil ⟨σ', H', J'.ofTry ok, q⟩
    | brk =>
      obtain ⟨σ', H', J', q⟩ := hsp
      exact ⟨σ', H', J'.ofTry ok, q⟩
    | cont =>
      obtain ⟨σ', H', J', q⟩ := hsp
      exact ⟨σ', H', J'.ofTry ok, q⟩
    | ret u =>
      obtain ⟨v, σ', H', J', r, q⟩ := hsp
      exact ⟨v, σ', H', J'.ofTry ok, r, q⟩
end
end Tt

namespace Tt
open PySem PySem.Spec PyProof.Rows L2 RZ
open C8 (Cal Met Mak pe_c pe_mk pe_mt pe_mt0 pe_gc)
/-- a record: a command and an effect, or anything else -/
inductive Rec where
  | ok (c : Cmd) (e : PyData)
  | bad (d : PyData)
def Rec.enc : Rec → PyData
  | .ok c e => .tuple [c.enc, e]
  | .bad d => d
/-- what an effect may look like -/
def effD : PyData → Bool
  | .none => true
  | .bool _ => true
  | .int _ => true
  | .tuple [.int _] => true
  | _ => false
def BadR (d : PyData) : Prop := d = .none ∨ (∃ xs, d = .list xs) ∨ (∃ xs, d = .tuple xs ∧ xs.length ≠ 2) ∨ ∃ x y, d = .tuple [x, y] ∧ (x = .none ∨ ∃ i, x = .int i)
def eqI : PyData → Nat → Bool
  | .int i, n => decide (i = (n : Int))
  | _, _ => false
def recT (g : Gr) (t : Tk) : Rec → Option Tk
  | .ok c e => if whyB g t c && eqI e (perfT g t c).2 then some (perfT g t c).1 else none
  | .bad _ => none
def RecOK (g : Gr) (t : Tk) : Rec → Prop
  | .ok c e => PerfOK g t c ∧ effD e = true
  | .bad d => BadR d
section
variable {P : Program} {w : World} {K : PySem.W.Frag} {mg : Str → Option Value} {base : Heap}
def spTB (K : PySem.W.Frag) : Sp := fun vs H Q E => ∃ gv a A g t r rv, vs = [gv, .ref a, rv] ∧ Fz H gv (eG g) ∧ PT K H a A g t ∧ GOK g ∧ Fz H rv (Rec.enc r) ∧ RecOK g t r ∧
  (∀ t', recT g t r = some t' → ∀ x A' H', Same H H' → H x = none → (∀ b ∈ A'.fp, H b = none) → PT K H' x A' g t' → Q (.ref x) H') ∧ (recT g t r = none → ∀ H', Same H H' → Q .non H')
theorem at_0 {x : PyData} {ds : List PyData} : atI (x :: ds) 0 = some x := by
  unfold atI ixN
  rw [if_pos (by decide), if_pos (by rw [List.length_cons]; omega)]
  rfl
theorem sc_talk_behind : FnScope ["graph", "talk", "record", "later", "effect"] ["graph", "talk", "record"] (defScope s_talk_behind) := ⟨rfl, rfl, rfl, by decide +kernel, rfl, by decide +kernel, by decide +kernel⟩
theorem cal_talk_behind (T : Tx K mg) (U : Ux K) : Cal P w K mg base 11 "talk_behind" (spTB K) [] :=
  T.cal 34 34 rfl rfl sc_talk_behind (fun _ _ _ _ _ _ us hl => match us, hl with | [_, _, _], _ => rfl) (fun vs H Q E ⟨_, _, _, _, _, _, _, e, _⟩ => by rw [e]; rfl) fun f cdv A' outer s H vs Q E hr h => by
    obtain ⟨gv, a, A, g, t, r, rv, rfl, fg, pt, G, fr, hok, k1, k2⟩ := h
    refine ⟨_, (pss_cons (ps_if (PW.pt (pw_or (pt_not (pt_val (pe_callB (k_isi (K := K)) (by rfl) T.n_isinstance (by decide +kernel) (pa_cons (pv 2) (pa_cons (pe_bltn (v := .ty "tuple") (by rfl) T.n_tuple (by decide +kernel) rfl) pa_nil))))) (pw_or (pt_cmpR op_ne (pe_callB (k_len (K := K)) (by rfl) T.n_len (by decide +kernel) (pa_cons (pv 2) pa_nil)) pe_int (nomark _)) (pw_or1 (pt_not (pt_val (pe_c (cal_is_action_of T) hr (by decide) rfl (pa_cons (pv 0) (pa_cons (pe_ix (k_ixT (K := K)) (pv 2) pe_int (fun _ _ => rfl)) pa_nil))))))))) (pss_one (ps_ret pe_non)) pss_nil)
      (pss_cons (ps_try_tup2 rfl rfl (fun W pn xe tk hp => (pss_one (ps_asg (pe_cX (calX_behind T U) hr (by decide) tk (by rfl) (pa_cons (pv 1) (pa_cons (pe_ix (k_ixT (K := K)) (pv 2) pe_int (fun _ _ => rfl)) pa_nil))) (k_tg (K := K) (n := 2) (pgs_cons (pg_name (i := 3) sc_talk_behind.nd rfl (Or.inl rfl)) (pgs_cons (pg_name (i := 4) sc_talk_behind.nd rfl (Or.inl rfl)) pgs_nil)))))) (by rfl) (T.glo 66 rfl) (by decide) (by rfl) (T.glo 65 rfl) (by decide) rfl rfl (fun a oe cls d pn hz hd => (pss_one (ps_ret pe_non))))
      (pss_cons (ps_if (PW.pt (pw_or (pt_not (pt_val (pe_callB (k_isi (K := K)) (by rfl) T.n_isinstance (by decide +kernel) (pa_cons (pe_ix (k_ixT (K := K)) (pv 2) pe_int (fun _ _ => rfl)) (pa_cons (pe_bltn (v := .ty "int") (by rfl) T.n_int (by decide +kernel) rfl) pa_nil))))) (pw_or1 (pt_val (pe_callB (k_isi (K := K)) (by rfl) T.n_isinstance (by decide +kernel) (pa_cons (pe_ix (k_ixT (K := K)) (pv 2) pe_int (fun _ _ => rfl)) (pa_cons (pe_bltn (v := .ty "bool") (by rfl) T.n_bool (by decide +kernel) rfl) pa_nil))))))) (pss_one (ps_ret pe_non)) pss_nil)
      (pss_one (ps_ret (pe_ifExp (pt_cmpR op_eq (pe_ix (k_ixT (K := K)) (pv 2) pe_int (fun _ _ => rfl)) (pv 4) (nomark _)) (pv 3) pe_non)))))), ?_⟩
    cases r with
    | bad d =>
      have k := k2 rfl
      have fr' : Fz H rv d := fr
      rcases (show BadR d from hok) with rfl | ⟨xs, rfl⟩ | ⟨xs, rfl, hx⟩ | ⟨x, y, rfl, hx⟩
      · exact s_ifQ (t_or (c := true) (t_not (t_B (e_isi (e_var rfl fr') ki_NoneType_tuple))) fun h => nomatch h) (fun _ H1 s1 => EF.ret e_non fun v H2 s2 f3 => by
          obtain rfl := f3.nonI
          exact k H2 (s1.trans s2)) fun h => absurd h (by decide)
      · exact s_ifQ (t_or (c := true) (t_not (t_B (e_isi (e_var rfl fr') ki_list_tuple))) fun h => nomatch h) (fun _ H1 s1 => EF.ret e_non fun v H2 s2 f3 => by
          obtain rfl := f3.nonI
          exact k H2 (s1.trans s2)) fun h => absurd h (by decide)
      · exact s_ifQ ((t_or (t_not (t_B (e_isi (e_var rfl fr') ki_tuple_tuple))) fun _ => t_or (c := true) (t_test (e_neI (e_lenT (e_var rfl fr')) e_int)) fun h => absurd h (by simp; omega)).is (c := true) (by simp)) (fun _ H1 s1 => EF.ret e_non fun v H2 s2 f3 => by
          obtain rfl := f3.nonI
          exact k H2 (s1.trans s2)) fun h => absurd h (by decide)
      · exact s_ifQ ((t_or (t_not (t_B (e_isi (e_var rfl fr') ki_tuple_tuple))) fun _ => t_or (t_test (e_neI (e_lenT (e_var rfl fr')) e_int)) fun _ => t_not (t_B (e_call (ea_cons (e_var rfl fg) (ea_cons (e_ixT (e_var rfl fr') e_int (by rfl)) ea_nil)) ⟨g, x, rfl, G, .inr ⟨hx, rfl⟩⟩))).is (c := true) (by simp)) (fun _ H1 s1 => EF.ret e_non fun v H2 s2 f3 => by
          obtain rfl := f3.nonI
          exact k H2 (s1.trans s2)) fun h => absurd h (by decide)
    | ok c e =>
      obtain ⟨ok, he⟩ := hok
      have fr' : Fz H rv (.tuple [c.enc, e]) := fr
      refine s_ifQ ((t_or (t_not (t_B (e_isi (e_var rfl fr') ki_tuple_tuple))) fun _ => t_or (t_test (e_neI (e_lenT (e_var rfl fr')) e_int)) fun _ => t_not (t_B (e_call (ea_cons (e_var rfl fg) (ea_cons (e_ixT (e_var rfl fr') e_int (by rfl)) ea_nil)) ⟨g, c.enc, rfl, G, .inl ⟨c, rfl, ok.cok, rfl⟩⟩))).is (c := false) (by simp)) (fun h => nohold h rfl) fun _ H1 s1 => ?_
      have fr1 := fr'.same s1
      have pt1 := pt.same s1
      refine a2_go (at_var (l := a) rfl) (e_ixT (e_var rfl fr1) e_int (by rfl)) fun y H2 s2 f2 => ?_
      have s02 := s1.trans s2
      refine ⟨a, A, g, t, c, y, rfl, pt1.same s2, f2, ok, fun hw x A2 H3 p s3 nx nA pt3 ep => ?_, fun hw d H3 s3 => ⟨U.any, ?_⟩⟩
      · have s03 := s02.trans s3
        refine g2_raw ep ?_
        have fr3 := fr'.same s03
        have hno : eqI e (perfT g t c).2 = false → recT g t (.ok c e) = none := fun h => by
          show (if _ then _ else _) = none
          rw [h, Bool.and_false]
          rfl
        have kN : eqI e (perfT g t c).2 = false → ∀ H', Same H H' → Q .non H' := fun h => k2 (hno h)
        have e1 : ∀ {H4 : Hp}, Same H3 H4 → EF (tOp (rIxT K) (tVar 2) (tC (.int 1))) [some gv, some (.ref a), some rv, some (.ref x), some (.int ((perfT g t c).2 : Nat))] H4 e := fun s4 => e_ixT (e_var rfl (fr3.same s4)) e_int (by rfl)
        have leave : ∀ {H4 : Hp}, Same H3 H4 → eqI e (perfT g t c).2 = false → tRet (tC .non) { nx := fun x H' => Q V.non H', rt := Q } [some gv, some (.ref a), some rv, some (.ref x), some (.int ((perfT g t c).2 : Nat))] H4 := fun {H4} s4 h => EF.ret e_non fun v H5 s5 f5 => by
          obtain rfl := f5.nonI
          exact kN h H5 ((s03.trans s4).trans s5)
        cases e with
        | int i =>
          refine s_ifQ ((t_or (t_not (t_B (e_isi (e1 (Same.refl _)) ki_int_int))) fun _ => t_B (e_isi (e1 (Same.refl _)) ki_int_bool)).is (c := false) (by rfl)) (fun h => nohold h rfl) fun _ H4 s4 => ?_
          show tRet (tIf _ _ _) _ _ H4
          refine (t_test (e_eqI (e1 s4) (e_var rfl (.int _)))).go fun H5 s5 => ?_
          by_cases hi : i = ((perfT g t c).2 : Int)
          · rw [decide_eq_true hi]
            refine at_var (l := x) rfl H5 (Same.refl _) _ (k1 (perfT g t c).1 ?_ x A2 H5 ((s03.trans s4).trans s5) (s02.free nx) (fun b hb => s02.free (nA b hb)) ((pt3.same s4).same s5))
            show (if _ then _ else _) = _
            rw [hw, show eqI (.int i) (perfT g t c).2 = true from decide_eq_true hi]
            rfl
          · rw [decide_eq_false hi]
            exact leave (s4.trans s5) (decide_eq_false hi)
        | none => exact s_ifQ (t_or (c := true) (t_not (t_B (e_isi (e1 (Same.refl _)) ki_NoneType_int))) fun h => nomatch h) (fun _ H4 s4 => leave s4 rfl) fun h => absurd h (by decide)
        | bool b => exact s_ifQ ((t_or (t_not (t_B (e_isi (e1 (Same.refl _)) ki_bool_int))) fun _ => t_B (e_isi (e1 (Same.refl _)) ki_bool_bool)).is (c := true) (by rfl)) (fun _ H4 s4 => leave s4 rfl) fun h => absurd h (by decide)
        | tuple xs => exact s_ifQ (t_or (c := true) (t_not (t_B (e_isi (e1 (Same.refl _)) ki_tuple_int))) fun h => nomatch h) (fun _ H4 s4 => leave s4 rfl) fun h => absurd h (by decide)
        | str x => cases he
        | list xs => cases he
        | dict xs => cases he
      · refine EF.ret e_non fun v H4 s4 f4 => ?_
        obtain rfl := f4.nonI
        refine k2 ?_ H4 ((s02.trans s3).trans s4)
        show (if _ then _ else _) = none
        rw [hw]
        rfl
end
end Tt

namespace Tt
open PySem PySem.Spec PyProof.Rows L2 RZ
open C8 (Cal Met Mak pe_c pe_mk pe_mt pe_mt0 pe_gc)
section
variable {P : Program} {w : World} {K : PySem.W.Frag} {mg : Str → Option Value} {base : Heap}
def noTabs (g : Gr) : List Tab := g.scs.map fun _ => []
def emptyT (g : Gr) : Tk := newT g (noTabs g)
theorem noTabs_ok (g : Gr) : TabsOK g (noTabs g) where
  len := List.length_map ..
  ok := fun n hn => by
    have e : (noTabs g).getD n [] = [] := by
      unfold noTabs
      rw [List.getD_eq_getElem?_getD, List.getElem?_map, List.getElem?_eq_getElem (show n < g.scs.length from hn)]
      rfl
    rw [e]
    exact ⟨by simp, (fun _ h => nomatch h), List.nodup_nil⟩
def spEmp (K : PySem.W.Frag) : Sp := fun vs H Q E => ∃ gv g, vs = [gv] ∧ Fz H gv (eG g) ∧ GOK g ∧ ∀ x A H', Same H H' → H x = none → (∀ b ∈ A.fp, H b = none) → PT K H' x A g (emptyT g) → Q (.ref x) H'
theorem e_noT {σ : L2.St} {H : Hp} {tg : TE} {vs : List Nat} {σw : L2.St} {j1 : Nat} {g : Gr} (G : GOK g) (hg : EF tg σ H (eG g)) (h1 : wipe σ vs = σw := by rfl) (h2 : ∀ y, wipe (σw.set j1 (some y)) vs = σw := by intro _; rfl) :
    EF (tCB (rTupQ K) (tCons (tLc (iTup K (tOp (rIxT K) tg (tC (.int 1)))) (gName j1) tYes (tTup tNil) vs) tNil)) σ H (eTabs (noTabs g)) :=
  (e_tupL (EL.ef (el_map1 (xs := g.scs) (enc := eR) (g := fun _ => eTab []) (w_tup (e_ixT hg e_int (by rfl))) (by have := G.n4; have e : g.scs.length = g.n := rfl; omega) (fun _ _ => rfl) (fun r hr y H1 s1 fy => e_tup ea_nil) h1 h2))).is (by
    unfold eTabs noTabs
    rw [List.map_map]
    rfl)
theorem sc_empty_talk : FnScope ["graph", "scope"] ["graph"] (defScope s_empty_talk) := ⟨rfl, rfl, rfl, by decide +kernel, rfl, by decide +kernel, by decide +kernel⟩
theorem cal_empty_talk (T : Tx K mg) : Cal P w K mg base 9 "empty_talk" (spEmp K) [] :=
  T.cal 32 32 rfl rfl sc_empty_talk (fun _ _ _ _ _ _ us hl => match us, hl with | [_], _ => rfl) (fun vs H Q E ⟨_, _, e, _⟩ => by rw [e]; rfl) fun f cdv A' outer s H vs Q E hr h => by
    obtain ⟨gv, g, rfl, fg, G, k⟩ := h
    refine ⟨_, (pss_one (ps_ret (pe_mk (mak_Talk T) hr (by decide) rfl (pa_cons (pv 0) (pa_cons (pe_callTy (k_tupOf (K := K)) (by rfl) T.n_tuple (by decide +kernel) (pa_cons (pe_lc (own := [("scope", 1)]) (g := gName 1) (tt := tYes) rfl sc_empty_talk.nd (k_piT (K := K) (pe_ix (k_ixT (K := K)) (pv 0) pe_int (fun _ _ => rfl))) (blkOk_by (N := ["graph", "scope"]) (sc := defScope s_empty_talk) (by decide +kernel)) (fun _ _ _ _ _ => (pg_name (i := 1) sc_empty_talk.nd rfl (Or.inl rfl))) (fun _ _ _ _ _ => pts_nil) (fun _ _ _ _ _ => (pe_tup pa_nil))) pa_nil)) pa_nil))))), ?_⟩
    exact mk_go (ea_cons (e_var rfl fg) (ea_cons (e_noT G (e_var rfl fg)) ea_nil)) G (noTabs_ok g) k
def runR (g : Gr) : Tk → List Rec → Bool
  | _, [] => true
  | t, r :: rs => match recT g t r with
    | some t' => runR g t' rs
    | none => false
def RunsOK (g : Gr) : Tk → List Rec → Prop
  | _, [] => True
  | t, r :: rs => RecOK g t r ∧ ∀ t', recT g t r = some t' → RunsOK g t' rs
/-- what may be handed to are_right -/
inductive Val where
  | recs (rs : List Rec)
  | non
  | lst (ds : List PyData)
def Val.enc : Val → PyData
  | .recs rs => .tuple (rs.map Rec.enc)
  | .non => .none
  | .lst ds => .list ds
def valR (g : Gr) : Val → Bool
  | .recs rs => runR g (emptyT g) rs
  | _ => false
def ValOK (g : Gr) : Val → Prop
  | .recs rs => rs.length ≤ 20 ∧ RunsOK g (emptyT g) rs
  | _ => True
def spARt (K : PySem.W.Frag) : Sp := fun vs H Q E => ∃ gv g rv v, vs = [gv, rv] ∧ Fz H gv (eG g) ∧ GOK g ∧ Fz H rv (Val.enc v) ∧ ValOK g v ∧ ∀ H', Same H H' → Q (.bl (valR g v)) H'
theorem t_isNv {σ : L2.St} {H : Hp} {i : Nat} {v : V} (h : σ[i]? = some (some v)) : ET (tTest (tOp rIsN (tVar i) (tC .non))) σ H (decide (v = .non)) := fun H1 a Q q => ⟨v, h, rfl, _, rfl, q H1 (Same.refl _)⟩
theorem a1_go {sp : Sp} {E : XK} {ta : TE} {σ : L2.St} {H : Hp} {Q : VK} {d : PyData} (ha : EF ta σ H d) (k : ∀ y H1, Same H H1 → Fz H1 y d → sp [y] H1 Q E) : tCall sp [] E (tCons ta tNil) σ H Q := ha.go fun y H1 s f => k y H1 s f
theorem a3_go {sp : Sp} {E : XK} {ta tb tc : TE} {σ : L2.St} {H : Hp} {Q : VK} {a : Addr} {d e : PyData} (ha : EF ta σ H d) (hb : ∀ H1, Same H H1 → AtD tb σ H1 a) (hc : EF tc σ H e) (k : ∀ x y H1, Same H H1 → Fz H1 x d → Fz H1 y e → sp [x, .ref a, y] H1 Q E) : tCall sp [] E (tCons ta (tCons tb (tCons tc tNil))) σ H Q :=
  ha.go fun x H1 s1 f1 => hb H1 s1 H1 (Same.refl _) _ ((hc.mono s1).go fun y H2 s2 f2 => k x y H2 (s1.trans s2) (f1.same s2) f2)
theorem sc_are_right : FnScope ["graph", "records", "talk", "record"] ["graph", "records"] (defScope s_are_right) := ⟨rfl, rfl, rfl, by decide +kernel, rfl, by decide +kernel, by decide +kernel⟩
theorem cal_are_right (T : Tx K mg) (U : Ux K) : Cal P w K mg base 12 "are_right" (spARt K) [] :=
  T.cal 35 35 rfl rfl sc_are_right (fun _ _ _ _ _ _ us hl => match us, hl with | [_, _], _ => rfl) (fun vs H Q E ⟨_, _, _, _, e, _⟩ => by rw [e]; rfl) fun f cdv A' outer s H vs Q E hr h => by
    obtain ⟨gv, g, rv, v, rfl, fg, G, fv, hok, k⟩ := h
    refine ⟨_, (pss_cons (ps_expr (pe_c (cal_check_tree T) hr (by decide) rfl (pa_cons (pv 0) pa_nil)))
      (pss_cons (ps_if (PW.pt (pw_or (pt_not (pt_val (pe_callB (k_isi (K := K)) (by rfl) T.n_isinstance (by decide +kernel) (pa_cons (pv 1) (pa_cons (pe_bltn (v := .ty "tuple") (by rfl) T.n_tuple (by decide +kernel) rfl) pa_nil))))) (pw_or1 (pt_cmpR op_gt (pe_callB (k_len (K := K)) (by rfl) T.n_len (by decide +kernel) (pa_cons (pv 1) pa_nil)) (pe_gc (by rfl) T.c_MOST_COMMANDS) (nomark _))))) (pss_one (ps_ret pe_bl)) pss_nil)
      (pss_cons (ps_set (i := 2) sc_are_right.nd rfl (Or.inl rfl) (pe_c (cal_empty_talk T) hr (by decide) rfl (pa_cons (pv 0) pa_nil)))
      (pss_cons (ps_for PassesOwn.never rfl (k_piT (K := K) (pv 1)) (pg_name (i := 3) sc_are_right.nd rfl (Or.inl rfl))
        (pss_cons (ps_set (i := 2) sc_are_right.nd rfl (Or.inl rfl) (pe_c (cal_talk_behind T U) hr (by decide) rfl (pa_cons (pv 0) (pa_cons (pv 2) (pa_cons (pv 3) pa_nil)))))
        (pss_one (ps_if (pt_cmpR op_isN (pv 2) pe_non (nomark _)) (pss_one (ps_ret pe_bl)) pss_nil))))
      (pss_one (ps_ret pe_bl)))))), ?_⟩
    refine s_dropK (EF.go (e_call (ea_cons (e_var rfl fg) ea_nil) ⟨g, rfl, G, rfl⟩) fun v0 H1 s1 _ => ?_)
    have fg1 := fg.same s1
    have fv1 := fv.same s1
    have leave : ∀ {H2 : Hp}, Same H H2 → valR g v = false → tRet (tC (.bl false)) { nx := fun x H' => Q V.non H', rt := Q } [some gv, some rv, none, none] H2 := fun {H2} s2 e => by
      have := k H2 s2
      rw [e] at this
      exact this
    cases v with
    | non => exact s_ifQ (t_or (c := true) (t_not (t_B (e_isi (e_var rfl fv1) ki_NoneType_tuple))) fun h => nomatch h) (fun _ H2 s2 => leave (s1.trans s2) rfl) fun h => absurd h (by decide)
    | lst ds => exact s_ifQ (t_or (c := true) (t_not (t_B (e_isi (e_var rfl fv1) ki_list_tuple))) fun h => nomatch h) (fun _ H2 s2 => leave (s1.trans s2) rfl) fun h => absurd h (by decide)
    | recs rs =>
      obtain ⟨hlen, hro⟩ := hok
      have fv1' : Fz H1 rv (.tuple (rs.map Rec.enc)) := fv1
      refine s_ifQ ((t_or (t_not (t_B (e_isi (e_var rfl fv1') ki_tuple_tuple))) fun _ => t_test (e_gt (e_lenT (e_var rfl fv1')) e_gl)).is (c := false) (by simp; omega)) (fun h => nohold h rfl) fun _ H2 s2 => ?_
      have s02 := s1.trans s2
      refine s_asgK (a1_go (e_var rfl (fg1.same s2)) fun y H3 s3 f3 => ⟨y, g, rfl, f3, G, fun x A H4 s4 nx nA pt => ?_⟩)
      have s04 := (s02.trans s3).trans s4
      have fg4 := fg.same s04
      have fv4 : Fz H4 rv (.tuple (rs.map Rec.enc)) := fv.same s04
      refine s_for (xs := rs) (enc := Rec.enc) (w_tup (e_var rfl fv4)) (fun B i σ' H' => ∃ x A t' o3, σ' = [some gv, some rv, some (.ref x), o3] ∧ Same B H' ∧ PT K H' x A g t' ∧ RunsOK g t' (rs.drop i) ∧ runR g t' (rs.drop i) = runR g (emptyT g) rs) (fun B sB => ⟨x, A, emptyT g, _, rfl, Same.refl _, pt.same sB, hro, rfl⟩) (fun B i σ' H' sB ⟨_, _, _, _, _, s, _⟩ => s) ?_ ?_
      · rintro B i r σ' H' yr H5 sB hi ⟨x, A, t', o3, rfl, s5, pt5, hr5, he5⟩ s6 fy
        have hdrop : rs.drop i = r :: rs.drop (i + 1) := by
          obtain ⟨hlt, hge⟩ := List.getElem?_eq_some_iff.mp hi
          rw [List.drop_eq_getElem_cons hlt, hge]
        rw [hdrop] at hr5 he5
        have s56 := s5.trans s6
        refine s_asgK (a3_go (e_var rfl ((fg4.same sB).same s56)) (fun _ _ => at_var rfl) (e_var rfl fy) fun u1 u2 H6 s7 g1 g2 => ⟨u1, x, A, g, t', r, u2, rfl, g1, (pt5.same s6).same s7, G, g2, hr5.1, fun t2 ht2 x2 A2 H7 s8 nx2 nA2 pt7 => ?_, fun hn H7 s8 => ?_⟩)
        · refine s_if (t_isNv rfl) (fun h => nohold h rfl) fun _ H8 s9 => ⟨x2, A2, t2, _, rfl, ((s56.trans s7).trans s8).trans s9, pt7.same s9, hr5.2 t2 ht2, ?_⟩
          rw [← he5]
          show _ = (match recT g t' r with
            | some t' => runR g t' (rs.drop (i + 1))
            | none => false)
          rw [ht2]
        · refine s_if (t_isNv rfl) (fun _ H8 s9 => ?_) fun h => nohold (p := _) h.symm (by rfl)
          have hf : runR g (emptyT g) rs = false := by
            rw [← he5]
            show (match recT g t' r with
              | some t' => runR g t' (rs.drop (i + 1))
              | none => false) = false
            rw [hn]
          have := k H8 ((s04.trans sB).trans (((s56.trans s7).trans s8).trans s9))
          have e : valR g (.recs rs) = false := hf
          rw [e] at this
          exact this
      · rintro B σ' H' sB ⟨x, A, t', o3, rfl, s5, pt5, hr5, he5⟩
        rw [List.drop_length] at he5
        have := k H' ((s04.trans sB).trans s5)
        have e : valR g (.recs rs) = true := he5.symm
        rw [e] at this
        exact this
end
end Tt

/-! tuple(zip(t, u)) of two tuples. -/
namespace TZ
open PySem PySem.W PySem.Calls PyProof.Rows
section
variable {prog : Program} {w : World} {A : Around} {E : Value → Shared → Prop} {s : Shared}
theorem zipT_next_item_held {z TI TO T i1 i2 l1 l2 : Addr} {f : Bool} {oT : Obj} {k1 k2 : Nat} {xs ys : Array Value} {x y : Value} {Q : Value → Shared → Prop} (D : ZipApart z TI TO i1 i2 l1 l2)
    (hz : IsZipHeld s.heap z TI TO T f) (hT : s.heap.get? T = some oT) (hTI : IsPair s.heap TI (.ref i1) (.ref i2))
    (h1 : s.heap.IsTupleIter i1 l1 k1) (h2 : s.heap.IsTupleIter i2 l2 k2) (hl1 : s.heap.IsTuple l1 xs) (hl2 : s.heap.IsTuple l2 ys) (hx : xs[k1]? = some x) (hy : ys[k2]? = some y)
    (hQ : ∀ h', IsZipHeld h' z TI TO T true → h'.IsTupleIter i1 l1 (k1 + 1) → h'.IsTupleIter i2 l2 (k2 + 1) → IsPair h' s.heap.objs.size x y → h'.objs.size = s.heap.objs.size + 1 →
      (∀ c o, c ≠ z → c ≠ i1 → c ≠ i2 → s.heap.get? c = some o → h'.get? c = some o) → Q (.ref s.heap.objs.size) { s with heap := h' }) :
    wpAny (model prog w) A (Builtin.«zip.__next__» ⟨[.ref z], []⟩) (fun fin s' => ∃ v, fin = .done (.ret v) ∧ Q v s') E s := by
  show wpAny _ _ (field (.ref z) 2 >>= _) _ _ _
  refine wpAny_bind (wpAny_field hz rfl (x := .bool false) rfl ?_)
  show wpAny _ _ (field (.ref z) 3 >>= _) _ _ _
  refine wpAny_bind (wpAny_field hz rfl (x := .ref TI) rfl ?_)
  refine wpAny_bind (wpAny_seqItems hTI rfl ?_)
  show wpAny _ _ (Builtin.SmallTypes.ownedTupleIsFree (.ref z) >>= _) _ _ _
  refine wpAny_bind (wpAny_tupleHeld_zip hz hT fun h₁ hz₁ hs₁ => ?_)
  simp only [Bool.false_eq_true, if_false]
  refine wpAny_bind ?_
  rw [← Array.forIn_toList]
  simp only [List.forIn_cons, List.forIn_nil]
  refine wpAny_bind (wpAny_bind (wpAny_holding ?_))
  show wpAny _ _ (Builtin.SmallTypes.nextOf (.ref i1) >>= _) _ _ _
  refine wpAny_bind (RZ.nextOf_tuple_item (s := { s with heap := h₁ }) (h1.extBut hs₁.extBut D.i1z) (hl1.extBut hs₁.extBut D.l1z) hx fun h₂ h1₂ hs₂ => wpAny_pure ?_)
  refine wpAny_pure ?_
  refine wpAny_bind (wpAny_bind (wpAny_holding ?_))
  show wpAny _ _ (Builtin.SmallTypes.nextOf (.ref i2) >>= _) _ _ _
  refine wpAny_bind (RZ.nextOf_tuple_item (s := { s with heap := h₂ }) ((h2.extBut hs₁.extBut D.i2z).extBut hs₂.extBut D.i12.symm) ((hl2.extBut hs₁.extBut D.l2z).extBut hs₂.extBut D.l2i1) hy fun h₃ h2₃ hs₃ => wpAny_pure ?_)
  refine wpAny_pure (wpAny_pure ?_)
  show wpAny _ _ (newTuple [x, y] >>= _) _ _ _
  refine wpAny_bind (wpAny_newTuple ?_)
  have hsz : h₃.objs.size = s.heap.objs.size := by rw [hs₃.1, hs₂.1, hs₁.1]
  have hz₃ : IsZipHeld h₃ z TI TO T true := hs₃.extBut _ _ D.i2z.symm (hs₂.extBut _ _ D.i1z.symm hz₁)
  have hk : ∀ c o, c ≠ z → c ≠ i1 → c ≠ i2 → s.heap.get? c = some o → h₃.get? c = some o := fun c o c1 c2 c3 e => hs₃.extBut _ _ c3 (hs₂.extBut _ _ c2 (hs₁.extBut _ _ c1 e))
  have h1₃ : h₃.IsTupleIter i1 l1 (k1 + 1) := h1₂.extBut hs₃.extBut D.i12
  refine wpAny_pure ⟨_, rfl, ?_⟩
  show Q (.ref h₃.objs.size) _
  have hp : IsPair (h₃.push { cls := .type "tuple", data := .seq #[x, y] }) h₃.objs.size x y := Heap.get?_push_size _ rfl
  have hz4 : (h₃.push { cls := .type "tuple", data := .seq #[x, y] }).objs.size = h₃.objs.size + 1 := Heap.size_push ..
  rw [hsz] at hp hz4 ⊢
  exact hQ _ (Heap.get?_push_of_some _ hz₃) (h1₃.at fun o e => Heap.get?_push_of_some _ e) (h2₃.at fun o e => Heap.get?_push_of_some _ e) hp hz4 fun c o c1 c2 c3 e => Heap.get?_push_of_some _ (hk c o c1 c2 c3 e)

theorem zipT_next_end_held {z TI TO T i1 i2 l1 l2 : Addr} {f : Bool} {oT : Obj} {k1 k2 : Nat} {xs ys : Array Value} {Q : Fin → Shared → Prop} (hh : A.handled = none) (D : ZipApart z TI TO i1 i2 l1 l2)
    (hz : IsZipHeld s.heap z TI TO T f) (hT : s.heap.get? T = some oT) (hTI : IsPair s.heap TI (.ref i1) (.ref i2))
    (h1 : s.heap.IsTupleIter i1 l1 k1) (h2 : s.heap.IsTupleIter i2 l2 k2) (hl1 : s.heap.IsTuple l1 xs) (hl2 : s.heap.IsTuple l2 ys) (hend : xs[k1]? = none ∨ ys[k2]? = none)
    (hE : ∀ h' e, (∀ c o, c ≠ z → c ≠ i1 → c ≠ i2 → s.heap.get? c = some o → h'.get? c = some o) → (∃ o, h'.get? e = some o ∧ o.cls = .type "StopIteration") → E (.ref e) { s with heap := h' }) :
    wpAny (model prog w) A (Builtin.«zip.__next__» ⟨[.ref z], []⟩) Q E s := by
  show wpAny _ _ (field (.ref z) 2 >>= _) _ _ _
  refine wpAny_bind (wpAny_field hz rfl (x := .bool false) rfl ?_)
  show wpAny _ _ (field (.ref z) 3 >>= _) _ _ _
  refine wpAny_bind (wpAny_field hz rfl (x := .ref TI) rfl ?_)
  refine wpAny_bind (wpAny_seqItems hTI rfl ?_)
  show wpAny _ _ (Builtin.SmallTypes.ownedTupleIsFree (.ref z) >>= _) _ _ _
  refine wpAny_bind (wpAny_tupleHeld_zip hz hT fun h₁ hz₁ hs₁ => ?_)
  simp only [Bool.false_eq_true, if_false]
  refine wpAny_bind ?_
  rw [← Array.forIn_toList]
  simp only [List.forIn_cons, List.forIn_nil]
  refine wpAny_bind (wpAny_bind (wpAny_holding ?_))
  show wpAny _ _ (Builtin.SmallTypes.nextOf (.ref i1) >>= _) _ _ _
  cases hx : xs[k1]? with
  | none =>
    refine wpAny_bind (RZ.nextOf_tuple_end (s := { s with heap := h₁ }) hh (h1.extBut hs₁.extBut D.i1z) (hl1.extBut hs₁.extBut D.l1z) hx fun h₂ e hs₂ he => ?_)
    exact hE h₂ e (fun c o c1 c2 _ x => hs₂ _ _ c2 (hs₁.extBut _ _ c1 x)) he
  | some x =>
    have hy : ys[k2]? = none := by rcases hend with h | h; rw [hx] at h; cases h; exact h
    refine wpAny_bind (RZ.nextOf_tuple_item (s := { s with heap := h₁ }) (h1.extBut hs₁.extBut D.i1z) (hl1.extBut hs₁.extBut D.l1z) hx fun h₂ h1₂ hs₂ => wpAny_pure ?_)
    refine wpAny_pure ?_
    refine wpAny_bind (wpAny_bind (wpAny_holding ?_))
    show wpAny _ _ (Builtin.SmallTypes.nextOf (.ref i2) >>= _) _ _ _
    refine wpAny_bind (RZ.nextOf_tuple_end (s := { s with heap := h₂ }) hh ((h2.extBut hs₁.extBut D.i2z).extBut hs₂.extBut D.i12.symm) ((hl2.extBut hs₁.extBut D.l2z).extBut hs₂.extBut D.l2i1) hy fun h₃ e hs₃ he => ?_)
    exact hE h₃ e (fun c o c1 c2 c3 x => hs₃ _ _ c3 (hs₂.extBut _ _ c2 (hs₁.extBut _ _ c1 x))) he

theorem wpAny_pyNext_zip_item_held {z TI TO T i1 i2 l1 l2 : Addr} {f : Bool} {oT : Obj} {k1 k2 : Nat} {xs ys : Array Value} {x y : Value} {Q : Option Value → Shared → Prop} (D : ZipApart z TI TO i1 i2 l1 l2)
    (hz : IsZipHeld s.heap z TI TO T f) (hT : s.heap.get? T = some oT) (hTI : IsPair s.heap TI (.ref i1) (.ref i2))
    (h1 : s.heap.IsTupleIter i1 l1 k1) (h2 : s.heap.IsTupleIter i2 l2 k2) (hl1 : s.heap.IsTuple l1 xs) (hl2 : s.heap.IsTuple l2 ys) (hx : xs[k1]? = some x) (hy : ys[k2]? = some y)
    (hQ : ∀ h', IsZipHeld h' z TI TO T true → h'.IsTupleIter i1 l1 (k1 + 1) → h'.IsTupleIter i2 l2 (k2 + 1) → IsPair h' s.heap.objs.size x y → h'.objs.size = s.heap.objs.size + 1 →
      (∀ c o, c ≠ z → c ≠ i1 → c ≠ i2 → s.heap.get? c = some o → h'.get? c = some o) → Q (some (.ref s.heap.objs.size)) { s with heap := h' }) :
    wpAny (model prog w) A (pyNext (.ref z)) Q E s := by
  have hTy : s.TypeIs (.ref z) "zip" := ⟨_, hz, rfl⟩
  unfold pyNext
  exact wpAny_bind (wpAny_attempt (wpAny_callSpecial?_slot (name := Str.ofString "__next__") hTy F.slot_zip_next
    (wpAny_call_entry F.slot_zip_next hTy F.entry_zip_next
      (zipT_next_item_held D hz hT hTI h1 h2 hl1 hl2 hx hy fun h' a1 a3 a4 a5 a6 a7 => wpAny_pure (hQ h' a1 a3 a4 a5 a6 a7)) (F.args_zip_next_1 _))))
theorem wpAny_pyNext_zip_end_held {z TI TO T i1 i2 l1 l2 : Addr} {f : Bool} {oT : Obj} {k1 k2 : Nat} {xs ys : Array Value} {Q : Option Value → Shared → Prop} (hh : A.handled = none) (D : ZipApart z TI TO i1 i2 l1 l2)
    (hz : IsZipHeld s.heap z TI TO T f) (hT : s.heap.get? T = some oT) (hTI : IsPair s.heap TI (.ref i1) (.ref i2))
    (h1 : s.heap.IsTupleIter i1 l1 k1) (h2 : s.heap.IsTupleIter i2 l2 k2) (hl1 : s.heap.IsTuple l1 xs) (hl2 : s.heap.IsTuple l2 ys) (hend : xs[k1]? = none ∨ ys[k2]? = none)
    (hQ : ∀ h', (∀ c o, c ≠ z → c ≠ i1 → c ≠ i2 → s.heap.get? c = some o → h'.get? c = some o) → Q none { s with heap := h' }) : wpAny (model prog w) A (pyNext (.ref z)) Q E s := by
  have hTy : s.TypeIs (.ref z) "zip" := ⟨_, hz, rfl⟩
  unfold pyNext
  refine wpAny_bind (wpAny_attempt (wpAny_callSpecial?_slot (name := Str.ofString "__next__") hTy F.slot_zip_next
    (wpAny_call_entry F.slot_zip_next hTy F.entry_zip_next (zipT_next_end_held hh D hz hT hTI h1 h2 hl1 hl2 hend fun h' e hk he => ?_) (F.args_zip_next_1 _))))
  obtain ⟨o, ho, hc⟩ := he
  refine wpAny_bind (wpAny_isInstance (T := "StopIteration") (b := true) ⟨o, ho, hc⟩ isSubtype_stop ?_)
  exact wpAny_pure (hQ _ hk)

end
end TZ

namespace Tt
open PySem PySem.Spec PyProof.Rows L2 RZ
open C8 (Cal Met Mak pe_c pe_mk pe_mt pe_mt0 pe_gc)
section
variable {P : Program} {w : World} {K : PySem.W.Frag} {mg : Str → Option Value} {base : Heap}
def fnt (gv cv tv : V) (l : Addr) : List (Str × V) := [("graph", gv), ("talks", .ref l), ("commands", cv), ("told", tv)]
/-- a network behind these commands: l its list of talks, t the last -/
structure NT (K : PySem.W.Frag) (H : Hp) (n l : Addr) (g : Gr) (t : Tk) (cs : List Cmd) (es : List Nat) : Prop where
  ex : ∃ dx gv cv tv xs x A, H n = some (.ins (CNetwork K) dx (fnt gv cv tv l)) ∧ Fz H gv (eG g) ∧ H l = some (.lst (xs ++ [.ref x])) ∧ xs.length = cs.length ∧ PT K H x A g t ∧ (∀ b ∈ x :: A.fp, b ≠ l) ∧ x ≠ n ∧ Fz H cv (.tuple (cs.map Cmd.enc)) ∧ Fz H tv (.tuple (eNs es))
theorem NT.same {H H' : Hp} {n l : Addr} {g : Gr} {t : Tk} {cs : List Cmd} {es : List Nat} (h : NT K H n l g t cs es) (s : Same H H') : NT K H' n l g t cs es := by
  obtain ⟨dx, gv, cv, tv, xs, x, A, h1, h2, h3, h4, h5, h6, h7, h8, h9⟩ := h.ex
  exact ⟨dx, gv, cv, tv, xs, x, A, s _ _ h1, h2.same s, s _ _ h3, h4, h5.same s, h6, h7, h8.same s, h9.same s⟩
def spNIn (K : PySem.W.Frag) : Sp := fun vs H Q E => ∃ n dx gv g, vs = [.ref n, gv] ∧ H n = some (.ins (CNetwork K) dx []) ∧ Fz H gv (eG g) ∧ GOK g ∧ ∀ H' l, Fr [n] H H' → H l = none → NT K H' n l g (emptyT g) [] [] → Q .non H'
theorem lst1_go {σ : L2.St} {H : Hp} {te : TE} {Q : VK} (h : te σ H fun v H1 => 1 ≤ sizeLine ∧ ∀ p, H1 p = none → Q (.ref p) (upd H1 p (.lst [v]))) : tLst (tCons te tNil) σ H Q := h
theorem sc_Network___init__ : FnScope ["self", "graph"] ["self", "graph"] (defScope s_Network___init__) := ⟨rfl, rfl, rfl, by decide +kernel, rfl, by decide +kernel, by decide +kernel⟩
theorem mak_Network (T : Tx K mg) : Mak P w K mg base 10 "Network" (CNetwork K) (spNIn K) [] :=
  T.mak 76 68 rfl rfl T.mk_Network sc_Network___init__ (fun _ _ _ _ _ _ us hl => match us, hl with | [_, _], _ => rfl) (fun vs H Q E ⟨_, _, _, _, e, _⟩ => by rw [e]; rfl) fun f cdv A' outer s H vs Q E hr h => by
    obtain ⟨n, dx, gv, g, rfl, en, fg, G, k⟩ := h
    refine ⟨_, (pss_cons (ps_expr (pe_c (cal_check_tree T) hr (by decide) rfl (pa_cons (pv 1) pa_nil)))
      (pss_cons (ps_fld (pv 0) (pv 1) rfl)
      (pss_cons (ps_fld (pv 0) (pe_lst (pa_cons (pe_c (cal_empty_talk T) hr (by decide) rfl (pa_cons (pv 1) pa_nil)) pa_nil)) rfl)
      (pss_cons (ps_fld (pv 0) (pe_tup pa_nil) rfl)
      (pss_one (ps_fld (pv 0) (pe_tup pa_nil) rfl)))))), ?_⟩
    refine s_dropK (EF.go (e_call (ea_cons (e_var rfl fg) ea_nil) ⟨g, rfl, G, rfl⟩) fun v0 H1 s1 _ => ?_)
    refine s_fldK (e_var rfl (fg.same s1)) (at_var rfl) (s1 _ _ en) T.cls_Network T.no_Network_graph (by simp) fun gv2 H2 s2 fg2 => ?_
    have e2 : H2 n = some (.ins (CNetwork K) dx []) := s2 _ _ (s1 _ _ en)
    have tk2 : TK H2 (upd H2 n (.ins (CNetwork K) dx [("graph", gv2)])) := ins_tk e2
    have s02 := s1.trans s2
    show tSeq (sFld K (tVar 0) _ "talks") _ _ _ (upd H2 n (.ins (CNetwork K) dx [("graph", gv2)]))
    have fg3 : Fz (upd H2 n (.ins (CNetwork K) dx [("graph", gv2)])) gv2 (eG g) := fg2.tk tk2 (tb_eG _)
    have fgp : Fz (upd H2 n (.ins (CNetwork K) dx [("graph", gv2)])) gv (eG g) := (fg.same s02).tk tk2 (tb_eG _)
    have e3 : (upd H2 n (.ins (CNetwork K) dx [("graph", gv2)])) n = some (.ins (CNetwork K) dx [("graph", gv2)]) := upd_same
    have fr3 : Fr [n] H (upd H2 n (.ins (CNetwork K) dx [("graph", gv2)])) := (Fr.same s02).trans (fr_upd (by simp))
    generalize upd H2 n (.ins (CNetwork K) dx [("graph", gv2)]) = H3 at fg3 fgp e3 fr3 ⊢
    refine s_fldR (lst1_go (a1_go (e_var rfl fgp) fun y H4 s4 f4 => ⟨y, g, rfl, f4, G, fun x A H5 s5 nx nA pt => ⟨by decide, fun l hl => ?_⟩⟩))
    have s35 := s4.trans s5
    have s36 := s35.trans (same_new (o := .lst [V.ref x]) hl)
    have hxn : x ≠ n := fun e => by
      rw [e, s4 _ _ e3] at nx
      cases nx
    have hAn : ∀ b ∈ A.fp, b ≠ n := fun b hb e => by
      have := nA b hb
      rw [e, s4 _ _ e3] at this
      cases this
    have hln : l ≠ n := fun e => by
      rw [e, s35 _ _ e3] at hl
      cases hl
    have hpl : ∀ b ∈ x :: A.fp, b ≠ l := fun b hb e => by
      rcases List.mem_cons.mp hb with rfl | hb
      · obtain ⟨_, _, _, q, _⟩ := pt.i
        rw [e, hl] at q
        cases q
      · obtain ⟨ys, q⟩ := pt.r.lst hb
        rw [e, hl] at q
        cases q
    have pt6 : PT K (upd H5 l (.lst [V.ref x])) x A g (emptyT g) := pt.same (same_new hl)
    have el6 : (upd H5 l (.lst [V.ref x])) l = some (.lst [V.ref x]) := upd_same
    have nl : H l = none := by
      have h5 := s35.free hl
      cases e : H l with
      | none => rfl
      | some o =>
        rw [fr3 l o (by simpa using hln) e] at h5
        cases h5
    generalize upd H5 l (.lst [V.ref x]) = H6 at s36 pt6 el6 ⊢
    refine fldK (at_var rfl) (s36 _ _ e3) T.cls_Network T.no_Network_talks (by simp) ?_
    show tSeq (sFld K (tVar 0) (tTup tNil) "commands") _ _ _ (upd H6 n (.ins (CNetwork K) dx [("graph", gv2), ("talks", .ref l)]))
    have tk7 : TK H6 (upd H6 n (.ins (CNetwork K) dx [("graph", gv2), ("talks", .ref l)])) := ins_tk (s36 _ _ e3)
    have pt7 : PT K (upd H6 n (.ins (CNetwork K) dx [("graph", gv2), ("talks", .ref l)])) x A g (emptyT g) := pt6.move tk7 fun b hb => upd_ne (by
      rcases List.mem_cons.mp hb with rfl | hb
      · exact hxn
      · exact hAn b hb)
    have el7 : (upd H6 n (.ins (CNetwork K) dx [("graph", gv2), ("talks", .ref l)])) l = some (.lst [V.ref x]) := by rw [upd_ne hln]; exact el6
    have fg7 := (fg3.same s36).tk tk7 (tb_eG _)
    have fr7 : Fr [n] H (upd H6 n (.ins (CNetwork K) dx [("graph", gv2), ("talks", .ref l)])) := (fr3.trans (Fr.same s36)).trans (fr_upd (by simp))
    have e7 : (upd H6 n (.ins (CNetwork K) dx [("graph", gv2), ("talks", .ref l)])) n = some (.ins (CNetwork K) dx [("graph", gv2), ("talks", .ref l)]) := upd_same
    generalize upd H6 n (.ins (CNetwork K) dx [("graph", gv2), ("talks", .ref l)]) = H7 at tk7 pt7 el7 fg7 fr7 e7 ⊢
    refine s_fldK (e_tup ea_nil) (at_var rfl) e7 T.cls_Network T.no_Network_commands (by simp) fun cv H8 s8 fc => ?_
    show sFld K (tVar 0) (tTup tNil) "told" _ _ (upd H8 n (.ins (CNetwork K) dx [("graph", gv2), ("talks", .ref l), ("commands", cv)]))
    have tk9 : TK H8 (upd H8 n (.ins (CNetwork K) dx [("graph", gv2), ("talks", .ref l), ("commands", cv)])) := ins_tk (s8 _ _ e7)
    have pt9 : PT K (upd H8 n (.ins (CNetwork K) dx [("graph", gv2), ("talks", .ref l), ("commands", cv)])) x A g (emptyT g) := (pt7.same s8).move tk9 fun b hb => upd_ne (by
      rcases List.mem_cons.mp hb with rfl | hb
      · exact hxn
      · exact hAn b hb)
    have el9 : (upd H8 n (.ins (CNetwork K) dx [("graph", gv2), ("talks", .ref l), ("commands", cv)])) l = some (.lst [V.ref x]) := by rw [upd_ne hln]; exact s8 _ _ el7
    have fg9 := (fg7.same s8).tk tk9 (tb_eG _)
    have fc9 := fc.tk tk9 rfl
    have fr9 : Fr [n] H (upd H8 n (.ins (CNetwork K) dx [("graph", gv2), ("talks", .ref l), ("commands", cv)])) := (fr7.trans (Fr.same s8)).trans (fr_upd (by simp))
    have e9 : (upd H8 n (.ins (CNetwork K) dx [("graph", gv2), ("talks", .ref l), ("commands", cv)])) n = some (.ins (CNetwork K) dx [("graph", gv2), ("talks", .ref l), ("commands", cv)]) := upd_same
    generalize upd H8 n (.ins (CNetwork K) dx [("graph", gv2), ("talks", .ref l), ("commands", cv)]) = H9 at tk9 pt9 el9 fg9 fc9 fr9 e9 ⊢
    refine s_fld1 (EF.go (e_tup ea_nil) fun tv H10 s10 ft => ?_)
    refine fldK (at_var rfl) (s10 _ _ e9) T.cls_Network T.no_Network_told (by simp) ?_
    show Q _ (upd H10 n (.ins (CNetwork K) dx (fnt gv2 cv tv l)))
    have tk11 : TK H10 (upd H10 n (.ins (CNetwork K) dx (fnt gv2 cv tv l))) := ins_tk (s10 _ _ e9)
    refine k _ l ((fr9.trans (Fr.same s10)).trans (fr_upd (by simp))) nl ⟨dx, gv2, cv, tv, [], x, A, upd_same, (fg9.same s10).tk tk11 (tb_eG _), by rw [upd_ne hln]; exact s10 _ _ el9, rfl, (pt9.same s10).move tk11 fun b hb => upd_ne (by
      rcases List.mem_cons.mp hb with rfl | hb
      · exact hxn
      · exact hAn b hb), hpl, hxn, (fc9.same s10).tk tk11 rfl, ft.tk tk11 rfl⟩
end
end Tt

namespace Tt
open PySem PySem.Spec PyProof.Rows L2 RZ
open C8 (Cal Met Mak pe_c pe_mk pe_mt pe_mt0 pe_gc)
section
variable {P : Program} {w : World} {K : PySem.W.Frag} {mg : Str → Option Value} {base : Heap}
def spAct (K : PySem.W.Frag) : Sp := fun vs H Q E => ∃ n l g t cs es c cv, vs = [.ref n, cv] ∧ NT K H n l g t cs es ∧ Fz H cv (Cmd.enc c) ∧ PerfOK g t c ∧ whyB g t c = true ∧ cs.length < 20 ∧ es.length < 20 ∧
  ∀ H', Fr [n, l] H H' → NT K H' n l g (perfT g t c).1 (cs ++ [c]) (es ++ [(perfT g t c).2]) → Q (.int ((perfT g t c).2 : Nat)) H'
theorem at_last {σ : L2.St} {H : Hp} {ta : TE} {l x : Addr} {xs : List V} (ha : AtD ta σ H l) (e : H l = some (.lst (xs ++ [.ref x]))) : AtD (tOp (rIxL K) ta (tUn (rU fun i => .int (-i)) (tC (.int 1)))) σ H x := fun H1 s Q q =>
  ha H1 s _ ⟨1, rfl, l, _, -1, .ref x, rfl, rfl, SqL.of (s _ _ e), by
    unfold atI ixN
    rw [if_neg (by decide), if_pos (by rw [List.length_append, List.length_singleton]; omega)]
    show (xs ++ [V.ref x])[_]? = _
    have : ((-1 : Int) + ((xs ++ [V.ref x]).length : Int)).toNat = xs.length := by
      rw [List.length_append, List.length_singleton]
      omega
    rw [this]
    simp, q⟩
theorem tb_cmds (cs : List Cmd) : tupB (.tuple (cs.map Cmd.enc)) = true := by
  show tupsB _ = true
  exact tupsB_map tb_cmd
theorem tb_eNsT (l : List Nat) : tupB (.tuple (eNs l)) = true := tbNT l
theorem sc_Network_act : FnScope ["self", "command", "talk", "effect"] ["self", "command"] (defScope s_Network_act) := ⟨rfl, rfl, rfl, by decide +kernel, rfl, by decide +kernel, by decide +kernel⟩
theorem met_Network_act (T : Tx K mg) (U : Ux K) : Met P w K mg base 11 (CNetwork K) "act" (spAct K) [] :=
  T.met 77 rfl T.cls_Network T.me_Network_act sc_Network_act (fun _ _ _ _ _ _ us hl => match us, hl with | [_, _], _ => rfl) (fun vs H Q E ⟨_, _, _, _, _, _, _, _, e, _⟩ => by rw [e]; rfl) fun f cdv A' outer s H vs Q E hr h => by
    obtain ⟨n, l, g, t, cs, es, c, cv, rfl, nt, fc, ok, hw, hl, hl2, k⟩ := h
    refine ⟨_, (pss_cons (ps_if (pt_not (pt_val (pe_c (cal_is_action_of T) hr (by decide) rfl (pa_cons (k_fld (K := K) (pv 0)) (pa_cons (pv 1) pa_nil))))) (pss_one ps_never) pss_nil)
      (pss_cons (ps_asg (pe_cX (calX_behind T U) hr (by decide) takes_none5 (by rfl) (pa_cons (pe_ix (k_ixL (K := K)) (k_fld (K := K) (pv 0)) (pe_un un_neg pe_int) (fun _ _ => rfl)) (pa_cons (pv 1) pa_nil))) (k_tg (K := K) (n := 2) (pgs_cons (pg_name (i := 2) sc_Network_act.nd rfl (Or.inl rfl)) (pgs_cons (pg_name (i := 3) sc_Network_act.nd rfl (Or.inl rfl)) pgs_nil))))
      (pss_cons (ps_if (pt_cmpR op_ge (pe_callB (k_len (K := K)) (by rfl) T.n_len (by decide +kernel) (pa_cons (k_fld (K := K) (pv 0)) pa_nil)) (pe_gc (by rfl) T.c_MOST_COMMANDS) (nomark _)) (pss_one ps_never) pss_nil)
      (pss_cons (ps_expr (k_bm (K := K) PySem.F.plainAttrs_list PySem.F.slot_list_append PySem.F.type_list_append mt_append (k_fld (K := K) (pv 0)) (pa_cons (pv 2) pa_nil)))
      (pss_cons (ps_fld (pv 0) (pe_op (k_catA (K := K)) (k_fld (K := K) (pv 0)) (pe_tup (pa_cons (pv 1) pa_nil))) rfl)
      (pss_cons (ps_fld (pv 0) (pe_op (k_catA (K := K)) (k_fld (K := K) (pv 0)) (pe_tup (pa_cons (pv 3) pa_nil))) rfl)
      (pss_one (ps_ret (pv 3))))))))), ?_⟩
    obtain ⟨dx, gv, cvv, tv, xs, x, A, en, fg, el, hxl, pt, hpl, hxn, fcs, fes⟩ := nt.ex
    have a_tl : ∀ {σ : L2.St} {H1 : Hp} {gv cvv tv : V}, AtD (tVar 0) σ H1 n → H1 n = some (.ins (CNetwork K) dx (fnt gv cvv tv l)) → AtD (tFld K (tVar 0) "talks") σ H1 l := fun h e => at_fld h e T.cls_Network T.no_Network_talks rfl
    refine s_ifQ (t_not (t_B (e_call (ea_cons (e_fld (at_var rfl) en T.cls_Network T.no_Network_graph rfl fg) (ea_cons (e_var rfl fc) ea_nil)) ⟨g, c.enc, rfl, ok.G, .inl ⟨c, rfl, ok.cok, rfl⟩⟩))) (fun h => nohold h rfl) fun _ H1 s1 => ?_
    refine a2_go (at_last (a_tl (at_var rfl) (s1 _ _ en)) (s1 _ _ el)) (e_var rfl (fc.same s1)) fun y H2 s2 f2 => ?_
    have s02 := s1.trans s2
    refine ⟨x, A, g, t, c, y, rfl, pt.same s02, f2, ok, fun _ x2 A2 H3 p s3 nx nA pt3 ep => ?_, fun hn => by rw [hw] at hn; cases hn⟩
    have s03 := s02.trans s3
    refine g2_raw ep ?_
    have en3 := s03 _ _ en
    refine s_ifQ (t_test (e_ge (e_lenT (e_fld (at_var rfl) en3 T.cls_Network T.no_Network_commands rfl (fcs.same s03))) e_gl)) (fun h => nohold h (by simp; omega)) fun _ H4 s4 => ?_
    have s04 := s03.trans s4
    have fresh : ∀ b ∈ x2 :: A2.fp, H b = none := fun b hb => by
      rcases List.mem_cons.mp hb with rfl | hb
      · exact s02.free nx
      · exact s02.free (nA b hb)
    have ne_n : ∀ b ∈ x2 :: A2.fp, b ≠ n := fun b hb e => by
      have := fresh b hb
      rw [e, en] at this
      cases this
    have ne_l : ∀ b ∈ x2 :: A2.fp, b ≠ l := fun b hb e => by
      have := fresh b hb
      rw [e, el] at this
      cases this
    have hnl : n ≠ l := fun e => by
      rw [e, el] at en
      cases en
    -- talks.append(talk)
    refine s_dropK ((a_tl (at_var rfl) (s04 _ _ en)) H4 (Same.refl _) _ ⟨Or.inl ⟨rfl, _, SqL.of (s04 _ _ el)⟩, at_var (l := x2) rfl H4 (Same.refl _) _ ⟨l, xs ++ [.ref x], .ref x2, rfl, rfl, s04 _ _ el, Nat.lt_of_le_of_lt (m := 100000) (by rw [List.length_append, List.length_singleton]; omega) (by decide), ?_⟩⟩)
    show tSeq (sFld K (tVar 0) _ "commands") _ _ _ (upd H4 l (.lst (xs ++ [V.ref x] ++ [V.ref x2])))
    have tk5 : TK H4 (upd H4 l (.lst (xs ++ [V.ref x] ++ [V.ref x2]))) := tk_upd (s04 _ _ el) (fun xs z => by cases z)
    have en5 : (upd H4 l (.lst (xs ++ [V.ref x] ++ [V.ref x2]))) n = some (.ins (CNetwork K) dx (fnt gv cvv tv l)) := by rw [upd_ne hnl]; exact s04 _ _ en
    have el5 : (upd H4 l (.lst (xs ++ [V.ref x] ++ [V.ref x2]))) l = some (.lst (xs ++ [V.ref x] ++ [V.ref x2])) := upd_same
    have pt5 : PT K (upd H4 l (.lst (xs ++ [V.ref x] ++ [V.ref x2]))) x2 A2 g (perfT g t c).1 := (pt3.same s4).move tk5 fun b hb => upd_ne (ne_l b hb)
    have fr5 : Fr [n, l] H (upd H4 l (.lst (xs ++ [V.ref x] ++ [V.ref x2]))) := (Fr.same s04).trans (fr_upd (by simp))
    have fg5 := (fg.same s04).tk tk5 (tb_eG _)
    have fcs5 := (fcs.same s04).tk tk5 (tb_cmds _)
    have fes5 := (fes.same s04).tk tk5 (tb_eNsT _)
    have fc5 := (fc.same s04).tk tk5 (tb_cmd _)
    generalize upd H4 l (.lst (xs ++ [V.ref x] ++ [V.ref x2])) = H5 at tk5 en5 el5 pt5 fr5 fg5 fcs5 fes5 fc5 ⊢
    refine s_fldK (d := .tuple ((cs ++ [c]).map Cmd.enc)) ((e_catA (e_fld (at_var rfl) en5 T.cls_Network T.no_Network_commands rfl fcs5) (e_tup (ea_cons (e_var rfl fc5) ea_nil)) (by simp; omega)).is (by simp)) (at_var rfl) en5 T.cls_Network T.no_Network_commands (by simp [fnt]) fun cv6 H6 s6 fcs6 => ?_
    show tSeq (sFld K (tVar 0) _ "told") _ _ _ (upd H6 n (.ins (CNetwork K) dx (fnt gv cv6 tv l)))
    have tk7 : TK H6 (upd H6 n (.ins (CNetwork K) dx (fnt gv cv6 tv l))) := ins_tk (s6 _ _ en5)
    have en7 : (upd H6 n (.ins (CNetwork K) dx (fnt gv cv6 tv l))) n = some (.ins (CNetwork K) dx (fnt gv cv6 tv l)) := upd_same
    have el7 : (upd H6 n (.ins (CNetwork K) dx (fnt gv cv6 tv l))) l = some (.lst (xs ++ [V.ref x] ++ [V.ref x2])) := by rw [upd_ne (Ne.symm hnl)]; exact s6 _ _ el5
    have pt7 : PT K (upd H6 n (.ins (CNetwork K) dx (fnt gv cv6 tv l))) x2 A2 g (perfT g t c).1 := (pt5.same s6).move tk7 fun b hb => upd_ne (ne_n b hb)
    have fr7 : Fr [n, l] H (upd H6 n (.ins (CNetwork K) dx (fnt gv cv6 tv l))) := (fr5.trans (Fr.same s6)).trans (fr_upd (by simp))
    have fg7 := (fg5.same s6).tk tk7 (tb_eG _)
    have fcs7 := fcs6.tk tk7 (tb_cmds _)
    have fes7 := (fes5.same s6).tk tk7 (tb_eNsT _)
    generalize upd H6 n (.ins (CNetwork K) dx (fnt gv cv6 tv l)) = H7 at tk7 en7 el7 pt7 fr7 fg7 fcs7 fes7 ⊢
    refine s_fldK (d := .tuple (eNs (es ++ [(perfT g t c).2]))) ((e_catA (e_fld (at_var rfl) en7 T.cls_Network T.no_Network_told rfl fes7) (e_tup (ea_cons (e_var rfl (.int _)) ea_nil)) (by simp; omega)).is (by simp)) (at_var rfl) en7 T.cls_Network T.no_Network_told (by simp [fnt]) fun tv8 H8 s8 fes8 => ?_
    show tRet (tVar 3) _ _ (upd H8 n (.ins (CNetwork K) dx (fnt gv cv6 tv8 l)))
    have tk9 : TK H8 (upd H8 n (.ins (CNetwork K) dx (fnt gv cv6 tv8 l))) := ins_tk (s8 _ _ en7)
    refine EF.ret (e_var rfl (.int _)) fun v H10 s10 f10 => ?_
    obtain rfl := f10.intI
    refine k H10 (((fr7.trans (Fr.same s8)).trans (fr_upd (by simp))).trans (Fr.same s10)) (NT.same ⟨dx, gv, cv6, tv8, xs ++ [V.ref x], x2, A2, upd_same, (fg7.same s8).tk tk9 (tb_eG _), by rw [upd_ne (Ne.symm hnl)]; exact s8 _ _ el7, by rw [List.length_append, List.length_append, hxl]; rfl, (pt7.same s8).move tk9 fun b hb => upd_ne (ne_n b hb), ne_l, ne_n x2 (by simp), (fcs7.same s8).tk tk9 (tb_cmds _), fes8.tk tk9 (tb_eNsT _)⟩ s10)
end
end Tt

/-! The law's own words: directions, neighbours, cut, gathered. -/
namespace Tt
open PySem PySem.Spec PyProof.Rows L2 RZ
open C8 (Cal Met Mak pe_c pe_mk pe_mt pe_mt0 pe_gc)
section
variable {P : Program} {w : World} {K : PySem.W.Frag} {mg : Str → Option Value} {base : Heap}
theorem sc__law_directions : FnScope ["_law_graph_here", "_law_found", "_law_one", "_law_other"] ["_law_graph_here"] (defScope s__law_directions) := ⟨rfl, rfl, rfl, by decide +kernel, rfl, by decide +kernel, by decide +kernel⟩
theorem cal__law_directions (T : Tx K mg) : Cal P w K mg base 1 "_law_directions" (spL R_dirs) [] :=
  T.cal 42 42 rfl rfl sc__law_directions (fun _ _ _ _ _ _ us hl => match us, hl with | [_], _ => rfl) (spL_len fun ds d ⟨_, e, _⟩ => by rw [e]; rfl) fun f cdv A outer s H vs Q E hr h => by
    obtain ⟨ds, d, fv, ⟨g, rfl, hl, rfl⟩, k⟩ := h
    obtain ⟨x, rfl, f1⟩ := fv.oneI
    refine ⟨_, (pss_cons (ps_set (i := 1) sc__law_directions.nd rfl (Or.inl rfl) (pe_lst pa_nil))
      (pss_cons (ps_for PassesOwn.never rfl (k_piT (K := K) (pe_ix (k_ixT (K := K)) (pv 0) pe_int (fun _ _ => rfl))) (k_tg (K := K) (n := 2) (pgs_cons (pg_name (i := 2) sc__law_directions.nd rfl (Or.inl rfl)) (pgs_cons (pg_name (i := 3) sc__law_directions.nd rfl (Or.inl rfl)) pgs_nil)))
        (pss_one (ps_set (i := 1) sc__law_directions.nd rfl (Or.inl rfl) (pe_op op_cat (pv 1) (pe_lst (pa_cons (pe_tup (pa_cons (pv 2) (pa_cons (pv 3) pa_nil))) (pa_cons (pe_tup (pa_cons (pv 3) (pa_cons (pv 2) pa_nil))) pa_nil)))))))
      (pss_one (ps_ret (pv 1))))), ?_⟩
    refine s_asgL (el_lst ea_nil) fun p0 xs0 H1 n0 s1 e0 fl => ?_
    refine s_for (xs := g.eds) (enc := eE) (w_tup (e_ixT (e_var rfl (f1.same s1)) e_int (by rfl))) (fun B i σ' H' => ∃ p xs o1 o2, σ' = [some x, some (.ref p), o1, o2] ∧ Same B H' ∧ H p = none ∧ H' p = some (.lst xs) ∧ FzAll H' xs ((dirsT g i).map eE)) (fun H3 s3 => ⟨_, _, _, _, rfl, Same.refl _, n0, s3 _ _ e0, fl.same s3⟩) (fun B i σ' H' _ ⟨_, _, _, _, _, s, _⟩ => s) ?_ ?_
    · rintro B i e σ' H' y H2 sB hi ⟨p', xs', o1, o2, rfl, s2, n2, e2, f2⟩ s3 fy
      refine g2_go fy fun y1 y2 h1 h2 => ?_
      refine EL.go (el_catF (e_var rfl (Fz.lst (s3 _ _ e2) (f2.same s3))) (el_lst (ea_cons (e_tup (ea_cons (e_var rfl h1) (ea_cons (e_var rfl h2) ea_nil))) (ea_cons (e_tup (ea_cons (e_var rfl h2) (ea_cons (e_var rfl h1) ea_nil))) ea_nil))).ef ?_) fun p4 xs4 H4 n4 s4 e4 f4 => ⟨_, _, _, _, rfl, (s2.trans s3).trans s4, (s1.trans sB).free ((s2.trans s3).free n4), e4, ?_⟩
      · have := dirsT_len g i
        simp
        omega
      · have : dirsT g (i + 1) = dirsT g i ++ [(e.1, e.2), (e.2, e.1)] := by
          unfold dirsT
          rw [List.take_add_one, hi, List.flatMap_append]
          rfl
        rw [this, List.map_append]
        exact f4
    · rintro B σ' H' sB ⟨p', xs', o1, o2, rfl, s2, n2, e2, f2⟩
      refine at_var (l := p') rfl H' (Same.refl _) _ (k p' xs' H' n2 ((s1.trans sB).trans s2) e2 ?_)
      have : dirsT g g.eds.length = dirs g := by
        unfold dirsT dirs
        rw [List.take_length]
      rw [← this]
      exact f2
def R_lnbrs (ds : List PyData) (es : List PyData) : Prop := ∃ g n, ds = [eG g, eN n] ∧ GOK g ∧ es = eNs (nbrs g n)
theorem sc__law_neighbours : FnScope ["_law_graph_here", "_law_node", "_law_one", "_law_other"] ["_law_graph_here", "_law_node"] (defScope s__law_neighbours) := ⟨rfl, rfl, rfl, by decide +kernel, rfl, by decide +kernel, by decide +kernel⟩
theorem cal__law_neighbours (T : Tx K mg) : Cal P w K mg base 1 "_law_neighbours" (spL R_lnbrs) [] :=
  T.cal 41 41 rfl rfl sc__law_neighbours (fun _ _ _ _ _ _ us hl => match us, hl with | [_, _], _ => rfl) (spL_len fun ds d ⟨_, _, e, _⟩ => by rw [e]; rfl) fun f cdv A outer s H vs Q E hr h => by
    obtain ⟨ds, d, fv, ⟨g, n, rfl, G, rfl⟩, k⟩ := h
    obtain ⟨x, y, rfl, f1, f2⟩ := fv.I2
    refine ⟨_, (pss_one (ps_ret (pe_callB (k_srtI (K := K)) (by rfl) T.n_sorted (by decide +kernel) (pa_cons (pe_op op_cat (pe_lc (own := [("_law_one", 2), ("_law_other", 3)]) (g := g2 K 2 3) rfl sc__law_neighbours.nd (k_piT (K := K) (pe_ix (k_ixT (K := K)) (pv 0) pe_int (fun _ _ => rfl))) (blkOk_by (N := ["_law_graph_here", "_law_node", "_law_one", "_law_other"]) (sc := defScope s__law_neighbours) (by decide +kernel)) (fun _ _ _ _ _ => (k_tg (K := K) (n := 2) (pgs_cons (pg_name (i := 2) sc__law_neighbours.nd rfl (Or.inl rfl)) (pgs_cons (pg_name (i := 3) sc__law_neighbours.nd rfl (Or.inl rfl)) pgs_nil)))) (fun _ _ _ _ _ => (pts_one (pt_cmpR op_eq (pv 2) (pv 1) (nomark _)))) (fun _ _ _ _ _ => (pv 3))) (pe_lc (own := [("_law_one", 2), ("_law_other", 3)]) (g := g2 K 2 3) rfl sc__law_neighbours.nd (k_piT (K := K) (pe_ix (k_ixT (K := K)) (pv 0) pe_int (fun _ _ => rfl))) (blkOk_by (N := ["_law_graph_here", "_law_node", "_law_one", "_law_other"]) (sc := defScope s__law_neighbours) (by decide +kernel)) (fun _ _ _ _ _ => (k_tg (K := K) (n := 2) (pgs_cons (pg_name (i := 2) sc__law_neighbours.nd rfl (Or.inl rfl)) (pgs_cons (pg_name (i := 3) sc__law_neighbours.nd rfl (Or.inl rfl)) pgs_nil)))) (fun _ _ _ _ _ => (pts_one (pt_cmpR op_eq (pv 3) (pv 1) (nomark _)))) (fun _ _ _ _ _ => (pv 2)))) pa_nil)))), ?_⟩
    have he := G.e3
    have l1 := List.length_filter_le (fun e : Nat × Nat => decide (e.1 = n)) g.eds
    have l2 := List.length_filter_le (fun e : Nat × Nat => decide (e.2 = n)) g.eds
    refine EL.go (el_srtN (l := (g.eds.filter fun e => decide (e.1 = n)).map (·.2) ++ (g.eds.filter fun e => decide (e.2 = n)).map (·.1)) (EF.is (EL.ef (el_cat (el_flt2 (K := K) (xs := g.eds) (e1 := fun e => eN e.1) (e2 := fun e => eN e.2) (f := fun e => decide (e.1 = n)) (g := fun e => eN e.2)
        (w_tup (e_ixT (e_var rfl f1) e_int (by rfl))) (by omega) (fun _ _ _ => rfl) (fun e hm y1 y2 H1 s1 g1 g2 => ⟨(t_test (e_eqI (e_var rfl g1) (e_var rfl (f2.same s1)))).is (decN _ _), fun _ => e_var rfl g2⟩))
      (el_flt2 (K := K) (xs := g.eds) (e1 := fun e => eN e.1) (e2 := fun e => eN e.2) (f := fun e => decide (e.2 = n)) (g := fun e => eN e.1)
        (w_tup (e_ixT (e_var rfl f1) e_int (by rfl))) (by omega) (fun _ _ _ => rfl) (fun e hm y1 y2 H1 s1 g1 g2 => ⟨(t_test (e_eqI (e_var rfl g2) (e_var rfl (f2.same s1)))).is (decN _ _), fun _ => e_var rfl g1⟩))
      (by simp; omega))) (by rw [eNs, List.map_append, List.map_map, List.map_map]; rfl))) k
def R_lcut (ds : List PyData) (d : PyData) : Prop := ∃ (row sc kept : Row) (e : PyData), ds = [eR row, eR sc, e] ∧ (e = eR kept ∨ e = .list (kept.map .int)) ∧ row.length = sc.length ∧ sc.length ≤ 1000 ∧ d = eR (cut row sc kept)
theorem cut_ix (kept : Row) : ∀ (sc row : Row), row.length = sc.length → ((List.range sc.length).filter fun i => decide (sc.getD i 0 ∈ kept)).map (fun i => row.getD i 0) = cut row sc kept
  | [], [], _ => rfl
  | [], _ :: _, h => by simp at h
  | _ :: _, [], h => by simp at h
  | s :: sc, x :: row, h => by
    have h' : row.length = sc.length := by simpa using h
    have ih := cut_ix kept sc row h'
    rw [List.length_cons, List.range_succ_eq_map, List.filter_cons]
    have hf : ((List.range sc.length).map Nat.succ).filter (fun i => decide ((s :: sc).getD i 0 ∈ kept)) = ((List.range sc.length).filter fun i => decide (sc.getD i 0 ∈ kept)).map Nat.succ := by
      rw [List.filter_map]
      rfl
    have hm : (((List.range sc.length).filter fun i => decide (sc.getD i 0 ∈ kept)).map Nat.succ).map (fun i => (x :: row).getD i 0) = cut row sc kept := by
      rw [List.map_map, ← ih]
      rfl
    unfold cut at hm ⊢
    rw [List.zip_cons_cons, List.filter_cons]
    by_cases e : s ∈ kept
    · have e1 : decide ((s :: sc).getD 0 0 ∈ kept) = true := decide_eq_true e
      rw [e1, if_pos rfl, hf, List.map_cons, hm]
      simp [e]
    · have e1 : decide ((s :: sc).getD 0 0 ∈ kept) = false := decide_eq_false e
      rw [e1, if_neg (by decide), hf, hm]
      simp [e]
theorem e_inTL {σ : L2.St} {H : Hp} {ta tb : TE} {neg : Bool} {i : Int} {ns : Row} {e : PyData} (ha : EF ta σ H (.int i)) (hb : EF tb σ H e) (he : e = eR ns ∨ e = .list (ns.map .int)) : EF (tOp (rIn K neg) ta tb) σ H (.bool (if neg then !decide (i ∈ ns) else decide (i ∈ ns))) := by
  rcases he with rfl | rfl
  · exact e_inT ha hb
  · exact e_inL ha hb
theorem sc__law_cut : FnScope ["_law_row", "_law_scope", "_law_some", "_law_at"] ["_law_row", "_law_scope", "_law_some"] (defScope s__law_cut) := ⟨rfl, rfl, rfl, by decide +kernel, rfl, by decide +kernel, by decide +kernel⟩
theorem cal__law_cut (T : Tx K mg) : Cal P w K mg base 1 "_law_cut" (spP R_lcut) [] :=
  T.cal 43 43 rfl rfl sc__law_cut (fun _ _ _ _ _ _ us hl => match us, hl with | [_, _, _], _ => rfl) (spP_len fun ds d ⟨_, _, _, _, e, _⟩ => by rw [e]; rfl) fun f cdv A outer s H vs Q E hr h => by
    obtain ⟨ds, d, fv, ⟨row, sc, kept, e, rfl, he, hl, hz, rfl⟩, k⟩ := h
    obtain ⟨x, y, z, rfl, f1, f2, f3⟩ := fv.I3
    refine ⟨_, (pss_one (ps_ret (pe_callTy (k_tupOf (K := K)) (by rfl) T.n_tuple (by decide +kernel) (pa_cons (pe_lc (own := [("_law_at", 3)]) (g := gName 3) rfl sc__law_cut.nd (pi_range1 (by rfl) T.n_range (pa_cons (pe_callB (k_len (K := K)) (by rfl) T.n_len (by decide +kernel) (pa_cons (pv 1) pa_nil)) pa_nil)) (blkOk_by (N := ["_law_row", "_law_scope", "_law_some", "_law_at"]) (sc := defScope s__law_cut) (by decide +kernel)) (fun _ _ _ _ _ => (pg_name (i := 3) sc__law_cut.nd rfl (Or.inl rfl))) (fun _ _ _ _ _ => (pts_one (pt_cmpR (k_in (K := K)) (pe_ix (k_ixT (K := K)) (pv 1) (pv 3) (fun _ _ => rfl)) (pv 2) (by rfl)))) (fun _ _ _ _ _ => (pe_ix (k_ixT (K := K)) (pv 0) (pv 3) (fun _ _ => rfl)))) pa_nil)))), ?_⟩
    refine EF.ret ((e_tupL (EL.ef (el_flt1 (xs := List.range sc.length) (enc := eN) (f := fun i => decide (sc.getD i 0 ∈ kept)) (g := fun i => .int (row.getD i 0)) (w_rng1 (n := sc.length) (ea_cons ((e_lenT (e_var rfl f2)).is (by rw [List.length_map])) ea_nil) (by omega)) (by rw [List.length_range]; omega) (fun _ _ _ => rfl) (fun i hi y1 H1 s1 g1 =>
      ⟨t_test (e_inTL (neg := false) (e_ixT (e_var rfl (f2.same s1)) (e_var rfl g1) (map_at (f := PyData.int) 0 (List.mem_range.mp hi))) (e_var rfl (f3.same s1)) he), fun _ => e_ixT (e_var rfl (f1.same s1)) (e_var rfl g1) (map_at (f := PyData.int) 0 (by have := List.mem_range.mp hi; omega))⟩)))).is ?_) k
    unfold eR
    rw [← cut_ix kept sc row hl, List.map_map]
    rfl
theorem sc__law_gathered : FnScope ["_law_items", "_law_counts", "_law_least", "_law_row", "_law_count", "_law_cost"] ["_law_items"] (defScope s__law_gathered) := ⟨rfl, rfl, rfl, by decide +kernel, rfl, by decide +kernel, by decide +kernel⟩
theorem cal__law_gathered (T : Tx K mg) : Cal P w K mg base 1 "_law_gathered" (spP R_gath) [] :=
  T.cal 44 44 rfl rfl sc__law_gathered (fun _ _ _ _ _ _ us hl => match us, hl with | [_], _ => rfl) (spP_len fun ds d ⟨_, _, e, _⟩ => by rw [e]; rfl) fun f cdv A outer s H vs Q E hr h => by
    obtain ⟨ds, d, fv, ⟨items, n, rfl, h64, hB, rfl⟩, k⟩ := h
    obtain ⟨x, rfl, f1⟩ := fv.oneI
    refine ⟨_, (pss_cons (ps_set (i := 1) sc__law_gathered.nd rfl (Or.inr rfl) pe_dnewT)
      (pss_cons (ps_set (i := 2) sc__law_gathered.nd rfl (Or.inr rfl) pe_dnewT)
      (pss_cons (ps_for PassesOwn.never rfl (k_piL (K := K) (pv 0)) (k_tg (K := K) (n := 3) (pgs_cons (pg_name (i := 3) sc__law_gathered.nd rfl (Or.inl rfl)) (pgs_cons (pg_name (i := 4) sc__law_gathered.nd rfl (Or.inl rfl)) (pgs_cons (pg_name (i := 5) sc__law_gathered.nd rfl (Or.inl rfl)) pgs_nil))))
        (pss_cons (ps_dput (hu_of hr) (pv 1) (pv 3) (pe_op op_add (pe_dget2 (hu_of hr) (pv 1) (pv 3) pe_int ⟨by rfl, by rfl, by rfl, by rfl⟩) (pv 4)) rfl)
        (pss_one (ps_dput (hu_of hr) (pv 2) (pv 3) (pe_callB (call_min2 rfl) (by rfl) T.n_min (by decide +kernel) (pa_cons (pv 5) (pa_cons (pe_dget2 (hu_of hr) (pv 2) (pv 3) (pv 5) ⟨by rfl, by rfl, by rfl, by rfl⟩) pa_nil))) rfl))))
      (pss_one (ps_ret (pe_callTy (k_tupOf (K := K)) (by rfl) T.n_tuple (by decide +kernel) (pa_cons (pe_lc (own := [("_law_row", 3)]) (g := gName 3) (tt := tYes) rfl sc__law_gathered.nd (k_piL (K := K) (pe_callB (cr_sortedDT rfl) (by rfl) T.n_sorted (by decide +kernel) (pa_cons (pv 1) pa_nil))) (blkOk_by (N := ["_law_items", "_law_counts", "_law_least", "_law_row", "_law_count", "_law_cost"]) (sc := defScope s__law_gathered) (by decide +kernel)) (fun _ _ _ _ _ => (pg_name (i := 3) sc__law_gathered.nd rfl (Or.inl rfl))) (fun _ _ _ _ _ => pts_nil) (fun _ _ _ _ _ => (pe_tup (pa_cons (pv 3) (pa_cons (pe_dget (hu_of hr) (pv 1) (pv 3) (fun _ _ => rfl)) (pa_cons (pe_dget (hu_of hr) (pv 2) (pv 3) (fun _ _ => rfl)) pa_nil)))))) pa_nil))))))), ?_⟩
    intro D1 n1 D2 n2
    obtain ⟨la, ys, rfl, ea, fa⟩ := f1.lstI
    have hD2 : H D2 = none := by
      by_cases e : D2 = D1
      · rw [e]; exact n1
      · rw [upd_ne e] at n2; exact n2
    have hne : D1 ≠ D2 := fun e => by
      rw [← e, upd_same] at n2
      cases n2
    have sH : Same H (upd (upd H D1 (.dT [])) D2 (.dT [])) := (same_new n1).trans (same_new n2)
    have hB1 : (upd (upd H D1 (.dT [])) D2 (.dT [])) D1 = some (.dT []) := by rw [upd_ne hne]; exact upd_same
    have hB2 : (upd (upd H D1 (.dT [])) D2 (.dT [])) D2 = some (.dT []) := upd_same
    have hBT : ∀ H', Same H H' → TK (upd (upd H D1 (.dT [])) D2 (.dT [])) H' := fun H' s b zs e => by
      by_cases e1 : b = D2
      · rw [e1, hB2] at e; cases e
      · rw [upd_ne e1] at e
        by_cases e2 : b = D1
        · rw [e2, upd_same] at e; cases e
        · rw [upd_ne e2] at e
          exact s _ _ e
    generalize upd (upd H D1 (.dT [])) D2 (.dT []) = B at sH hB1 hB2 hBT ⊢
    have fa' := fa.same sH
    refine s_forL (xs := items) (enc := eT) (at_var rfl) (sH _ _ ea) fa' (fun t _ => tb_eT t) (fun i σ' H' => ∃ o1 o2 o3, σ' = [some (.ref la), some (.ref D1), some (.ref D2), o1, o2, o3] ∧ Same H H' ∧ H' D1 = some (.dT (dI fC (accOf (items.take i)))) ∧ H' D2 = some (.dT (dI fL (accOf (items.take i)))))
      ⟨_, _, _, rfl, sH, hB1, hB2⟩ (fun i σ' H' ⟨_, _, _, _, s, _, _⟩ => ⟨hBT H' s, s _ _ ea⟩) ?_ ?_
    · rintro i it σ' H' y hi ⟨o1, o2, o3, rfl, sH', e1, e2⟩ fy
      have hlt : (accOf (items.take i)).length ≤ 64 := by
        have h1 := acc_len (items.take i)
        rw [List.length_take] at h1
        omega
      have hnd := acc_nodup (items.take i)
      have hsn : accOf (items.take (i + 1)) = addTo (accOf (items.take i)) it := by
        rw [List.take_add_one, hi]
        exact acc_snoc _ _
      refine g3_go fy fun y1 y2 y3 g1 g2 g3 => ?_
      refine s_dputS (e_add (e_dget2 (z := .int 0) (d := .int (numD fC (accOf (items.take i)) it.1 0)) (at_var rfl) e1 (e_var rfl g1) e_int (fun H1 u _ f => by
        obtain rfl := f.intI
        rw [dI_get]
        exact .int _)) (e_var rfl g2)) (at_var rfl) e1 (e_var rfl g1) (by unfold dI; rw [List.length_map]; omega) fun v H1 s1 fv => ?_
      obtain rfl := fv.intI
      rw [put_C hnd]
      have k1 : TK H1 (upd H1 D1 (.dT (dI fC (addTo (accOf (items.take i)) it)))) := tk_upd (s1 _ _ e1) (fun xs z => by cases z)
      have sH1 : Same H (upd H1 D1 (.dT (dI fC (addTo (accOf (items.take i)) it)))) := same_mut (sH'.trans s1) n1
      have g1' : Fz (upd H1 D1 (.dT (dI fC (addTo (accOf (items.take i)) it)))) y1 (eR it.1) := (g1.same s1).tk k1 (tb_eR _)
      have g3' : Fz (upd H1 D1 (.dT (dI fC (addTo (accOf (items.take i)) it)))) y3 (.int it.2.2) := (g3.same s1).tk k1 rfl
      have e1' : (upd H1 D1 (.dT (dI fC (addTo (accOf (items.take i)) it)))) D1 = some (.dT (dI fC (addTo (accOf (items.take i)) it))) := upd_same
      have e2' : (upd H1 D1 (.dT (dI fC (addTo (accOf (items.take i)) it)))) D2 = some (.dT (dI fL (accOf (items.take i)))) := by rw [upd_ne (Ne.symm hne)]; exact s1 _ _ e2
      generalize upd H1 D1 (.dT (dI fC (addTo (accOf (items.take i)) it))) = H2 at sH1 g1' g3' e1' e2' ⊢
      refine s_dput ((e_min2 (e_var rfl g3') (e_dget2 (z := .int it.2.2) (d := .int (numD fL (accOf (items.take i)) it.1 it.2.2)) (at_var rfl) e2' (e_var rfl g1') (e_var rfl g3') (fun H1 u _ f => by
        obtain rfl := f.intI
        rw [dI_get]
        exact .int _))).is (e := .int (min (numD fL (accOf (items.take i)) it.1 it.2.2) it.2.2)) (by rw [Int.min_comm])) (at_var rfl) e2' (e_var rfl g1') (by unfold dI; rw [List.length_map]; omega) fun v H3 s3 fv => ?_
      obtain rfl := fv.intI
      rw [put_L hnd]
      refine ⟨_, _, _, rfl, same_mut (sH1.trans s3) hD2, ?_, ?_⟩
      · rw [upd_ne hne, hsn]
        exact s3 _ _ e1'
      · rw [upd_same, hsn]
    · rintro σ' H' ⟨o1, o2, o3, rfl, sH', e1, e2⟩
      rw [List.take_length] at e1 e2
      have hrow : ∀ r ∈ (accOf items).map (·.1), r.length = n ∧ TS.Bd 6 r := fun r hr => by
        obtain ⟨t, ht, rfl⟩ := List.mem_map.mp ((acc_rows items r).mp hr)
        exact hB t ht
      have hz : (accOf items).length < 64 := Nat.lt_of_le_of_lt (acc_len items) h64
      have h0 : n = 0 → ((accOf items).map (·.1)).length ≤ 1 := fun e => by
        have hall : ∀ r ∈ (accOf items).map (·.1), r = [] := fun r hr => List.eq_nil_of_length_eq_zero (by rw [(hrow r hr).1, e])
        have hn := acc_nodup items
        generalize (accOf items).map (·.1) = l at hall hn
        match l, hall, hn with
        | [], _, _ => simp
        | [_], _, _ => simp
        | a :: b :: l, hall, hn =>
          have h1 := hall a (by simp)
          have h2 := hall b (by simp)
          rw [h1, h2] at hn
          simp at hn
      refine ((e_tupL (el_map1 (xs := srtR ((accOf items).map (·.1))) (enc := eR) (g := fun r => eT (r, lkm (accOf items) r)) (w_list (el_sortedDT (at_var rfl) e1 (dI_keys _ _) (by rw [List.length_map]; exact hz) hrow h0).ef) ?_ (fun r _ => tb_eT _) (fun r hr y H4 s4 fy => ?_)).ef).is ?_).ret fun v H5 s5 => k v H5 (sH'.trans s5)
      · rw [srtR, (isort_perm ltR _).length_eq, List.length_map]
        omega
      · have hr' : r ∈ (accOf items).map (·.1) := (isort_perm ltR _).mem_iff.mp hr
        obtain ⟨t, ht, h1, h2⟩ := lkm_of hr'
        refine e_tup (ea_cons (e_var rfl fy) (ea_cons (e_dget (at_var rfl) (s4 _ _ e1) (e_var rfl fy) ⟨.int t.2.1, by rw [dI_val, ht]; rfl, ?_⟩) (ea_cons (e_dget (at_var rfl) (s4 _ _ e2) (e_var rfl fy) ⟨.int t.2.2, by rw [dI_val, ht]; rfl, ?_⟩) ea_nil)))
        · rw [h2]
          exact .int _
        · rw [h2]
          exact .int _
      · unfold gather eM
        rw [List.map_map]
        rfl
end
end Tt

/-! The law's left rows. -/
namespace Tt
open PySem PySem.Spec PyProof.Rows L2 RZ
open C8 (Cal Met Mak pe_c pe_mk pe_mt pe_mt0 pe_gc)
section
variable {P : Program} {w : World} {K : PySem.W.Frag} {mg : Str → Option Value} {base : Heap}
def hits (m : Msg) (r : Row) : Msg := m.filter fun t => decide (t.1 = r)
theorem lkm_hits (m : Msg) (r : Row) : lkm m r = ((hits m r).head?.map (·.2)).getD (0, 0) := by
  unfold lkm hits
  rw [List.head?_filter]
theorem fold_split (cnt lst : Nat → Int) : ∀ (l : List Nat) (m c : Int), l.foldl (fun (acc : Int × Int) o => (acc.1 * cnt o, acc.2 + lst o)) (m, c) = (l.foldl (fun a o => a * cnt o) m, c + (l.map lst).sum)
  | [], m, c => by simp
  | o :: l, m, c => by
    rw [List.foldl_cons, List.foldl_cons, fold_split cnt lst l, List.map_cons, List.sum_cons]
    congr 1
    omega
theorem prod_zero (cnt : Nat → Int) : ∀ (l : List Nat), l.foldl (fun a o => a * cnt o) (0 : Int) = 0
  | [] => rfl
  | o :: l => by
    rw [List.foldl_cons, Int.zero_mul]
    exact prod_zero cnt l
theorem prod_hit {cnt : Nat → Int} : ∀ {l : List Nat} (m : Int), (∃ o ∈ l, cnt o = 0) → l.foldl (fun a o => a * cnt o) m = 0
  | [], _, h => by
    obtain ⟨o, ho, _⟩ := h
    cases ho
  | a :: l, m, h => by
    rw [List.foldl_cons]
    obtain ⟨o, ho, e⟩ := h
    rcases List.mem_cons.mp ho with rfl | ho
    · rw [e, Int.mul_zero]
      exact prod_zero cnt l
    · exact prod_hit _ ⟨o, ho, e⟩
theorem prod_pos {cnt : Nat → Int} : ∀ {l : List Nat} {m : Int}, 0 < m → (∀ o ∈ l, 1 ≤ cnt o) → 0 < l.foldl (fun a o => a * cnt o) m
  | [], _, h, _ => h
  | a :: l, m, h, k => by
    rw [List.foldl_cons]
    exact prod_pos (Int.mul_pos h (by have := k a List.mem_cons_self; omega)) fun o ho => k o (List.mem_cons_of_mem _ ho)
abbrev hitO (g : Gr) (ms : List Msg) (node : Nat) (row : Row) (o : Nat) : Msg := hits (ms.getD (dix g o node) []) (cut row (g.sc node) (shr g node o))
abbrev cntO (g : Gr) (ms : List Msg) (node : Nat) (row : Row) (o : Nat) : Int := (lkm (ms.getD (dix g o node) []) (cut row (g.sc node) (shr g node o))).1
abbrev lstO (g : Gr) (ms : List Msg) (node : Nat) (row : Row) (o : Nat) : Int := (lkm (ms.getD (dix g o node) []) (cut row (g.sc node) (shr g node o))).2
theorem leftRow_none {g : Gr} {ms : List Msg} {node : Nat} {others : List Nat} {p : Row × Int} (h : ∃ o ∈ others, hitO g ms node p.1 o = []) : leftRow g ms node others p = none := by
  obtain ⟨o, ho, e⟩ := h
  unfold leftRow
  have e1 : others.foldl (stepL g ms node p.1) (1, p.2) = (others.foldl (fun a o => a * cntO g ms node p.1 o) 1, p.2 + (others.map (lstO g ms node p.1)).sum) := fold_split _ _ others 1 p.2
  have e2 : others.foldl (fun a o => a * cntO g ms node p.1 o) 1 = 0 := prod_hit 1 ⟨o, ho, by
    show (lkm _ _).1 = 0
    rw [lkm_hits, show hits _ _ = [] from e]
    rfl⟩
  rw [e1, e2]
  rfl
theorem leftRow_some {g : Gr} {ms : List Msg} {node : Nat} {others : List Nat} {p : Row × Int} (h : ∀ o ∈ others, 1 ≤ cntO g ms node p.1 o) :
    leftRow g ms node others p = some (p.1, others.foldl (fun a o => a * cntO g ms node p.1 o) 1, p.2 + (others.map (lstO g ms node p.1)).sum) := by
  unfold leftRow
  have e1 : others.foldl (stepL g ms node p.1) (1, p.2) = (others.foldl (fun a o => a * cntO g ms node p.1 o) 1, p.2 + (others.map (lstO g ms node p.1)).sum) := fold_split _ _ others 1 p.2
  rw [e1]
  exact if_pos (prod_pos (by decide) h)
theorem lay_map {α : Type} {f : α → PyData} (h : ∀ x, (f x).canLay0 = true) : ∀ l : List α, PyData.canLayAll0 (l.map f) = true
  | [] => by simp [PyData.canLayAll0]
  | x :: l => by
    simp only [List.map_cons, PyData.canLayAll0, h x, lay_map h l, Bool.and_self]
theorem shpLL (f : Nat → Msg) (l : List Nat) : SeqAt.shaped (.list (l.map fun o => .list ((f o).map eC))) = true := by
  have h1 : ∀ t : Row × Int × Int, (eC t).depth ≤ 2 := fun t => by simp [eC, PyData.depth, PyData.depthAll]
  have h2 : ∀ o, (PyData.list ((f o).map eC)).depth ≤ 3 := fun o => by
    have := dep_map h1 (f o)
    simp only [PyData.depth]
    omega
  have h3 := dep_map (f := fun o => PyData.list ((f o).map eC)) h2 l
  have h4 : (PyData.list (l.map fun o => .list ((f o).map eC))).depth ≤ 64 := by
    simp only [PyData.depth]
    omega
  have h5 : (PyData.list (l.map fun o => .list ((f o).map eC))).canLay0 = true := by
    simp only [PyData.canLay0]
    refine lay_map (fun o => ?_) l
    simp only [PyData.canLay0]
    exact lay_map (fun t => by simp [eC, PyData.canLay0, PyData.canLayAll0]) _
  show (PyData.canLay0 _ && decide (PyData.depth _ ≤ 64)) = true
  rw [h5, decide_eq_true h4]
  rfl
theorem eqv_nil (m : Msg) : PyData.eqv (.list (m.map eC)) (.list []) = m.isEmpty := by
  cases m <;> rfl
theorem any_nil (f : Nat → Msg) (l : List Nat) : ((l.map fun o => PyData.list ((f o).map eC)).any fun z => PyData.eqv z (.list [])) = l.any fun o => (f o).isEmpty := by
  rw [List.any_map]
  congr 1
  funext o
  exact eqv_nil (f o)
theorem at0 (d : PyData) (ds : List PyData) : atI (d :: ds) 0 = some d := atI_nat (j := 0) rfl
theorem hits_head {B : Int} {m : Msg} (h : MsgB B m) (r : Row) (hn : hits m r ≠ []) : ∃ t ts, hits m r = t :: ts ∧ t.2 = lkm m r ∧ 1 ≤ t.2.1 ∧ t.2.1 ≤ B := by
  cases e : hits m r with
  | nil => exact absurd e hn
  | cons t ts =>
    have hm : t ∈ m := (List.mem_filter.mp (show t ∈ hits m r by rw [e]; exact List.mem_cons_self)).1
    refine ⟨t, ts, rfl, ?_, h.cnt t hm⟩
    rw [lkm_hits, e]
    rfl
theorem e_least {σ : L2.St} {H : Hp} {B : Int} {m : Msg} {r : Row} {te : TE} (h : MsgB B m) (hn : hits m r ≠ []) (e : EF te σ H (.list ((hits m r).map eC))) : EF (tOp (rIxT K) (tOp (rIxL K) te (tC (.int 0))) (tC (.int 1))) σ H (.int (lkm m r).2) := by
  obtain ⟨t, ts, eh, et, hc1, hc2⟩ := hits_head h r hn
  rw [eh] at e
  rw [← et]
  exact e_ixT (e_ixL e e_int (at0 _ _)) e_int (by rfl)
def R_lleft (ds : List PyData) (es : List PyData) : Prop := ∃ g tabs ms node others e, ds = [eG g, eTabs tabs, e, eN node, .list (eNs others)] ∧ (e = .tuple (ms.map eM) ∨ e = .list (ms.map eM)) ∧ LOK g tabs ms node others ∧ (∀ p ∈ tabs.getD node [], p.1.length = (g.sc node).length) ∧ es = (leftRows g tabs ms node others).map eT
theorem shr_eq (g : Gr) (a b : Nat) : (g.sc a).filter (fun v => decide (v ∈ g.sc b)) = shr g a b := rfl
theorem s_appEL {σ : L2.St} {H : Hp} {ta te : TE} {D : Ends} {l : Addr} {xs : List V} {ds : List PyData} (ha : AtD ta σ H l) (e : H l = some (.lst xs)) (h : EL te σ H ds) (hz : xs.length < 100000)
    (k : ∀ q zs H1, H q = none → Same H H1 → H1 q = some (.lst zs) → FzAll H1 zs ds → D.nx σ (upd H1 l (.lst (xs ++ [.ref q])))) : tDrop (tBM K "list" rAppend ta (tCons te tNil)) D σ H :=
  ha H (Same.refl H) _ ⟨Or.inl ⟨rfl, _, SqL.of e⟩, h.go fun q zs H1 n s e1 f => ⟨l, xs, .ref q, rfl, rfl, s _ _ e, Nat.lt_of_lt_of_le hz (by decide), k q zs H1 n s e1 f⟩⟩
theorem sc__law_left : FnScope ["_law_graph_here", "_law_tables", "_law_messages", "_law_node", "_law_others", "_law_found", "_law_scope", "_law_row", "_law_cost", "_law_items", "_law_other", "_law_some", "_law_message", "_law_many", "_law_item", "_law_variable", "_law_part", "_law_count", "_law_least"] ["_law_graph_here", "_law_tables", "_law_messages", "_law_node", "_law_others"] (defScope s__law_left) := ⟨rfl, rfl, rfl, by decide +kernel, rfl, by decide +kernel, by decide +kernel⟩
theorem cal__law_left (T : Tx K mg) : Cal P w K mg base 2 "_law_left" (spL R_lleft) [] :=
  T.cal 45 45 rfl rfl sc__law_left (fun _ _ _ _ _ _ us hl => match us, hl with | [_, _, _, _, _], _ => rfl) (spL_len fun ds d ⟨_, _, _, _, _, _, e, _⟩ => by rw [e]; rfl) fun f cdv A outer s H vs Q E hr h => by
    obtain ⟨ds, d, fv, ⟨g, tabs, ms, node, others, em, rfl, hem, ok, hrow, rfl⟩, k⟩ := h
    obtain ⟨x, y, z, u, v, rfl, f1, f2, f3, f4, f5⟩ := fv.I5
    refine ⟨_, (pss_cons (ps_set (i := 5) sc__law_left.nd rfl (Or.inl rfl) (pe_lst pa_nil))
      (pss_cons (ps_set (i := 6) sc__law_left.nd rfl (Or.inr rfl) (pe_ix (k_ixT (K := K)) (pe_ix (k_ixT (K := K)) (pv 0) pe_int (fun _ _ => rfl)) (pv 3) (fun _ _ => rfl)))
      (pss_cons (ps_for PassesOwn.never rfl (k_piT (K := K) (pe_ix (k_ixT (K := K)) (pv 1) (pv 3) (fun _ _ => rfl))) (k_tg (K := K) (n := 2) (pgs_cons (pg_name (i := 7) sc__law_left.nd rfl (Or.inr rfl)) (pgs_cons (pg_name (i := 8) sc__law_left.nd rfl (Or.inl rfl)) pgs_nil)))
        (pss_cons (ps_set (i := 9) sc__law_left.nd rfl (Or.inl rfl) (pe_lst pa_nil))
        (pss_cons (ps_for PassesOwn.never rfl (k_piL (K := K) (pv 4)) (pg_name (i := 10) sc__law_left.nd rfl (Or.inr rfl))
          (pss_cons (ps_set (i := 11) sc__law_left.nd rfl (Or.inr rfl) (pe_lc (own := [("_law_variable", 15)]) (g := gName 15) rfl sc__law_left.nd (k_piT (K := K) (pv 6)) (blkOk_by (N := ["_law_graph_here", "_law_tables", "_law_messages", "_law_node", "_law_others", "_law_found", "_law_scope", "_law_row", "_law_cost", "_law_items", "_law_other", "_law_some", "_law_message", "_law_many", "_law_item", "_law_variable", "_law_part", "_law_count", "_law_least"]) (sc := defScope s__law_left) (by decide +kernel)) (fun _ _ _ _ _ => (pg_name (i := 15) sc__law_left.nd rfl (Or.inl rfl))) (fun _ _ _ _ _ => (pts_one (pt_cmpR (k_in (K := K)) (pv 15) (pe_ix (k_ixT (K := K)) (pe_ix (k_ixT (K := K)) (pv 0) pe_int (fun _ _ => rfl)) (pv 10) (fun _ _ => rfl)) (by rfl)))) (fun _ _ _ _ _ => (pv 15))))
          (pss_cons (ps_set (i := 12) sc__law_left.nd rfl (Or.inl rfl) (pe_ix (k_ixB (K := K)) (pv 2) (k_bm (K := K) PySem.F.plainAttrs_list PySem.F.slot_list_index PySem.F.type_list_index (k_index (K := K) (hu65 hr)) (pe_c (cal__law_directions T) hr (by decide) rfl (pa_cons (pv 0) pa_nil)) (pa_cons (pe_tup (pa_cons (pv 10) (pa_cons (pv 3) pa_nil))) pa_nil)) (fun _ _ => rfl)))
          (pss_one (ps_expr (k_bm (K := K) PySem.F.plainAttrs_list PySem.F.slot_list_append PySem.F.type_list_append mt_append (pv 9) (pa_cons (pe_lc (own := [("_law_part", 16), ("_law_count", 17), ("_law_least", 18)]) (g := g3 K 16 17 18) rfl sc__law_left.nd (k_piT (K := K) (pv 12)) (blkOk_by (N := ["_law_graph_here", "_law_tables", "_law_messages", "_law_node", "_law_others", "_law_found", "_law_scope", "_law_row", "_law_cost", "_law_items", "_law_other", "_law_some", "_law_message", "_law_many", "_law_item", "_law_variable", "_law_part", "_law_count", "_law_least"]) (sc := defScope s__law_left) (by decide +kernel)) (fun _ _ _ _ _ => (k_tg (K := K) (n := 3) (pgs_cons (pg_name (i := 16) sc__law_left.nd rfl (Or.inl rfl)) (pgs_cons (pg_name (i := 17) sc__law_left.nd rfl (Or.inl rfl)) (pgs_cons (pg_name (i := 18) sc__law_left.nd rfl (Or.inl rfl)) pgs_nil))))) (fun _ _ _ _ _ => (pts_one (pt_cmpR (k_eqD (K := K) hr.units) (pv 16) (pe_c (cal__law_cut T) hr (by decide) rfl (pa_cons (pv 7) (pa_cons (pv 6) (pa_cons (pv 11) pa_nil)))) (nomark _)))) (fun _ _ _ _ _ => (pe_tup (pa_cons (pv 17) (pa_cons (pv 18) pa_nil))))) pa_nil)))))))
        (pss_one (ps_if (pt_cmpR (k_ninD (K := K) (hu65 hr)) (pe_lst pa_nil) (pv 9) (by rfl)) (pss_cons (ps_set (i := 13) sc__law_left.nd rfl (Or.inl rfl) pe_int)
          (pss_cons (ps_for PassesOwn.never rfl (k_piL (K := K) (pv 9)) (pg_name (i := 14) sc__law_left.nd rfl (Or.inl rfl))
            (pss_one (ps_set (i := 13) sc__law_left.nd rfl (Or.inl rfl) (pe_op op_mul (pv 13) (pe_ix (k_ixT (K := K)) (pe_ix (k_ixL (K := K)) (pv 14) pe_int (fun _ _ => rfl)) pe_int (fun _ _ => rfl))))))
          (pss_one (ps_expr (k_bm (K := K) PySem.F.plainAttrs_list PySem.F.slot_list_append PySem.F.type_list_append mt_append (pv 5) (pa_cons (pe_tup (pa_cons (pv 7) (pa_cons (pv 13) (pa_cons (pe_op op_add (pv 8) (pe_callB (k_sum (K := K)) (by rfl) T.n_sum (by decide +kernel) (pa_cons (pe_lc (own := [("_law_item", 14)]) (g := gName 14) (tt := tYes) rfl sc__law_left.nd (k_piL (K := K) (pv 9)) (blkOk_by (N := ["_law_graph_here", "_law_tables", "_law_messages", "_law_node", "_law_others", "_law_found", "_law_scope", "_law_row", "_law_cost", "_law_items", "_law_other", "_law_some", "_law_message", "_law_many", "_law_item", "_law_variable", "_law_part", "_law_count", "_law_least"]) (sc := defScope s__law_left) (by decide +kernel)) (fun _ _ _ _ _ => (pg_name (i := 14) sc__law_left.nd rfl (Or.inl rfl))) (fun _ _ _ _ _ => pts_nil) (fun _ _ _ _ _ => (pe_ix (k_ixT (K := K)) (pe_ix (k_ixL (K := K)) (pv 14) pe_int (fun _ _ => rfl)) pe_int (fun _ _ => rfl)))) pa_nil))) pa_nil)))) pa_nil)))))) pss_nil)))))
      (pss_one (ps_ret (pv 5)))))), ?_⟩
    have G := ok.G
    have he3 := G.e3
    have hdl := dirs_len g
    have hol := ok.ol
    have hn4 := G.n4
    have hs3 := G.len ok.lt
    obtain ⟨ao, ovs, rfl, eao, fao⟩ := f5.lstI
    refine s_asgL (el_lst ea_nil) fun F ys0 H1 nF s1 eF ff => ?_
    cases ff
    refine s_asg (e_ixT (e_ixT (e_var rfl (f1.same s1)) e_int (by rfl)) (e_var rfl (f4.same s1)) (sc_at ok.lt)) fun sv H2 s2 fsv => ?_
    have s12 := s1.trans s2
    have hoF : ao ≠ F := fun e => by
      rw [e] at eao
      rw [nF] at eao
      cases eao
    have tabAt : atI (tabs.map eTab) (node : Int) = some (eTab (tabs.getD node [])) := map_at [] (by rw [ok.tl]; exact ok.lt)
    refine s_forT (xs := tabs.getD node []) (enc := eP) (wt_tup (e_ixT (e_var rfl (f2.same s12)) (e_var rfl (f4.same s12)) tabAt) (tupsB_map tb_eP)) (fun B i σ' H' => ∃ o7 o8 o9 o10 o11 o12 o13 o14, σ' = [some x, some y, some z, some u, some (.ref ao), some (.ref F), some sv, o7, o8, o9, o10, o11, o12, o13, o14, none, none, none, none] ∧ Same H H' ∧ (∀ b o, b ≠ F → B b = some o → H' b = some o) ∧
      ∃ acc, H' F = some (.lst acc) ∧ FzAll H' acc ((((tabs.getD node []).take i).filterMap (leftRow g ms node others)).map eT)) (fun B sB => ⟨_, _, _, _, _, _, _, _, rfl, s12.trans sB, fun b o _ e => e, [], sB _ _ (s2 _ _ eF), .nil⟩) (fun B i σ' H' sB ⟨_, _, _, _, _, _, _, _, _, _, hb, _⟩ b xs e => hb b _ (fun z => by
        rw [z, sB _ _ (s2 _ _ eF)] at e
        cases e) e) ?_ ?_
    · rintro B i p σ' H' yp H4 sB hi ⟨o7, o8, o9, o10, o11, o12, o13, o14, rfl, sH', hb, acc, eacc, facc⟩ s4 fyp
      have hpm : p ∈ tabs.getD node [] := List.mem_of_getElem? hi
      have hpr := hrow p hpm
      have sH4 := sH'.trans s4
      have klB : KL B H' := fun b o e n => hb b o (fun z => by
        rw [z, sB _ _ (s2 _ _ eF)] at e
        cases e
        exact n _ rfl) e
      have fsv4 : Fz H4 sv (eR (g.sc node)) := ((fsv.same sB).tk klB.tk (tb_eR _)).same s4
      refine g2_go fyp fun y7 y8 g7 g8 => ?_
      refine s_asgL (el_lst ea_nil) fun I yi H5 nI s5 eI fi => ?_
      cases fi
      have sH5 := sH4.trans s5
      have hIF : I ≠ F := fun e => by
        rw [e, s4 _ _ eacc] at nI
        cases nI
      have hIo : I ≠ ao := fun e => by
        rw [e, sH4 _ _ eao] at nI
        cases nI
      have nIH : H I = none := sH4.free nI
      have g75 := g7.same s5
      have fsv5 := fsv4.same s5
      refine s_forL (xs := others) (enc := eN) (at_var (l := ao) rfl) (sH5 _ _ eao) (fao.same sH5) (fun _ _ => rfl) (fun j σ' H'' => ∃ o10 o11 o12 qs, σ' = [some x, some y, some z, some u, some (.ref ao), some (.ref F), some sv, some y7, some y8, some (.ref I), o10, o11, o12, o13, o14, none, none, none, none] ∧ (∀ b o, b ≠ I → H5 b = some o → H'' b = some o) ∧ H'' I = some (.lst (qs.map V.ref)) ∧ (I :: qs).Nodup ∧ Paired (fun q o => LL H'' q ((hitO g ms node p.1 o).map eC)) qs (others.take j))
        ⟨_, _, _, [], rfl, fun b o _ e => e, eI, by simp, by rw [List.take_zero]; exact .nil⟩ (fun j σ' H'' ⟨_, _, _, qs, _, hk, e, _, _⟩ => ⟨fun b xs e2 => hk b _ (fun q => by
          rw [q, eI] at e2
          cases e2) e2, hk _ _ (Ne.symm hIo) (sH5 _ _ eao)⟩) ?_ ?_
      · rintro j o σ' H6 yo hj ⟨p10, p11, p12, qs, rfl, hk, eI6, hnd, pr⟩ fo
        have hom := List.mem_of_getElem? hj
        obtain ⟨hd, holt, hmb⟩ := ok.oth o hom
        have tk6 : TK H5 H6 := fun b xs e2 => hk b _ (fun q => by
          rw [q, eI] at e2
          cases e2) e2
        have sH6 : Same H H6 := fun b o e => hk b o (fun q => by
          rw [q, nIH] at e
          cases e) (sH5 b o e)
        refine s_asg (d := .list ((shr g node o).map .int)) (EL.ef (el_flt1 (xs := g.sc node) (enc := PyData.int) (f := fun v => decide (v ∈ g.sc o)) (g := PyData.int) (w_tup (e_var rfl (fsv5.tk tk6 (tb_eR _)))) (by omega) (fun _ _ _ => rfl) (fun w1 hw1 y1 H7 s7 fy1 =>
          ⟨t_test (e_inT (e_var rfl fy1) (e_ixT (e_ixT (e_var rfl (f1.same (sH6.trans s7))) e_int (by rfl)) (e_var rfl (fo.same s7)) (sc_at holt))), fun _ => e_var rfl fy1⟩))) fun vs7 H7 s7 fs7 => ?_
        have sH7 := sH6.trans s7
        refine s_asg (d := eM (ms.getD (dix g o node) [])) (e_ixB (e_var rfl (f3.same sH7)) hem (e_index (EL.ef (e_callL (ea_cons (e_var rfl (f1.same sH7)) ea_nil) ⟨g, rfl, by omega, rfl⟩)) (e_tup (ea_cons (e_var rfl (fo.same s7)) (ea_cons (e_var rfl (f4.same sH7)) ea_nil))) hd) (map_at [] (by rw [ok.ml]; exact dix_lt hd))) fun vm H8 s8 fm => ?_
        have s68 := s7.trans s8
        have sH8 := sH7.trans s8
        have fsv8 := (fsv5.tk tk6 (tb_eR _)).same s68
        have g78 := (g75.tk tk6 (tb_eR _)).same s68
        have hqs : qs.length = (others.take j).length := Paired.length pr
        rw [List.length_take] at hqs
        refine s_appEL (at_var (l := I) rfl) (s68 _ _ eI6) (el_flt3 (xs := ms.getD (dix g o node) []) (e1 := fun t => eR t.1) (e2 := fun t => .int t.2.1) (e3 := fun t => .int t.2.2) (f := fun t => decide (t.1 = cut p.1 (g.sc node) (shr g node o))) (g := eC) (w_tup (e_var rfl fm)) (Nat.le_trans hmb.len (by decide)) (fun _ _ _ => rfl) (fun t ht y1 y2 y3 H9 s9 k1 k2 k3 =>
          ⟨t_test (e_eqR (e_var rfl k1) (e_call (ea_cons (e_var rfl (g78.same s9)) (ea_cons (e_var rfl (fsv8.same s9)) (ea_cons (e_var rfl ((fs7.same s8).same s9)) ea_nil))) ⟨p.1, g.sc node, shr g node o, _, rfl, .inr rfl, hpr, by omega, rfl⟩)), fun _ => e_tup (ea_cons (e_var rfl k2) (ea_cons (e_var rfl k3) ea_nil))⟩)) (by rw [List.length_map]; omega) fun q zs H9 n9 s9 e9 f9 => ?_
        have s69 := s68.trans s9
        have hqI : q ≠ I := fun e => by
          rw [e, s68 _ _ eI6] at n9
          cases n9
        have hqn : q ∉ qs := fun hq => by
          obtain ⟨jj, hjj, rfl⟩ := List.mem_iff_getElem.mp hq
          obtain ⟨_, _, zz, e, _⟩ := paired_get pr (List.getElem?_eq_getElem hjj)
          rw [s68 _ _ e] at n9
          cases n9
        have tk10 : TK H9 (upd H9 I (.lst (qs.map V.ref ++ [V.ref q]))) := tk_upd (s69 _ _ eI6) (fun xs z => by cases z)
        refine ⟨_, _, _, qs ++ [q], rfl, fun b o hbI e => ?_, by rw [List.map_append]; exact upd_same, ?_, ?_⟩
        · rw [upd_ne hbI]
          exact s69 _ _ (hk b o hbI e)
        · rw [← List.cons_append]
          refine List.nodup_append.mpr ⟨hnd, List.nodup_cons.mpr ⟨by simp, List.nodup_nil⟩, fun a ha b hb e => ?_⟩
          rw [List.mem_singleton.mp hb] at e
          rcases List.mem_cons.mp ha with h | h
          · exact hqI (e ▸ h)
          · exact hqn (e ▸ h)
        · rw [List.take_add_one, hj]
          have hI : I ∉ qs := (List.nodup_cons.mp hnd).1
          exact paired_snoc (paired_mem pr fun a ha x r => (r.same s69).move tk10 (upd_ne (fun e => hI (e ▸ ha))) (tupsB_map fun _ => rfl)) ⟨zs, by rw [upd_ne hqI]; exact e9, f9.tk tk10 (tupsB_map fun _ => rfl)⟩
      · rintro σ' H6 ⟨p10, p11, p12, qs, rfl, hk, eI6, hnd, pr⟩
        rw [List.take_length] at pr
        have tk6 : TK H5 H6 := fun b xs e2 => hk b _ (fun q => by
          rw [q, eI] at e2
          cases e2) e2
        have sH6 : Same H H6 := fun b o e => hk b o (fun q => by
          rw [q, nIH] at e
          cases e) (sH5 b o e)
        have hnx : ∀ b o, b ≠ F → B b = some o → H6 b = some o := fun b o n e => hk b o (fun q => by
          have := s4 _ _ (hb b o n e)
          rw [q, nI] at this
          cases this) (s5 _ _ (s4 _ _ (hb b o n e)))
        have eacc6 : H6 F = some (.lst acc) := hk _ _ (Ne.symm hIF) (s5 _ _ (s4 _ _ eacc))
        have facc6 := ((facc.same s4).same s5).tk tk6 (tupsB_map tb_eT)
        have fit : Fz H6 (.ref I) (.list (others.map fun o => .list ((hitO g ms node p.1 o).map eC))) := by
          refine .lst eI6 ?_
          have : ∀ {qs : List Addr} {l : List Nat}, Paired (fun q o => LL H6 q ((hitO g ms node p.1 o).map eC)) qs l → FzAll H6 (qs.map V.ref) (l.map fun o => .list ((hitO g ms node p.1 o).map eC)) := by
            intro qs l q
            induction q with
            | nil => exact .nil
            | cons r _ ih =>
              obtain ⟨zs, e, fz⟩ := r
              exact .cons (.lst e fz) ih
          exact this pr
        have hlen : acc.length ≤ 60 := by
          rw [facc.len, List.length_map]
          have h1 := List.length_filterMap_le (leftRow g ms node others) ((tabs.getD node []).take i)
          rw [List.length_take] at h1
          have := ok.few
          omega
        have hstep : ((tabs.getD node []).take (i + 1)).filterMap (leftRow g ms node others) = ((tabs.getD node []).take i).filterMap (leftRow g ms node others) ++ (leftRow g ms node others p).toList := by
          rw [List.take_add_one, hi, List.filterMap_append]
          congr 1
        have hF0 : H F = none := nF
        have sBF : ∀ {H7 : Hp}, Same H6 H7 → Same H H7 := fun s => sH6.trans s
        refine s_if (b := !((others.map fun o => PyData.list ((hitO g ms node p.1 o).map eC)).any fun z => PyData.eqv z (.list []))) (t_test (e_notInD (EL.ef (el_lst ea_nil)) (e_var rfl fit) (by decide) (shpLL _ _))) (fun hm H8 s8 => ?_) (fun hm H8 s8 => ?_)
        · rw [any_nil] at hm
          have hall : ∀ o ∈ others, hitO g ms node p.1 o ≠ [] := fun o ho e => by
            rw [Bool.not_eq_true', List.any_eq_false] at hm
            exact hm o ho (by rw [e]; rfl)
          refine s_asg (d := .int 1) e_int fun v13 H9 s9 g13 => ?_
          obtain rfl := g13.intI
          have s89 := s8.trans s9
          refine s_for (xs := others) (enc := fun o => .list ((hitO g ms node p.1 o).map eC)) (w_list (e_var rfl (fit.same s89))) (fun B2 j σ' H' => ∃ o14 m, σ' = [some x, some y, some z, some u, some (.ref ao), some (.ref F), some sv, some y7, some y8, some (.ref I), p10, p11, p12, some (.int m), o14, none, none, none, none] ∧ Same B2 H' ∧ m = (others.take j).foldl (fun a o => a * cntO g ms node p.1 o) 1)
            (fun B2 sB2 => ⟨_, _, rfl, Same.refl _, rfl⟩) (fun B2 j σ' H' sB2 ⟨_, _, _, s, _⟩ => s) ?_ ?_
          · rintro B2 j o σ' H10 yi H11 sB2 hj ⟨o14', m, rfl, s10, em2⟩ s11 fy
            have hom := List.mem_of_getElem? hj
            obtain ⟨hd, holt, hmb⟩ := ok.oth o hom
            obtain ⟨t, ts, eh, et, hc1, hc2⟩ := hits_head hmb _ (hall o hom)
            have fy' : Fz H11 yi (.list (eC t :: ts.map eC)) := by
              have := fy
              rw [show hitO g ms node p.1 o = t :: ts from eh] at this
              exact this
            refine s_asg1 (e_mul (e_var rfl (.int m)) (e_ixT (e_ixL (e_var rfl fy') e_int (at0 _ _)) e_int (by rfl)) (.inr ⟨by omega, by omega⟩)) fun w13 H12 s12' g13 => ?_
            obtain rfl := g13.intI
            refine ⟨_, _, rfl, (s10.trans s11).trans s12', ?_⟩
            rw [List.take_add_one, hj, List.foldl_append, ← em2]
            show m * t.2.1 = m * (lkm _ _).1
            rw [← et]
          · rintro B2 σ' H10 sB2 ⟨o14', m, rfl, s10, em2⟩
            rw [List.take_length] at em2
            have s610 := (s89.trans sB2).trans s10
            refine s_appV (Q := fun _ _ => True) (s610 _ _ eacc6) (at_var rfl) (e_tup (ea_cons (e_var rfl ((g75.tk tk6 (tb_eR _)).same s610)) (ea_cons (e_var rfl (.int m)) (ea_cons (e_add (e_var rfl ((g8.same s5).tk tk6 rfl |>.same s610)) (e_sum (ns := others.map (lstO g ms node p.1)) (by
              rw [List.map_map]
              exact EL.ef (el_map1 (xs := others) (enc := fun o => .list ((hitO g ms node p.1 o).map eC)) (g := fun o => .int (lstO g ms node p.1 o)) (w_list (e_var rfl (fit.same s610))) (by omega) (fun _ _ => rfl) (fun o ho yi H11 s11 fy => e_least (ok.oth o ho).2.2 (hall o ho) (e_var rfl fy)))))) ea_nil)))) (by omega) fun va H9' s9' fva => ?_
            have eF9 : H9' F = some (.lst acc) := s9' _ _ (s610 _ _ eacc6)
            have kU : TK H9' (upd H9' F (.lst (acc ++ [va]))) := (kl_upd eF9).tk
            refine ⟨_, _, _, _, _, _, _, _, rfl, same_mut (sH6.trans (s610.trans s9')) hF0, fun b o n e => ?_, _, upd_same, ?_⟩
            · rw [upd_ne n]
              exact s9' _ _ (s610 _ _ (hnx b o n e))
            · have hls : leftRow g ms node others p = some (p.1, m, p.2 + (others.map (lstO g ms node p.1)).sum) := by
                rw [em2]
                exact leftRow_some fun o ho => by
                  obtain ⟨hd, holt, hmb⟩ := ok.oth o ho
                  obtain ⟨t, ts, eh, et, hc1, hc2⟩ := hits_head hmb _ (hall o ho)
                  show 1 ≤ (lkm _ _).1
                  rw [← et]
                  exact hc1
              rw [hstep, hls, List.map_append]
              exact ((facc6.same (s610.trans s9')).tk kU (tupsB_map tb_eT)).snoc (fva.tk kU (tb_eT (p.1, m, _)))
        · rw [any_nil] at hm
          have hex : ∃ o ∈ others, hitO g ms node p.1 o = [] := by
            simp only [Bool.not_eq_false', List.any_eq_true] at hm
            obtain ⟨o, ho, e⟩ := hm
            exact ⟨o, ho, List.isEmpty_iff.mp e⟩
          refine ⟨_, _, _, _, _, _, _, _, rfl, sH6.trans s8, fun b o n e => s8 _ _ (hnx b o n e), acc, s8 _ _ eacc6, ?_⟩
          rw [hstep, leftRow_none hex]
          simp only [Option.toList_none, List.append_nil]
          exact facc6.same s8
    · rintro B σ' H' sB ⟨o7, o8, o9, o10, o11, o12, o13, o14, rfl, sH', hb, acc, eacc, facc⟩
      rw [List.take_length] at facc
      exact at_var (l := F) rfl H' (Same.refl _) _ (k F acc H' nF sH' eacc facc)
end
end Tt

/-! What a node's message is, and the law's rounds. -/
namespace Tt
open PySem PySem.Spec PyProof.Rows L2 RZ
open C8 (Cal Met Mak pe_c pe_mk pe_mt pe_mt0 pe_gc)
section
variable {P : Program} {w : World} {K : PySem.W.Frag} {mg : Str → Option Value} {base : Heap}
theorem cut_shr (g : Gr) (a b : Nat) (r : Row) : cut r (g.sc a) (g.sc b) = cut r (g.sc a) (shr g a b) := by
  unfold cut
  congr 1
  refine List.filter_congr fun p hp => ?_
  have h := (List.of_mem_zip hp).1
  have e : (p.1 ∈ shr g a b) ↔ p.1 ∈ g.sc b := by
    unfold shr
    rw [List.mem_filter]
    simp [h]
  exact decide_eq_decide.mpr e.symm
def R_lreq (ds : List PyData) (d : PyData) : Prop := ∃ g tabs ms a b e, ds = [eG g, eTabs tabs, e, eN a, eN b] ∧ (e = .tuple (ms.map eM) ∨ e = .list (ms.map eM)) ∧ GOK g ∧ a < g.n ∧ b < g.n ∧ TabsOK g tabs ∧ MsOK g ms ∧ d = eM (required g tabs ms a b)
theorem sc__law_required : FnScope ["_law_graph_here", "_law_tables", "_law_messages", "_law_one", "_law_other", "_law_others", "_law_scope", "_law_rows", "_law_node", "_law_row", "_law_count", "_law_cost"] ["_law_graph_here", "_law_tables", "_law_messages", "_law_one", "_law_other"] (defScope s__law_required) := ⟨rfl, rfl, rfl, by decide +kernel, rfl, by decide +kernel, by decide +kernel⟩
theorem cal__law_required (T : Tx K mg) : Cal P w K mg base 3 "_law_required" (spP R_lreq) [] :=
  T.cal 46 46 rfl rfl sc__law_required (fun _ _ _ _ _ _ us hl => match us, hl with | [_, _, _, _, _], _ => rfl) (spP_len fun ds d ⟨_, _, _, _, _, _, e, _⟩ => by rw [e]; rfl) fun f cdv A outer s H vs Q E hr h => by
    obtain ⟨ds, d, fv, ⟨g, tabs, ms, a, b, em, rfl, hem, G, ha, hb, ht, hm, rfl⟩, k⟩ := h
    obtain ⟨x, y, z, u, v, rfl, f1, f2, f3, f4, f5⟩ := fv.I5
    refine ⟨_, (pss_cons (ps_setLc (i := 5) (own := [("_law_node", 8)]) (g := gName 8) (by rfl) sc__law_required.nd rfl rfl (sw_true rfl rfl rfl (by decide +kernel)) (k_piL (K := K) (pe_c (cal__law_neighbours T) hr (by decide) rfl (pa_cons (pv 0) (pa_cons (pv 3) pa_nil)))) (blkOk_by (N := ["_law_graph_here", "_law_tables", "_law_messages", "_law_one", "_law_other", "_law_others", "_law_scope", "_law_rows", "_law_node", "_law_row", "_law_count", "_law_cost"]) (sc := defScope s__law_required) (by decide +kernel)) (fun _ _ _ _ _ => (pg_name (i := 8) sc__law_required.nd rfl (Or.inl rfl))) (fun _ _ _ _ _ => (pts_one (pt_cmpR op_ne (pv 8) (pv 4) (nomark _)))) (fun _ _ _ _ _ => (pv 8)))
      (pss_cons (ps_set (i := 6) sc__law_required.nd rfl (Or.inr rfl) (pe_ix (k_ixT (K := K)) (pe_ix (k_ixT (K := K)) (pv 0) pe_int (fun _ _ => rfl)) (pv 3) (fun _ _ => rfl)))
      (pss_cons (ps_set (i := 7) sc__law_required.nd rfl (Or.inl rfl) (pe_c (cal__law_left T) hr (by decide) rfl (pa_cons (pv 0) (pa_cons (pv 1) (pa_cons (pv 2) (pa_cons (pv 3) (pa_cons (pv 5) pa_nil)))))))
      (pss_one (ps_ret (pe_c (cal__law_gathered T) hr (by decide) rfl (pa_cons (pe_lc (own := [("_law_row", 9), ("_law_count", 10), ("_law_cost", 11)]) (g := g3 K 9 10 11) (tt := tYes) rfl sc__law_required.nd (k_piL (K := K) (pv 7)) (blkOk_by (N := ["_law_graph_here", "_law_tables", "_law_messages", "_law_one", "_law_other", "_law_others", "_law_scope", "_law_rows", "_law_node", "_law_row", "_law_count", "_law_cost"]) (sc := defScope s__law_required) (by decide +kernel)) (fun _ _ _ _ _ => (k_tg (K := K) (n := 3) (pgs_cons (pg_name (i := 9) sc__law_required.nd rfl (Or.inl rfl)) (pgs_cons (pg_name (i := 10) sc__law_required.nd rfl (Or.inl rfl)) (pgs_cons (pg_name (i := 11) sc__law_required.nd rfl (Or.inl rfl)) pgs_nil))))) (fun _ _ _ _ _ => pts_nil) (fun _ _ _ _ _ => (pe_tup (pa_cons (pe_c (cal__law_cut T) hr (by decide) rfl (pa_cons (pv 9) (pa_cons (pv 6) (pa_cons (pe_ix (k_ixT (K := K)) (pe_ix (k_ixT (K := K)) (pv 0) pe_int (fun _ _ => rfl)) (pv 4) (fun _ _ => rfl)) pa_nil)))) (pa_cons (pv 10) (pa_cons (pv 11) pa_nil)))))) pa_nil))))))), ?_⟩
    have hnl := nbrs_len g a
    have he3 := G.e3
    have hll := left_len g tabs ms a (oths g a b)
    have hf := (ht.ok a ha).few
    have hsc := G.len ha
    refine s_asgL (el_flt1 (xs := nbrs g a) (enc := eN) (f := fun o => !decide (o = b)) (g := eN) (w_list (EL.ef (e_callL (ea_cons (e_var rfl f1) (ea_cons (e_var rfl f4) ea_nil)) ⟨g, a, rfl, G, rfl⟩))) (by omega) (fun _ _ _ => rfl) (fun o ho yo H1 s1 fo =>
      ⟨t_test ((e_neI (e_var rfl fo) (e_var rfl (f5.same s1))).is (by rw [decN])), fun _ => e_var rfl fo⟩)) fun L ys H1 nL s1 eL fL => ?_
    refine s_asg (e_ixT (e_ixT (e_var rfl (f1.same s1)) e_int (by rfl)) (e_var rfl (f4.same s1)) (sc_at ha)) fun vs H2 s2 fs => ?_
    have s12 := s1.trans s2
    refine s_asgL (e_callL (ea_cons (e_var rfl (f1.same s12)) (ea_cons (e_var rfl (f2.same s12)) (ea_cons (e_var rfl (f3.same s12)) (ea_cons (e_var rfl (f4.same s12)) (ea_cons (e_var (d := .list (eNs (oths g a b))) rfl (.lst (s2 _ _ eL) (fL.same s2))) ea_nil))))) ⟨g, tabs, ms, a, oths g a b, em, rfl, hem, lok_of G ha ht hm, fun p hp => ((ht.ok a ha).row p hp).len, rfl⟩) fun R rs H3 nR s3 eR3 fr => ?_
    have s13 := s12.trans s3
    have hrl : ∀ t ∈ leftRows g tabs ms a (oths g a b), t.1.length = (g.sc a).length := fun t ht' => by
      obtain ⟨_, c, hc, _⟩ := left_row ht'
      exact ((ht.ok a ha).row _ hc).len
    obtain ⟨n, hn⟩ := items_ok (ms := ms) (b := b) G ha ht
    refine EF.ret (e_call (ea_cons (EL.ef (el_map3 (xs := leftRows g tabs ms a (oths g a b)) (e1 := fun t => eR t.1) (e2 := fun t => .int t.2.1) (e3 := fun t => .int t.2.2) (g := fun t => eT (cut t.1 (g.sc a) (shr g a b), t.2)) (w_list (e_var rfl (Fz.lst eR3 fr))) (by omega) (fun t _ => tb_eT _) (fun t ht' y1 y2 y3 H4 s4 g1 g2 g3 =>
      e_tup (ea_cons (e_call (ea_cons (e_var rfl g1) (ea_cons (e_var rfl ((fs.same s3).same s4)) (ea_cons (e_ixT (e_ixT (e_var rfl (f1.same (s13.trans s4))) e_int (by rfl)) (e_var rfl (f5.same (s13.trans s4))) (sc_at hb)) ea_nil))) ⟨t.1, g.sc a, g.sc b, _, rfl, .inl rfl, hrl t ht', by omega, by rw [cut_shr]⟩) (ea_cons (e_var rfl g2) (ea_cons (e_var rfl g3) ea_nil)))))) ea_nil) ⟨(leftRows g tabs ms a (oths g a b)).map (fun (t : Row × Int × Int) => (cut t.1 (g.sc a) (shr g a b), t.2)), n, by rw [List.map_map]; rfl, by rw [List.length_map]; omega, hn, rfl⟩) fun v H4 s4 f4 => k v H4 (s13.trans s4) f4
theorem sc__law_computed : FnScope ["_law_graph_here", "_law_tables", "_law_messages", "_law_turn", "_law_direction", "_law_one", "_law_other"] ["_law_graph_here", "_law_tables"] (defScope s__law_computed) := ⟨rfl, rfl, rfl, by decide +kernel, rfl, by decide +kernel, by decide +kernel⟩
theorem cal__law_computed (T : Tx K mg) : Cal P w K mg base 4 "_law_computed" (spP R_comp) [] :=
  T.cal 47 47 rfl rfl sc__law_computed (fun _ _ _ _ _ _ us hl => match us, hl with | [_, _], _ => rfl) (spP_len fun ds d ⟨_, _, e, _⟩ => by rw [e]; rfl) fun f cdv A outer s H vs Q E hr h => by
    obtain ⟨ds, d, fv, ⟨g, tabs, rfl, G, ht, rfl⟩, k⟩ := h
    obtain ⟨x, y, rfl, f1, f2⟩ := fv.I2
    refine ⟨_, (pss_cons (ps_set (i := 2) sc__law_computed.nd rfl (Or.inr rfl) (pe_lc (own := [("_law_direction", 4)]) (g := gName 4) (tt := tYes) rfl sc__law_computed.nd (k_piL (K := K) (pe_c (cal__law_directions T) hr (by decide) rfl (pa_cons (pv 0) pa_nil))) (blkOk_by (N := ["_law_graph_here", "_law_tables", "_law_messages", "_law_turn", "_law_direction", "_law_one", "_law_other"]) (sc := defScope s__law_computed) (by decide +kernel)) (fun _ _ _ _ _ => (pg_name (i := 4) sc__law_computed.nd rfl (Or.inl rfl))) (fun _ _ _ _ _ => pts_nil) (fun _ _ _ _ _ => (pe_tup pa_nil))))
      (pss_cons (ps_for PassesOwn.never rfl (k_piT (K := K) (pe_ix (k_ixT (K := K)) (pv 0) pe_int (fun _ _ => rfl))) (pg_name (i := 3) sc__law_computed.nd rfl (Or.inl rfl))
        (pss_one (ps_set (i := 2) sc__law_computed.nd rfl (Or.inr rfl) (pe_lc (own := [("_law_one", 5), ("_law_other", 6)]) (g := g2 K 5 6) (tt := tYes) rfl sc__law_computed.nd (k_piL (K := K) (pe_c (cal__law_directions T) hr (by decide) rfl (pa_cons (pv 0) pa_nil))) (blkOk_by (N := ["_law_graph_here", "_law_tables", "_law_messages", "_law_turn", "_law_direction", "_law_one", "_law_other"]) (sc := defScope s__law_computed) (by decide +kernel)) (fun _ _ _ _ _ => (k_tg (K := K) (n := 2) (pgs_cons (pg_name (i := 5) sc__law_computed.nd rfl (Or.inl rfl)) (pgs_cons (pg_name (i := 6) sc__law_computed.nd rfl (Or.inl rfl)) pgs_nil)))) (fun _ _ _ _ _ => pts_nil) (fun _ _ _ _ _ => (pe_c (cal__law_required T) hr (by decide) rfl (pa_cons (pv 0) (pa_cons (pv 1) (pa_cons (pv 2) (pa_cons (pv 5) (pa_cons (pv 6) pa_nil)))))))))))
      (pss_one (ps_ret (pe_callTy (k_tupOf (K := K)) (by rfl) T.n_tuple (by decide +kernel) (pa_cons (pv 2) pa_nil)))))), ?_⟩
    have he3 := G.e3
    have hdl := dirs_len g
    refine s_asg (d := .list ((ms0 g).map eM)) ((EL.ef (el_map1 (xs := dirs g) (enc := eE) (g := fun _ => eM []) (w_list (EL.ef (e_callL (ea_cons (e_var rfl f1) ea_nil) ⟨g, rfl, by omega, rfl⟩))) (by omega) (fun _ _ => rfl) (fun p hp y1 H1 s1 g1 => e_tup ea_nil))).is (by
      unfold ms0
      rw [List.map_map]
      rfl)) fun v H1 s1 fv => ?_
    refine s_for (xs := g.scs) (enc := eR) (w_tup (e_ixT (e_var rfl (f1.same s1)) e_int (by rfl))) (fun B i σ' H' => ∃ v o3, σ' = [some x, some y, some v, o3, none, none, none] ∧ Same B H' ∧ Fz H' v (.list ((iter (round1 g tabs) i (ms0 g)).map eM))) (fun B sB => ⟨_, _, rfl, Same.refl _, fv.same sB⟩) (fun B i σ' H' sB ⟨_, _, _, s, _⟩ => s) ?_ ?_
    · rintro B i r σ' H' yr H2 sB hi ⟨v', o3, rfl, s2, f2'⟩ s3 fy
      have s0 := ((s1.trans sB).trans s2).trans s3
      refine s_asg1 (d := .list ((round1 g tabs (iter (round1 g tabs) i (ms0 g))).map eM)) ((EL.ef (el_map2 (xs := dirs g) (e1 := fun p => eN p.1) (e2 := fun p => eN p.2) (g := fun p => eM (required g tabs (iter (round1 g tabs) i (ms0 g)) p.1 p.2)) (w_list (EL.ef (e_callL (ea_cons (e_var rfl (f1.same s0)) ea_nil) ⟨g, rfl, by omega, rfl⟩))) (by omega) (fun _ _ => tb_eM _) (fun p hp y1 y2 H4 s4 g1 g2 =>
        e_call (ea_cons (e_var rfl (f1.same (s0.trans s4))) (ea_cons (e_var rfl (f2.same (s0.trans s4))) (ea_cons (e_var rfl ((f2'.same s3).same s4)) (ea_cons (e_var rfl g1) (ea_cons (e_var rfl g2) ea_nil))))) ⟨g, tabs, iter (round1 g tabs) i (ms0 g), p.1, p.2, _, rfl, .inr rfl, G, (G.dlt hp).1, (G.dlt hp).2, ht, (iter_bd G ht i).ms G, rfl⟩))).is (by
          unfold round1
          rw [List.map_map]
          rfl)) fun v'' H4 s4 f4 => ⟨_, _, rfl, (s2.trans s3).trans s4, ?_⟩
      rw [iter_succ]
      exact f4
    · rintro B σ' H' sB ⟨v', o3, rfl, s2, f2'⟩
      exact (e_tupL (e_var rfl f2')).ret fun v'' H4 s4 f4 => k v'' H4 (((s1.trans sB).trans s2).trans s4) f4
end
end Tt

/-! The law's own talk: a list of four. -/
namespace Tt
open PySem PySem.Spec PyProof.Rows L2 RZ
structure LT (H : Hp) (a : Addr) (A : Ad) (t : Tk) : Prop where
  i : ∃ tv, H a = some (.lst [tv, .ref A.s, .ref A.k, .ref A.w]) ∧ Fz H tv (eTabs t.tabs)
  r : AR H A t
  out : a ∉ A.fp
section
variable {K : PySem.W.Frag} {mg : Str → Option Value} {H H' : Hp} {A : Ad} {t : Tk} {a : Addr} {σ : L2.St} {td ti : TE} {j : Nat}
theorem LT.same (h : LT H a A t) (s : Same H H') : LT H' a A t := by
  obtain ⟨tv, e, f⟩ := h.i
  exact ⟨⟨tv, s _ _ e, f.same s⟩, h.r.same s, h.out⟩
/-- with the lists changed -/
theorem LT.with (h : LT H a A t) {t' : Tk} (k : Fr A.fp H H') (r : AR H' A t') (e : t'.tabs = t.tabs) : LT H' a A t' := by
  obtain ⟨tv, q, f⟩ := h.i
  have tk := h.r.tk k
  exact ⟨⟨tv, k _ _ h.out q, by rw [e]; exact f.tk tk (tb_eTabs _)⟩, r, h.out⟩
theorem LT.e_tables (h : LT H a A t) (hd : AtD td σ H a) : EF (tOp (rIxL K) td (tC (.int 0))) σ H (eTabs t.tabs) := by
  obtain ⟨tv, e, f⟩ := h.i
  exact fun H1 s Q q => hd H1 s _ ⟨a, _, 0, tv, rfl, rfl, SqL.of (s _ _ e), rfl, q _ H1 (Same.refl _) (f.same s)⟩
theorem LT.a_s (h : LT H a A t) (hd : AtD td σ H a) : AtD (tOp (rIxL K) td (tC (.int 1))) σ H A.s := by
  obtain ⟨tv, e, f⟩ := h.i
  exact fun H1 s Q q => hd H1 s _ ⟨a, _, 1, .ref A.s, rfl, rfl, SqL.of (s _ _ e), rfl, q⟩
theorem LT.a_k (h : LT H a A t) (hd : AtD td σ H a) : AtD (tOp (rIxL K) td (tC (.int 2))) σ H A.k := by
  obtain ⟨tv, e, f⟩ := h.i
  exact fun H1 s Q q => hd H1 s _ ⟨a, _, 2, .ref A.k, rfl, rfl, SqL.of (s _ _ e), rfl, q⟩
theorem LT.a_w (h : LT H a A t) (hd : AtD td σ H a) : AtD (tOp (rIxL K) td (tC (.int 3))) σ H A.w := by
  obtain ⟨tv, e, f⟩ := h.i
  exact fun H1 s Q q => hd H1 s _ ⟨a, _, 3, .ref A.w, rfl, rfl, SqL.of (s _ _ e), rfl, q⟩
theorem LT.e_sent (h : LT H a A t) (hd : AtD td σ H a) : EF (tOp (rIxL K) td (tC (.int 1))) σ H (.list (t.sent.map fun m => .list (m.map eM))) := at_e (h.a_s hd) h.r.fs
theorem LT.e_kept (h : LT H a A t) (hd : AtD td σ H a) : EF (tOp (rIxL K) td (tC (.int 2))) σ H (.list (eNs t.kept)) := at_e (h.a_k hd) h.r.fk
theorem LT.e_way (h : LT H a A t) (hd : AtD td σ H a) : EF (tOp (rIxL K) td (tC (.int 3))) σ H (.list (t.way.map eE)) := at_e (h.a_w hd) h.r.fw
theorem LT.e_snt (h : LT H a A t) (hd : AtD td σ H a) (hi : EF ti σ H (.int (j : Int))) (hj : j < t.sent.length) : EF (tOp (rIxL K) (tOp (rIxL K) td (tC (.int 1))) ti) σ H (.list ((t.snt j).map eM)) :=
  e_ixL (h.e_sent hd) hi (map_at (f := fun m : List Msg => PyData.list (m.map eM)) [] hj)
theorem LT.e_kpt (h : LT H a A t) (hd : AtD td σ H a) (hi : EF ti σ H (.int (j : Int))) (hj : j < t.kept.length) : EF (tOp (rIxL K) (tOp (rIxL K) td (tC (.int 2))) ti) σ H (.int ((t.kpt j : Nat) : Int)) :=
  e_ixL (h.e_kept hd) hi (map_at (f := eN) 0 hj)
/-- a loop over a list that the loop's own expression makes -/
theorem s_forE {α : Type} {xs : List α} {enc : α → PyData} {tl : TE} {gt : TG} {tb w : TS} {D : Ends} (h : EL tl σ H (xs.map enc)) (hb : ∀ x ∈ xs, tupB (enc x) = true)
    (k : ∀ p H1, H p = none → Same H H1 → (∃ ys, H1 p = some (.lst ys)) → ∃ Pv : Nat → L2.St → Hp → Prop, Pv 0 σ H1 ∧ (∀ i σ' H', Pv i σ' H' → TK H1 H' ∧ H' p = H1 p) ∧
      (∀ i x σ' H' y, xs[i]? = some x → Pv i σ' H' → Fz H' y (enc x) → gt y σ' H' fun σ2 H3 => tb { D with nx := Pv (i + 1), ct := Pv (i + 1), bk := w D } σ2 H3) ∧
      (∀ σ' H', Pv xs.length σ' H' → w D σ' H')) : tSeq (tFor (iList K tl) gt tb) w D σ H := by
  refine h.go fun a ys H1 n s ea fa => ?_
  obtain ⟨Pv, h0, hS, hs, hd⟩ := k a H1 n s ⟨ys, ea⟩
  refine ⟨a, rfl, ⟨ys, SqL.of ea⟩, ?_⟩
  have hl : ys.length = xs.length := by rw [fa.len, List.length_map]
  refine for_it (D := { D with nx := w D }) (walk_list (K := K) (a := a) (xs := ys)) Pv h0 (fun i σ' H' _ p => SqL.of ((hS i σ' H' p).2.trans ea)) ?_ (fun σ' H' p => hd σ' H' (by rw [← hl]; exact p))
  rintro i y σ' H' H2 hi p ⟨rfl, hy⟩
  have hz : xs[i]? = some (xs[i]'(by omega)) := by simp [show i < xs.length by omega]
  obtain ⟨d, hd', fd⟩ := fa.getV hy
  rw [List.getElem?_map, hz] at hd'
  cases hd'
  exact hs i _ σ' H2 y hz p (fd.tk (hS i σ' H2 p).1 (hb _ (List.mem_of_getElem? hz)))
end
end Tt

/-! The law's talk: kept, update, arrive, settled. -/
namespace Tt
open PySem PySem.Spec PyProof.Rows L2 RZ
open C8 (Cal Met Mak pe_c pe_mk pe_mt pe_mt0 pe_gc)
section
variable {P : Program} {w : World} {K : PySem.W.Frag} {mg : Str → Option Value} {base : Heap}
theorem zip_range {α β γ : Type} {f : α × β → γ} (da : α) (db : β) : ∀ (xs : List α) (ys : List β), xs.length = ys.length → (xs.zip ys).map f = (List.range xs.length).map fun i => f (xs.getD i da, ys.getD i db)
  | [], [], _ => rfl
  | [], _ :: _, h => by simp at h
  | _ :: _, [], h => by simp at h
  | x :: xs, y :: ys, h => by
    have ih := zip_range (f := f) da db xs ys (by simpa using h)
    rw [List.zip_cons_cons, List.map_cons, List.length_cons, List.range_succ_eq_map, List.map_cons, ih, List.map_map]
    rfl
theorem km_range {g : Gr} {t : Tk} (F : Fit g t) : t.km = (List.range t.sent.length).map fun i => (t.snt i).getD (t.kpt i) [] :=
  zip_range (f := fun p : List Msg × Nat => p.1.getD p.2 []) [] 0 t.sent t.kept (by rw [F.sl, F.kl])
theorem settled_range {g : Gr} {t : Tk} (F : Fit g t) : settledB t = (List.range t.sent.length).all fun i => decide (t.kpt i + 1 = (t.snt i).length) := by
  have h := zip_range (f := fun p : List Msg × Nat => decide (p.2 + 1 = p.1.length)) [] 0 t.sent t.kept (by rw [F.sl, F.kl])
  unfold settledB
  have h2 := congrArg (fun l : List Bool => l.all id) h
  simp only [List.all_map] at h2
  exact h2
/-- xs.append(e) ahead of more -/
theorem s_appVS {K : PySem.W.Frag} {σ : L2.St} {H : Hp} {ta te : TE} {w : TS} {D : Ends} {d : PyData} {l : Addr} {xs : List V} (hl : H l = some (.lst xs)) (ha : AtD ta σ H l) (h : EF te σ H d) (hz : xs.length < 100000)
    (k : ∀ v H1, Same H H1 → Fz H1 v d → w D σ (upd H1 l (.lst (xs ++ [v])))) : tSeq (tDrop (tBM K "list" rAppend ta (tCons te tNil))) w D σ H :=
  s_appV (D := { D with nx := w D }) (Q := fun _ _ => True) hl ha h hz k
def spLKm : Sp := fun vs H Q E => ∃ a A g t, vs = [.ref a] ∧ LT H a A t ∧ GOK g ∧ Fit g t ∧ ∀ v H', Same H H' → Fz H' v (eMs t.km) → Q v H'
theorem Fit.at {g : Gr} {t : Tk} (F : Fit g t) {i : Nat} (h : i < t.sent.length) : i < t.kept.length ∧ t.kpt i < (t.snt i).length ∧ i < (dirs g).length := by
  have h1 := F.sl
  have h2 := F.kl
  exact ⟨by omega, F.kb i (by omega), by omega⟩
theorem sc__law_kept : FnScope ["_law_talk", "_law_at"] ["_law_talk"] (defScope s__law_kept) := ⟨rfl, rfl, rfl, by decide +kernel, rfl, by decide +kernel, by decide +kernel⟩
theorem cal__law_kept (T : Tx K mg) : Cal P w K mg base 1 "_law_kept" spLKm [] :=
  T.cal 49 49 rfl rfl sc__law_kept (fun _ _ _ _ _ _ us hl => match us, hl with | [_], _ => rfl) (fun vs H Q E ⟨_, _, _, _, e, _⟩ => by rw [e]; rfl) fun f cdv A' outer s H vs Q E hr h => by
    obtain ⟨a, A, g, t, rfl, lt, G, F, k⟩ := h
    refine ⟨_, (pss_one (ps_ret (pe_callTy (k_tupOf (K := K)) (by rfl) T.n_tuple (by decide +kernel) (pa_cons (pe_lc (own := [("_law_at", 1)]) (g := gName 1) (tt := tYes) rfl sc__law_kept.nd (pi_range1 (by rfl) T.n_range (pa_cons (pe_callB (k_len (K := K)) (by rfl) T.n_len (by decide +kernel) (pa_cons (pe_ix (k_ixL (K := K)) (pv 0) pe_int (fun _ _ => rfl)) pa_nil)) pa_nil)) (blkOk_by (N := ["_law_talk", "_law_at"]) (sc := defScope s__law_kept) (by decide +kernel)) (fun _ _ _ _ _ => (pg_name (i := 1) sc__law_kept.nd rfl (Or.inl rfl))) (fun _ _ _ _ _ => pts_nil) (fun _ _ _ _ _ => (pe_ix (k_ixL (K := K)) (pe_ix (k_ixL (K := K)) (pe_ix (k_ixL (K := K)) (pv 0) pe_int (fun _ _ => rfl)) (pv 1) (fun _ _ => rfl)) (pe_ix (k_ixL (K := K)) (pe_ix (k_ixL (K := K)) (pv 0) pe_int (fun _ _ => rfl)) (pv 1) (fun _ _ => rfl)) (fun _ _ => rfl)))) pa_nil)))), ?_⟩
    have hd := F.dl G
    refine EF.ret ((e_tupL (EL.ef (el_map1 (xs := List.range t.sent.length) (enc := eN) (g := fun i => eM ((t.snt i).getD (t.kpt i) [])) (w_rng1 (n := t.sent.length) (ea_cons ((e_lenL (lt.e_sent (at_var rfl))).is (by rw [List.length_map])) ea_nil) (by omega)) (by rw [List.length_range]; omega) (fun _ _ => tb_eM _) (fun i hi y1 H1 s1 g1 =>
      e_ixL ((lt.same s1).e_snt (at_var rfl) (e_var rfl g1) (List.mem_range.mp hi)) ((lt.same s1).e_kpt (at_var rfl) (e_var rfl g1) (F.at (List.mem_range.mp hi)).1) (map_at [] (F.at (List.mem_range.mp hi)).2.1))))).is ?_) k
    rw [km_range F]
    unfold eMs
    rw [List.map_map]
    rfl
def spLSett : Sp := fun vs H Q E => ∃ a A g t, vs = [.ref a] ∧ LT H a A t ∧ GOK g ∧ Fit g t ∧ ∀ v H', Same H H' → Fz H' v (.bool (settledB t)) → Q v H'
theorem sc__law_settled : FnScope ["_law_talk", "_law_at"] ["_law_talk"] (defScope s__law_settled) := ⟨rfl, rfl, rfl, by decide +kernel, rfl, by decide +kernel, by decide +kernel⟩
theorem cal__law_settled (T : Tx K mg) : Cal P w K mg base 1 "_law_settled" spLSett [] :=
  T.cal 52 52 rfl rfl sc__law_settled (fun _ _ _ _ _ _ us hl => match us, hl with | [_], _ => rfl) (fun vs H Q E ⟨_, _, _, _, e, _⟩ => by rw [e]; rfl) fun f cdv A' outer s H vs Q E hr h => by
    obtain ⟨a, A, g, t, rfl, lt, G, F, k⟩ := h
    refine ⟨_, (pss_one (ps_ret (pe_callB (k_all (K := K)) (by rfl) T.n_all (by decide +kernel) (pa_cons (pe_lc (own := [("_law_at", 1)]) (g := gName 1) (tt := tYes) rfl sc__law_settled.nd (pi_range1 (by rfl) T.n_range (pa_cons (pe_callB (k_len (K := K)) (by rfl) T.n_len (by decide +kernel) (pa_cons (pe_ix (k_ixL (K := K)) (pv 0) pe_int (fun _ _ => rfl)) pa_nil)) pa_nil)) (blkOk_by (N := ["_law_talk", "_law_at"]) (sc := defScope s__law_settled) (by decide +kernel)) (fun _ _ _ _ _ => (pg_name (i := 1) sc__law_settled.nd rfl (Or.inl rfl))) (fun _ _ _ _ _ => pts_nil) (fun _ _ _ _ _ => (pe_cmpR op_eq (pe_ix (k_ixL (K := K)) (pe_ix (k_ixL (K := K)) (pv 0) pe_int (fun _ _ => rfl)) (pv 1) (fun _ _ => rfl)) (pe_op op_sub (pe_callB (k_len (K := K)) (by rfl) T.n_len (by decide +kernel) (pa_cons (pe_ix (k_ixL (K := K)) (pe_ix (k_ixL (K := K)) (pv 0) pe_int (fun _ _ => rfl)) (pv 1) (fun _ _ => rfl)) pa_nil)) pe_int) (nomark _)))) pa_nil)))), ?_⟩
    have hd := F.dl G
    have hb : ∀ i, i < t.sent.length → decide (((t.kpt i : Nat) : Int) = ((((t.snt i).map eM).length : Nat) : Int) - 1) = decide (t.kpt i + 1 = (t.snt i).length) := fun i hi => by
      have := (F.at hi).2.1
      rw [List.length_map]
      exact decide_eq_decide.mpr (by omega)
    refine EF.ret ((e_all (bs := (List.range t.sent.length).map fun i => decide (t.kpt i + 1 = (t.snt i).length)) (EF.is (EL.ef (el_map1 (xs := List.range t.sent.length) (enc := eN) (g := fun i => .bool (decide (t.kpt i + 1 = (t.snt i).length))) (w_rng1 (n := t.sent.length) (ea_cons ((e_lenL (lt.e_sent (at_var rfl))).is (by rw [List.length_map])) ea_nil) (by omega)) (by rw [List.length_range]; omega) (fun _ _ => rfl) (fun i hi y1 H1 s1 g1 =>
      (e_eqI ((lt.same s1).e_kpt (at_var rfl) (e_var rfl g1) (F.at (List.mem_range.mp hi)).1) (e_sub (e_lenL ((lt.same s1).e_snt (at_var rfl) (e_var rfl g1) (List.mem_range.mp hi))) e_int)).is (congrArg PyData.bool (hb i (List.mem_range.mp hi)))))) (by rw [List.map_map]; rfl))).is ?_) k
    rw [settled_range F, List.all_map]
    rfl
def spLUpd : Sp := fun vs H Q E => ∃ x a A g t node, vs = [x, .ref a, .int (node : Nat)] ∧ Fz H x (eG g) ∧ LT H a A t ∧ GOK g ∧ node < g.n ∧ TabsOK g t.tabs ∧ MsOK g t.km ∧ Fit g t ∧ (updT g t node).1.way.length ≤ 90000 ∧
  ∀ H', Fr A.fp H H' → LT H' a A (updT g t node).1 → Q (.int ((updT g t node).2 : Nat)) H'
theorem LT.tk {H H' : Hp} {a : Addr} {A : Ad} {t : Tk} (h : LT H a A t) (k : Fr A.fp H H') : TK H H' := h.r.tk k
theorem ca_e {σ : L2.St} {H : Hp} {ta : TE} {tt : TA} {d : PyData} {Q : List V → Hp → Prop} (h : EF ta σ H d) (k : ∀ v H1, Same H H1 → Fz H1 v d → tt σ H1 fun xs H2 => Q (v :: xs) H2) : tCons ta tt σ H Q := h.go fun v H1 s f => k v H1 s f
theorem ca_a {σ : L2.St} {H : Hp} {ta : TE} {tt : TA} {a : Addr} {Q : List V → Hp → Prop} (h : AtD ta σ H a) (k : tt σ H fun xs H2 => Q (.ref a :: xs) H2) : tCons ta tt σ H Q := h H (Same.refl H) _ k
theorem ca_n {σ : L2.St} {H : Hp} {Q : List V → Hp → Prop} (k : Q [] H) : tNil σ H Q := k
theorem sc__law_update : FnScope ["_law_graph_here", "_law_talk", "_law_node", "_law_count", "_law_held", "_law_other", "_law_at", "_law_message"] ["_law_graph_here", "_law_talk", "_law_node"] (defScope s__law_update) := ⟨rfl, rfl, rfl, by decide +kernel, rfl, by decide +kernel, by decide +kernel⟩
theorem cal__law_update (T : Tx K mg) : Cal P w K mg base 4 "_law_update" spLUpd [] :=
  T.cal 50 50 rfl rfl sc__law_update (fun _ _ _ _ _ _ us hl => match us, hl with | [_, _, _], _ => rfl) (fun vs H Q E ⟨_, _, _, _, _, _, e, _⟩ => by rw [e]; rfl) fun f cdv A' outer s H vs Q E hr h => by
    obtain ⟨x, a, A, g, t, node, rfl, fx, lt, G, hn, ht, hm, F, hw, k⟩ := h
    refine ⟨_, (pss_cons (ps_set (i := 3) sc__law_update.nd rfl (Or.inl rfl) pe_int)
      (pss_cons (ps_set (i := 4) sc__law_update.nd rfl (Or.inl rfl) (pe_c (cal__law_kept T) hr (by decide) rfl (pa_cons (pv 1) pa_nil)))
      (pss_cons (ps_for PassesOwn.never rfl (k_piL (K := K) (pe_c (cal__law_neighbours T) hr (by decide) rfl (pa_cons (pv 0) (pa_cons (pv 2) pa_nil)))) (pg_name (i := 5) sc__law_update.nd rfl (Or.inl rfl))
        (pss_cons (ps_set (i := 6) sc__law_update.nd rfl (Or.inl rfl) (k_bm (K := K) PySem.F.plainAttrs_list PySem.F.slot_list_index PySem.F.type_list_index (k_index (K := K) (hu65 hr)) (pe_c (cal__law_directions T) hr (by decide) rfl (pa_cons (pv 0) pa_nil)) (pa_cons (pe_tup (pa_cons (pv 2) (pa_cons (pv 5) pa_nil))) pa_nil)))
        (pss_cons (ps_set (i := 7) sc__law_update.nd rfl (Or.inl rfl) (pe_c (cal__law_required T) hr (by decide) rfl (pa_cons (pv 0) (pa_cons (pe_ix (k_ixL (K := K)) (pv 1) pe_int (fun _ _ => rfl)) (pa_cons (pv 4) (pa_cons (pv 2) (pa_cons (pv 5) pa_nil)))))))
        (pss_one (ps_if (pt_cmpR (k_neD (K := K) hr.units) (pv 7) (pe_ix (k_ixL (K := K)) (pe_ix (k_ixL (K := K)) (pe_ix (k_ixL (K := K)) (pv 1) pe_int (fun _ _ => rfl)) (pv 6) (fun _ _ => rfl)) (pe_un un_neg pe_int) (fun _ _ => rfl)) (nomark _)) (pss_cons (ps_expr (k_bm (K := K) PySem.F.plainAttrs_list PySem.F.slot_list_append PySem.F.type_list_append mt_append (pe_ix (k_ixL (K := K)) (pv 1) pe_int (fun _ _ => rfl)) (pa_cons (pe_tup (pa_cons (pv 6) (pa_cons (pe_callB (k_len (K := K)) (by rfl) T.n_len (by decide +kernel) (pa_cons (pe_ix (k_ixL (K := K)) (pe_ix (k_ixL (K := K)) (pv 1) pe_int (fun _ _ => rfl)) (pv 6) (fun _ _ => rfl)) pa_nil)) pa_nil))) pa_nil)))
          (pss_cons (ps_expr (k_bm (K := K) PySem.F.plainAttrs_list PySem.F.slot_list_append PySem.F.type_list_append mt_append (pe_ix (k_ixL (K := K)) (pe_ix (k_ixL (K := K)) (pv 1) pe_int (fun _ _ => rfl)) (pv 6) (fun _ _ => rfl)) (pa_cons (pv 7) pa_nil)))
          (pss_one (ps_set (i := 3) sc__law_update.nd rfl (Or.inl rfl) (pe_op op_add (pv 3) pe_int))))) pss_nil)))))
      (pss_one (ps_ret (pv 3)))))), ?_⟩
    have he3 := G.e3
    have hdl := dirs_len g
    have hnl := nbrs_len g node
    have hin : ∀ o ∈ nbrs g node, dix g node o < t.sent.length := fun o ho => by
      rw [F.sl]
      exact dix_lt (nbr_dir ho).2
    refine s_asg (d := .int 0) e_int fun vc H1 s1 fc => ?_
    obtain rfl := fc.intI
    have lt1 := lt.same s1
    refine s_asgK (ca_a (at_var rfl) (ca_n ⟨a, A, g, t, rfl, lt1, G, F, fun vk H2 s2 fk => ?_⟩))
    have lt2 := lt1.same s2
    have s12 := s1.trans s2
    refine s_forE (xs := nbrs g node) (enc := eN) (e_callL (ea_cons (e_var rfl (fx.same s12)) (ea_cons (e_var rfl (.int _)) ea_nil)) ⟨g, node, rfl, G, rfl⟩) (fun _ _ => rfl) fun p B np sB ⟨ys, ey⟩ => ?_
    have ltB := lt2.same sB
    have hpp : p ∉ A.fp := fun hb => by
      obtain ⟨ys, e⟩ := lt2.r.lst hb
      rw [np] at e
      cases e
    have s2B := s12.trans sB
    refine ⟨fun i σ' H' => ∃ (c : Nat) (o5 o6 o7 : Option V), σ' = [some x, some (.ref a), some (.int (node : Nat)), some (.int (c : Nat)), some vk, o5, o6, o7] ∧ c = (((nbrs g node).take i).foldl (stepU g t.km node) (t, 0)).2 ∧ LT H' a A (((nbrs g node).take i).foldl (stepU g t.km node) (t, 0)).1 ∧ Fr A.fp H H' ∧ Fr A.fp B H',
      ⟨0, _, _, _, rfl, rfl, ltB, Fr.same s2B, Fr.refl _ _⟩, fun i σ' H' ⟨_, _, _, _, _, _, _, _, fr⟩ => ⟨ltB.tk fr, (fr _ _ hpp ey).trans ey.symm⟩, ?_, ?_⟩
    · rintro i o σ' H' y hi ⟨c, o5, o6, o7, rfl, hc, lt', frH, frB⟩ fy
      have ho : o ∈ nbrs g node := List.mem_of_getElem? hi
      have hd := (nbr_dir ho).2
      have ho2 := (G.dlt hd).2
      have tkB : TK B H' := ltB.tk frB
      have fk4 : Fz H' vk (eMs t.km) := (fk.same sB).tk tkB (tb_eMs _)
      have fx4 : Fz H' x (eG g) := (fx.same s2B).tk tkB (tb_eG _)
      have gr := foldU_gro g t.km node ((nbrs g node).take i) (t, 0) (fun o ho => hin o (List.mem_of_mem_take ho))
      have gr2 := foldU_gro g t.km node ((nbrs g node).take (i + 1)) (t, 0) (fun o ho => hin o (List.mem_of_mem_take ho))
      have gr3 := foldU_take g t.km node (nbrs g node) (t, 0) hin (i + 1)
      have hstep : ((nbrs g node).take (i + 1)).foldl (stepU g t.km node) (t, 0) = stepU g t.km node (((nbrs g node).take i).foldl (stepU g t.km node) (t, 0)) o := by
        rw [List.take_add_one, hi, List.foldl_append]
        rfl
      rw [hstep] at gr3
      generalize hst : ((nbrs g node).take i).foldl (stepU g t.km node) (t, 0) = st at *
      obtain ⟨t', c'⟩ := st
      simp only at hc gr lt'
      subst hc
      have hix : dix g node o < t'.sent.length := by
        rw [gr.sl]
        exact hin o ho
      have hkb := F.kb _ (dix_lt hd)
      have hlen1 : 0 < (t'.snt (dix g node o)).length := by
        have := (gr.pre (dix g node o)).length_le
        omega
      have hlen2 : (t'.snt (dix g node o)).length ≤ 90010 := by
        have h1 := gr.le (dix g node o)
        have h2 := F.sb (dix g node o)
        rw [List.length_take] at h1
        omega
      refine s_asg (e_index (EL.ef (e_callL (ea_cons (e_var rfl fx4) ea_nil) ⟨g, rfl, by omega, rfl⟩)) (e_tup (ea_cons (e_var rfl (.int _)) (ea_cons (e_var rfl fy) ea_nil))) hd) fun vp H5 s5 fp => ?_
      obtain rfl := fp.intI
      have lt5 := lt'.same s5
      have htab : TabsOK g t'.tabs := by
        rw [gr.tabs]
        exact ht
      refine s_asg (e_call (ea_cons (e_var rfl (fx4.same s5)) (ea_cons (lt5.e_tables (at_var rfl)) (ea_cons (e_var rfl (fk4.same s5)) (ea_cons (e_var rfl (.int _)) (ea_cons (e_var rfl (fy.same s5)) ea_nil))))) ⟨g, t'.tabs, t.km, node, o, _, rfl, .inl rfl, G, hn, ho2, htab, hm, rfl⟩) fun vm H6 s6 fm => ?_
      have lt6 := lt5.same s6
      refine s_if (t_test (e_neM (e_var rfl fm) (e_ixL (lt6.e_snt (j := dix g node o) (at_var rfl) (e_var (i := 6) rfl (.int _)) hix) e_neg1 (last_at hlen1)))) (fun hne H7 s7 => ?_) (fun heq H7 s7 => ?_)
      · have hne' : required g t'.tabs t.km node o ≠ lastM (t'.snt (dix g node o)) := by simpa using hne
        have hstU : stepU g t.km node (t', c) o = ({ t' with way := t'.way ++ [(dix g node o, (t'.snt (dix g node o)).length)], sent := t'.sent.set (dix g node o) (t'.snt (dix g node o) ++ [required g t'.tabs t.km node o]) }, c + 1) := by
          unfold stepU
          rw [if_neg hne']
        have lt7 := lt6.same s7
        have hwl : t'.way.length < 90000 := by
          have h1 := gr3.way.length_le
          rw [hstU] at h1
          have h2 : (t'.way ++ [(dix g node o, (t'.snt (dix g node o)).length)]).length ≤ (updT g t node).1.way.length := h1
          rw [List.length_append, List.length_singleton] at h2
          omega
        obtain ⟨xs, ew, fw⟩ := lt7.r.w
        refine s_appVS ew (lt7.a_w (at_var rfl)) (e_tup (ea_cons (e_var rfl (.int _)) (ea_cons ((e_lenL (lt7.e_snt (j := dix g node o) (at_var rfl) (e_var (i := 6) rfl (.int _)) hix)).is (by rw [List.length_map])) ea_nil))) (by rw [fw.len, List.length_map]; omega) fun v8 H8 s8 f8 => ?_
        have lt8 := lt7.same s8
        have fr8 : Fr A.fp H8 (upd H8 A.w (.lst (xs ++ [v8]))) := fr_upd (by simp)
        have lt9 := lt8.with fr8 (lt8.r.setW (w' := t'.way ++ [(dix g node o, (t'.snt (dix g node o)).length)]) (by
          rw [List.map_append]
          exact (fw.same s8).snoc f8)) rfl
        have fm9 : Fz (upd H8 A.w (.lst (xs ++ [v8]))) vm (eM (required g t'.tabs t.km node o)) := ((fm.same s7).same s8).tk (lt8.tk fr8) (tb_eM _)
        generalize upd H8 A.w (.lst (xs ++ [v8])) = H9 at fr8 lt9 fm9 ⊢
        obtain ⟨pa9, hpa9, hpaf9, hlm9⟩ := lt9.r.ssAt (i := dix g node o) hix
        obtain ⟨xs9, e9, f9⟩ := hlm9
        refine s_appVS e9 (at_ix (j := dix g node o) (lt9.a_s (at_var rfl)) lt9.r.s rfl hpa9) (e_var rfl fm9) ?_ fun vq H10 s10 fq => ?_
        · rw [f9.len, List.length_map]
          show (t'.snt (dix g node o)).length < 100000
          omega
        have lt10 := lt9.same s10
        have fr11 : Fr A.fp H10 (upd H10 pa9 (.lst (xs9 ++ [vq]))) := fr_upd hpaf9
        have lt11 := lt10.with fr11 (lt10.r.setS hpa9 (m := t'.snt (dix g node o) ++ [required g t'.tabs t.km node o]) (by
          rw [List.map_append]
          exact (f9.same s10).snoc fq)) rfl
        refine s_asg1 (d := .int ((c + 1 : Nat) : Int)) ((e_add (e_var rfl (.int _)) e_int).is (by simp)) fun vc H12 s12 fc => ?_
        obtain rfl := fc.intI
        have s48 := ((s5.trans s6).trans s7).trans s8
        have frAll : Fr A.fp H' H12 := (((Fr.same s48).trans fr8).trans ((Fr.same s10).trans fr11)).trans (Fr.same s12)
        refine ⟨c + 1, _, _, _, rfl, ?_, ?_, frH.trans frAll, frB.trans frAll⟩
        · rw [hstep, hstU]
        · rw [hstep, hstU]
          exact lt11.same s12
      · have heq' : required g t'.tabs t.km node o = lastM (t'.snt (dix g node o)) := by simpa using heq
        have hstU : stepU g t.km node (t', c) o = (t', c) := by
          unfold stepU
          rw [if_pos heq']
        have s47 := (s5.trans s6).trans s7
        refine ⟨c, _, _, _, rfl, by rw [hstep, hstU], ?_, frH.trans (Fr.same s47), frB.trans (Fr.same s47)⟩
        rw [hstep, hstU]
        exact lt6.same s7
    · rintro σ' H' ⟨c, o5, o6, o7, rfl, hc, lt', frH, frB⟩
      rw [List.take_length] at hc lt'
      refine (e_var rfl (.int _)).ret fun v H5 s5 f5 => ?_
      obtain rfl := f5.intI
      rw [hc]
      exact k H5 (frH.trans (Fr.same s5)) (lt'.same s5)
def spLArr : Sp := fun vs H Q E => ∃ x a A g t i n, vs = [x, .ref a, .int (i : Nat), .int (n : Nat)] ∧ Fz H x (eG g) ∧ LT H a A t ∧ GOK g ∧ Good g t ∧ i < (dirs g).length ∧ n < (t.snt i).length ∧ (arrT g t i n).1.way.length ≤ 90000 ∧
  ∀ H', Fr A.fp H H' → LT H' a A (arrT g t i n).1 → Q (.int ((arrT g t i n).2 : Nat)) H'
theorem sc__law_arrive : FnScope ["_law_graph_here", "_law_talk", "_law_at", "_law_number"] ["_law_graph_here", "_law_talk", "_law_at", "_law_number"] (defScope s__law_arrive) := ⟨rfl, rfl, rfl, by decide +kernel, rfl, by decide +kernel, by decide +kernel⟩
theorem cal__law_arrive (T : Tx K mg) : Cal P w K mg base 5 "_law_arrive" spLArr [] :=
  T.cal 51 51 rfl rfl sc__law_arrive (fun _ _ _ _ _ _ us hl => match us, hl with | [_, _, _, _], _ => rfl) (fun vs H Q E ⟨_, _, _, _, _, _, _, e, _⟩ => by rw [e]; rfl) fun f cdv A' outer s H vs Q E hr h => by
    obtain ⟨x, a, A, g, t, i, n, rfl, fx, lt, G, gd, hi, hn, hw, k⟩ := h
    refine ⟨_, (pss_cons (ps_if (pt_cmpR op_le (pv 3) (pe_ix (k_ixL (K := K)) (pe_ix (k_ixL (K := K)) (pv 1) pe_int (fun _ _ => rfl)) (pv 2) (fun _ _ => rfl)) (nomark _)) (pss_one (ps_ret pe_int)) pss_nil)
      (pss_cons (ps_asg (pv 3) (pg_sub (pe_ix (k_ixL (K := K)) (pv 1) pe_int (fun _ _ => rfl)) (pv 2) set_list))
      (pss_one (ps_ret (pe_c (cal__law_update T) hr (by decide) rfl (pa_cons (pv 0) (pa_cons (pv 1) (pa_cons (pe_ix (k_ixT (K := K)) (pe_ix (k_ixL (K := K)) (pe_c (cal__law_directions T) hr (by decide) rfl (pa_cons (pv 0) pa_nil)) (pv 2) (fun _ _ => rfl)) pe_int (fun _ _ => rfl)) pa_nil)))))))), ?_⟩
    have he3 := G.e3
    have hdl := dirs_len g
    have hik : i < t.kept.length := by rw [gd.fit.kl]; exact hi
    refine s_ifQ (t_test (e_le (e_var rfl (.int _)) (lt.e_kpt (at_var rfl) (e_var (i := 2) rfl (.int _)) hik))) (fun hle H1 s1 => ?_) fun hgt H1 s1 => ?_
    · have hle' : n ≤ t.kpt i := by
        have h := of_decide_eq_true hle
        omega
      have ea : arrT g t i n = (t, 0) := by
        unfold arrT
        rw [if_pos hle']
      rw [ea] at k
      exact EF.ret (d := .int ((0 : Nat) : Int)) e_int fun v H2 s2 f2 => by
        obtain rfl := f2.intI
        exact k H2 (Fr.same (s1.trans s2)) (lt.same (s1.trans s2))
    · have hgt' : ¬ n ≤ t.kpt i := by
        have h := of_decide_eq_false hgt
        omega
      have ea : arrT g t i n = updT g { t with kept := t.kept.set i n } ((dirs g).getD i (0, 0)).2 := by
        unfold arrT
        rw [if_neg hgt']
      rw [ea] at k hw
      have lt1 := lt.same s1
      refine s_setL (e_var rfl (.int _)) (lt1.a_k (at_var rfl)) lt1.r.k (e_var rfl (.int _)) (by rw [List.length_map]; exact hik) fun v H2 s2 f2 => ?_
      obtain rfl := f2.intI
      rw [set_nat]
      have lt2 := lt1.same s2
      have fr : Fr A.fp H2 (upd H2 A.k (.lst ((t.kept.set i n).map fun (n : Nat) => V.int (n : Int)))) := fr_upd (by simp)
      have lt3 := lt2.with fr (lt2.r.setK (t.kept.set i n)) rfl
      have gd3 := gd.kept hi hn
      have fx3 : Fz (upd H2 A.k (.lst ((t.kept.set i n).map fun (n : Nat) => V.int (n : Int)))) x (eG g) := (fx.same (s1.trans s2)).tk (lt2.tk fr) (tb_eG _)
      refine ca_e (Q := fun vs H1 => spLUpd (vs ++ []) H1 Q E) (e_var rfl fx3) fun x4 H4 s4 fx4 => ca_a (at_var rfl) (ca_e (d := eN ((dirs g).getD i (0, 0)).2) (e_ixT (e_ixL (EL.ef (e_callL (ea_cons (e_var rfl (fx3.same s4)) ea_nil) ⟨g, rfl, by omega, rfl⟩)) (e_var rfl (.int _)) (map_at (0, 0) hi)) e_int (by rfl)) fun y H5 s5 fy => ca_n ?_)
      obtain rfl := fy.intI
      exact ⟨x4, a, A, g, _, ((dirs g).getD i (0, 0)).2, rfl, fx4.same s5, (lt3.same s4).same s5, G, (G.dn hi).1, gd3.tabs, gd3.km.ms G, gd3.fit, hw, fun H6 fr6 lt6 => k H6 ((((Fr.same (s1.trans s2)).trans fr).trans (Fr.same (s4.trans s5))).trans fr6) lt6⟩
end
end Tt

/-! The law's settling. -/
namespace Tt
open PySem PySem.Spec PyProof.Rows L2 RZ
open C8 (Cal Met Mak pe_c pe_mk pe_mt pe_mt0 pe_gc)
section
variable {P : Program} {w : World} {K : PySem.W.Frag} {mg : Str → Option Value} {base : Heap}
theorem at_mono {te : TE} {σ : L2.St} {H H1 : Hp} {a : Addr} (h : AtD te σ H a) (s : Same H H1) : AtD te σ H1 a := fun H2 s2 Q q => h H2 (s.trans s2) Q q
theorem lc4_go {sp : Sp} {E : XK} {ta tb tc td : TE} {σ : L2.St} {H : Hp} {Q : VK} {a : Addr} {d1 d3 d4 : PyData} (h1 : EF ta σ H d1) (h2 : AtD tb σ H a) (h3 : EF tc σ H d3) (h4 : EF td σ H d4) (k : ∀ x y z H1, Same H H1 → Fz H1 x d1 → Fz H1 y d3 → Fz H1 z d4 → sp [x, .ref a, y, z] H1 Q E) : tCall sp [] E (tCons ta (tCons tb (tCons tc (tCons td tNil)))) σ H Q :=
  h1.go fun x H1 s1 f1 => h2 H1 s1 _ (h3 H1 s1 _ fun y H2 s2 f2 => h4 H2 (s1.trans s2) _ fun z H3 s3 f3 => k x y z H3 ((s1.trans s2).trans s3) ((f1.same s2).same s3) (f2.same s3) f3)
theorem lc3_go {sp : Sp} {E : XK} {ta tb tc : TE} {σ : L2.St} {H : Hp} {Q : VK} {a : Addr} {d1 d3 : PyData} (h1 : EF ta σ H d1) (h2 : AtD tb σ H a) (h3 : EF tc σ H d3) (k : ∀ x y H1, Same H H1 → Fz H1 x d1 → Fz H1 y d3 → sp [x, .ref a, y] H1 Q E) : tCall sp [] E (tCons ta (tCons tb (tCons tc tNil))) σ H Q :=
  h1.go fun x H1 s1 f1 => h2 H1 s1 _ (h3 H1 s1 _ fun y H2 s2 f2 => k x y H2 (s1.trans s2) (f1.same s2) f2)
theorem lc2_go {sp : Sp} {E : XK} {ta tb : TE} {σ : L2.St} {H : Hp} {Q : VK} {a : Addr} {d1 : PyData} (h1 : EF ta σ H d1) (h2 : AtD tb σ H a) (k : ∀ x H1, Same H H1 → Fz H1 x d1 → sp [x, .ref a] H1 Q E) : tCall sp [] E (tCons ta (tCons tb tNil)) σ H Q :=
  h1.go fun x H1 s1 f1 => h2 H1 s1 _ (k x H1 s1 f1)
theorem e_lsett {σ : L2.St} {H : Hp} {td : TE} {a : Addr} {A : Ad} {g : Gr} {t : Tk} {E : XK} (lt : LT H a A t) (G : GOK g) (F : Fit g t) (hd : AtD td σ H a) : EF (tCall spLSett [] E (tCons td tNil)) σ H (.bool (settledB t)) := fun H1 s Q q =>
  hd H1 s _ ⟨a, A, g, t, rfl, lt.same s, G, F, fun v H3 s3 f3 => q v H3 s3 f3⟩
theorem RunOK.done {g : Gr} {t : Tk} (h : Good g t) (hw : t.way.length ≤ 39) (hd : doneT t = true) : ∀ f, RunOK g f t
  | 0 => ⟨h, hw, hd⟩
  | f + 1 => ⟨h, hw, .inl hd⟩
def spLSettle : Sp := fun vs H Q E => ∃ x a A g t, vs = [x, .ref a] ∧ Fz H x (eG g) ∧ LT H a A t ∧ GOK g ∧ RunOK g 400 t ∧ ∀ H', Fr A.fp H H' → LT H' a A (settleF g 400 (t, 0)).1 → Q (.int ((settleF g 400 (t, 0)).2 : Nat)) H'
theorem sc__law_settle : FnScope ["_law_graph_here", "_law_talk", "_law_count", "_law_turn", "_law_late", "_law_at", "_law_number"] ["_law_graph_here", "_law_talk"] (defScope s__law_settle) := ⟨rfl, rfl, rfl, by decide +kernel, rfl, by decide +kernel, by decide +kernel⟩
theorem cal__law_settle (T : Tx K mg) : Cal P w K mg base 6 "_law_settle" spLSettle [] :=
  T.cal 53 53 rfl rfl sc__law_settle (fun _ _ _ _ _ _ us hl => match us, hl with | [_, _], _ => rfl) (fun vs H Q E ⟨_, _, _, _, _, e, _⟩ => by rw [e]; rfl) fun f cdv A' outer s H vs Q E hr h => by
    obtain ⟨x, a, A, g, t, rfl, fx, lt, G, ro, k⟩ := h
    refine ⟨_, (pss_cons (ps_set (i := 2) sc__law_settle.nd rfl (Or.inl rfl) pe_int)
      (pss_cons (ps_for PassesOwn.never rfl (pi_range1 (by rfl) T.n_range (pa_cons pe_int pa_nil)) (pg_name (i := 3) sc__law_settle.nd rfl (Or.inl rfl))
        (pss_cons (ps_if (PW.pt (pw_and (pt_not (k_truth (K := K) (pe_ix (k_ixL (K := K)) (pv 1) pe_int (fun _ _ => rfl)))) (pw_and1 (pt_not (pt_val (pe_c (cal__law_settled T) hr (by decide) rfl (pa_cons (pv 1) pa_nil))))))) (pss_cons (ps_setLc (i := 4) (own := [("_law_at", 5)]) (g := gName 5) (by rfl) sc__law_settle.nd rfl rfl (sw_true rfl rfl rfl (by decide +kernel)) (pi_range1 (by rfl) T.n_range (pa_cons (pe_callB (k_len (K := K)) (by rfl) T.n_len (by decide +kernel) (pa_cons (pe_ix (k_ixL (K := K)) (pv 1) pe_int (fun _ _ => rfl)) pa_nil)) pa_nil)) (blkOk_by (N := ["_law_graph_here", "_law_talk", "_law_count", "_law_turn", "_law_late", "_law_at", "_law_number"]) (sc := defScope s__law_settle) (by decide +kernel)) (fun _ _ _ _ _ => (pg_name (i := 5) sc__law_settle.nd rfl (Or.inl rfl))) (fun _ _ _ _ _ => (pts_one (pt_cmpR op_lt (pe_ix (k_ixL (K := K)) (pe_ix (k_ixL (K := K)) (pv 1) pe_int (fun _ _ => rfl)) (pv 5) (fun _ _ => rfl)) (pe_op op_sub (pe_callB (k_len (K := K)) (by rfl) T.n_len (by decide +kernel) (pa_cons (pe_ix (k_ixL (K := K)) (pe_ix (k_ixL (K := K)) (pv 1) pe_int (fun _ _ => rfl)) (pv 5) (fun _ _ => rfl)) pa_nil)) pe_int) (nomark _)))) (fun _ _ _ _ _ => (pv 5)))
          (pss_one (ps_expr (k_bm (K := K) PySem.F.plainAttrs_list PySem.F.slot_list_append PySem.F.type_list_append mt_append (pe_ix (k_ixL (K := K)) (pv 1) pe_int (fun _ _ => rfl)) (pa_cons (pe_tup (pa_cons (pe_ix (k_ixL (K := K)) (pv 4) pe_int (fun _ _ => rfl)) (pa_cons (pe_op op_sub (pe_callB (k_len (K := K)) (by rfl) T.n_len (by decide +kernel) (pa_cons (pe_ix (k_ixL (K := K)) (pe_ix (k_ixL (K := K)) (pv 1) pe_int (fun _ _ => rfl)) (pe_ix (k_ixL (K := K)) (pv 4) pe_int (fun _ _ => rfl)) (fun _ _ => rfl)) pa_nil)) pe_int) pa_nil))) pa_nil))))) pss_nil)
        (pss_one (ps_if (k_truth (K := K) (pe_ix (k_ixL (K := K)) (pv 1) pe_int (fun _ _ => rfl))) (pss_cons (ps_asg (k_bm (K := K) PySem.F.plainAttrs_list PySem.F.slot_list_pop PySem.F.type_list_pop mt_popAt (pe_ix (k_ixL (K := K)) (pv 1) pe_int (fun _ _ => rfl)) (pa_cons pe_int pa_nil)) (k_tg (K := K) (n := 2) (pgs_cons (pg_name (i := 5) sc__law_settle.nd rfl (Or.inl rfl)) (pgs_cons (pg_name (i := 6) sc__law_settle.nd rfl (Or.inl rfl)) pgs_nil))))
          (pss_cons (ps_expr (pe_c (cal__law_arrive T) hr (by decide) rfl (pa_cons (pv 0) (pa_cons (pv 1) (pa_cons (pv 5) (pa_cons (pv 6) pa_nil))))))
          (pss_one (ps_set (i := 2) sc__law_settle.nd rfl (Or.inl rfl) (pe_op op_add (pv 2) pe_int))))) pss_nil))))
      (pss_one (ps_ret (pv 2))))), ?_⟩
    have he3 := G.e3
    have hdl := dirs_len g
    refine s_asg (d := .int ((0 : Nat) : Int)) e_int fun v H1 s1 f1 => ?_
    obtain rfl := f1.intI
    refine s_forT (xs := List.range 400) (enc := eN) (wt_rng1 (n := 400) (ea_cons e_int ea_nil) (by decide)) (fun B i σ' H' => ∃ (t' : Tk) (c : Nat) (o3 o4 o5 o6 : Option V), σ' = [some x, some (.ref a), some (.int (c : Int)), o3, o4, o5, o6] ∧ LT H' a A t' ∧ RunOK g (400 - i) t' ∧ settleF g (400 - i) (t', c) = settleF g 400 (t, 0) ∧ Fr A.fp H H' ∧ Fr A.fp B H')
      (fun B sB => ⟨t, 0, _, _, _, _, rfl, (lt.same s1).same sB, ro, rfl, Fr.same (s1.trans sB), Fr.refl _ _⟩) (fun B i σ' H' sB ⟨_, _, _, _, _, _, _, _, _, _, _, fr⟩ => ((lt.same s1).same sB).tk fr) ?_ ?_
    · rintro B i j σ' H' yj H2 sB hj ⟨t', c, o3, o4, o5, o6, rfl, lt', ro', hs', frH, frB⟩ s2 fyj
      have hi : i < 400 := by
        have := (List.getElem?_eq_some_iff.mp hj).1
        simpa using this
      have hm : 400 - i = (400 - (i + 1)) + 1 := by omega
      generalize 400 - (i + 1) = m at hm ⊢
      rw [hm] at ro' hs'
      obtain ⟨gd, hw⟩ := ro'.good
      have lt2 := lt'.same s2
      have tkH : TK H H' := (AR.same lt.r (Same.refl H)).tk frH
      have fx2 : Fz H2 x (eG g) := (fx.tk tkH (tb_eG _)).same s2
      show tSeq _ _ _ [some x, some (.ref a), some (.int (c : Int)), some yj, o4, o5, o6] H2
      refine s_ifC (fun σ2 H3 => ∃ o4, σ2 = [some x, some (.ref a), some (.int (c : Int)), some yj, o4, o5, o6] ∧ LT H3 a A (if doneT t' then t' else fill1 t') ∧ Fr A.fp H2 H3)
        (t_and (t_not (t_trL (lt2.e_way (at_var rfl)))) fun _ => t_not (t_B (e_lsett lt2 G gd.fit (at_var rfl)))) (fun W hW hem H3 s3 => ?_) (fun hem H3 s3 => ?_) ?_
      · obtain ⟨h1, h2⟩ := (Bool.and_eq_true _ _).mp hem
        have hnil : t'.way = [] := by
          cases e : t'.way with
          | nil => rfl
          | cons p l => rw [e] at h1; simp at h1
        have hst : settledB t' = false := by simpa using h2
        have hdn : doneT t' = false := by
          unfold doneT
          rw [hst, Bool.and_false]
        obtain ⟨ll, hl1, hl2, hl3⟩ := late_ok gd.fit hst
        have hlt : lateT t' < t'.sent.length := by rw [gd.fit.sl]; exact hl2
        have hfill : fill1 t' = { t' with way := t'.way ++ [(lateT t', (t'.snt (lateT t')).length - 1)] } := by
          unfold fill1
          rw [hnil]
          rfl
        have lt3 := lt2.same s3
        have hsd := gd.fit.dl G
        refine s_asgL (el_flt1 (xs := List.range t'.sent.length) (enc := eN) (f := fun i => decide (t'.kpt i + 1 < (t'.snt i).length)) (g := eN) (w_rng1 (n := t'.sent.length) (ea_cons ((e_lenL (lt3.e_sent (at_var rfl))).is (by rw [List.length_map])) ea_nil) (by omega)) (by rw [List.length_range]; omega) (fun _ _ _ => rfl) (fun i hi y1 H4 s4 g1 =>
          ⟨t_test ((e_lt ((lt3.same s4).e_kpt (at_var rfl) (e_var rfl g1) (gd.fit.at (List.mem_range.mp hi)).1) (e_sub (e_lenL ((lt3.same s4).e_snt (at_var rfl) (e_var rfl g1) (List.mem_range.mp hi))) e_int)).is (by
            rw [List.length_map]
            congr 1
            exact decide_eq_decide.mpr (by omega))), fun _ => e_var rfl g1⟩)) fun pl xl H4 nl s4 el fl => ?_
        have fl' : FzAll H4 xl (eNs (lates t')) := fl
        rw [hl1] at fl'
        have lt4 := lt3.same s4
        have e0 : EF (tOp (rIxL K) (tVar 4) (tC (.int 0))) [some x, some (.ref a), some (.int (c : Int)), some yj, some (.ref pl), o5, o6] H4 (eN (lateT t')) := e_ixL (e_var rfl (Fz.lst el fl')) e_int (n_at (l := lateT t' :: ll) (n := 0) (by simp))
        obtain ⟨xs, ew, fw⟩ := lt4.r.w
        refine s_appV (Q := fun _ _ => True) ew (lt4.a_w (at_var rfl)) (e_tup (ea_cons e0 (ea_cons (EF.is (e := .int (((t'.snt (lateT t')).length - 1 : Nat) : Int)) (e_sub (e_lenL (lt4.e_snt (at_var rfl) e0 hlt)) e_int) (by rw [List.length_map, Int.ofNat_sub (by omega)]; rfl)) ea_nil))) (by rw [fw.len, List.length_map]; omega) fun v5 H5 s5 f5 => ?_
        have lt5 := lt4.same s5
        have fr6 : Fr A.fp H5 (upd H5 A.w (.lst (xs ++ [v5]))) := fr_upd (by simp)
        have lt6 := lt5.with fr6 (lt5.r.setW (w' := t'.way ++ [(lateT t', (t'.snt (lateT t')).length - 1)]) (by
          rw [List.map_append]
          exact (fw.same s5).snoc f5)) rfl
        refine hW _ _ ⟨_, rfl, ?_, ((Fr.same s3).trans (Fr.same (s4.trans s5))).trans fr6⟩
        rw [hdn, if_neg (by decide), hfill]
        exact lt6
      · refine ⟨_, rfl, ?_, Fr.same s3⟩
        have : (if doneT t' then t' else fill1 t') = t' := by
          by_cases h : doneT t' = true
          · rw [if_pos h]
          · rw [if_neg h]
            unfold fill1
            cases e : t'.way with
            | cons p l => rfl
            | nil =>
              exfalso
              rw [e] at hem
              simp at hem
              apply h
              unfold doneT
              rw [e, hem]
              rfl
        rw [this]
        exact lt2.same s3
      · rintro σ2 H3 ⟨o4', rfl, lt3, fr3⟩
        by_cases hdn : doneT t' = true
        · rw [if_pos hdn] at lt3
          have hnil : t'.way = [] := by
            unfold doneT at hdn
            cases e : t'.way with
            | nil => rfl
            | cons p l => rw [e] at hdn; simp at hdn
          refine s_if (t_trL (lt3.e_way (at_var rfl))) (fun h => by rw [hnil] at h; simp at h) fun _ H4 s4 => ?_
          have frA : Fr A.fp H' H4 := ((Fr.same s2).trans fr3).trans (Fr.same s4)
          refine ⟨t', c, _, _, _, _, rfl, lt3.same s4, RunOK.done gd hw hdn m, ?_, frH.trans frA, frB.trans frA⟩
          rw [← hs', settleF_done (s := (t', c)) hdn, settleF_done (s := (t', c)) hdn]
        · rw [if_neg hdn] at lt3
          have hdn : doneT t' = false := by simpa using hdn
          obtain ⟨gdf, p, l, hpl, hwf⟩ := fill_good gd hdn
          have ro2 : RunOK g m (set1 g t') := by
            rcases ro'.2.2 with h | h
            · rw [h] at hdn
              cases hdn
            · exact h
          have hs2 : settleF g m (set1 g t', c + 1) = settleF g 400 (t, 0) := by
            rw [← hs', settleF_step (s := (t', c)) hdn]
          refine s_if (t_trL (lt3.e_way (at_var rfl))) (fun _ H4 s4 => ?_) (fun h => by rw [hpl] at h; simp at h)
          have lt4 := lt3.same s4
          obtain ⟨xs, ew, fw⟩ := lt4.r.w
          rw [hpl] at fw
          cases fw with
          | @cons xx xs' _ _ fx' fxs =>
            have hlen : (xx :: xs').length ≤ 100000 := by
              have := fxs.len
              rw [List.length_map] at this
              rw [hpl] at hwf
              simp at hwf ⊢
              omega
            refine s_popA (i := 0) (lt4.a_w (at_var rfl)) ew e_int rfl hlen fun H5 s5 => ?_
            have lt5 := lt4.same s5
            have fr6 : Fr A.fp H5 (upd H5 A.w (.lst xs')) := fr_upd (by simp)
            have lt6 := lt5.with fr6 (lt5.r.setW (w' := l) (fxs.same s5)) rfl
            have fx6 : Fz (upd H5 A.w (.lst xs')) xx (eE p) := (fx'.same s5).tk (lt5.tk fr6) (tb_eE _)
            have frT : Fr A.fp H2 (upd H5 A.w (.lst xs')) := (fr3.trans (Fr.same (s4.trans s5))).trans fr6
            have fxg : Fz (upd H5 A.w (.lst xs')) x (eG g) := fx2.tk (lt2.tk frT) (tb_eG _)
            show g2 K 5 6 xx _ (upd H5 A.w (.lst xs')) _
            refine g2_go fx6 fun y5 y6 f5 f6 => ?_
            obtain rfl := f5.intI
            obtain rfl := f6.intI
            have htail : ({ fill1 t' with way := (fill1 t').way.tail } : Tk) = { fill1 t' with way := l } := by rw [hpl]; rfl
            have hset : set1 g t' = (arrT g { fill1 t' with way := l } p.1 p.2).1 := by
              unfold set1
              rw [htail, hpl]
              rfl
            have hpb := gdf.wb p (by rw [hpl]; simp)
            have gd5 : Good g { fill1 t' with way := l } := gdf.way fun q hq => gdf.wb q (by rw [hpl]; simp [hq])
            have hwa : (arrT g { fill1 t' with way := l } p.1 p.2).1.way.length ≤ 90000 := by
              rw [← hset]
              have := ro2.good.2
              omega
            refine s_dropK (lc4_go (e_var rfl fxg) (at_var rfl) (e_var rfl (.int _)) (e_var rfl (.int _)) fun x7 y7 z7 H7 s7 f7 g7 h7 => ?_)
            obtain rfl := g7.intI
            obtain rfl := h7.intI
            refine ⟨x7, a, A, g, _, p.1, p.2, rfl, f7, lt6.same s7, G, gd5, hpb.1, hpb.2, hwa, fun H8 fr8 lt8 => ?_⟩
            refine s_asg1 (d := .int ((c + 1 : Nat) : Int)) ((e_add (e_var rfl (.int _)) e_int).is (by simp)) fun vc H9 s9 fc => ?_
            obtain rfl := fc.intI
            have frA : Fr A.fp H' H9 := ((((Fr.same s2).trans frT).trans (Fr.same s7)).trans fr8).trans (Fr.same s9)
            refine ⟨set1 g t', c + 1, _, _, _, _, rfl, ?_, ro2, hs2, frH.trans frA, frB.trans frA⟩
            rw [hset]
            exact lt8.same s9
    · rintro B σ' H' sB ⟨t', c, o3, o4, o5, o6, rfl, lt', ro', hs', frH, frB⟩
      have hs0 : (t', c) = settleF g 400 (t, 0) := hs'
      refine (e_var rfl (.int _)).ret fun v H5 s5 f5 => ?_
      obtain rfl := f5.intI
      have h1 : t' = (settleF g 400 (t, 0)).1 := by rw [← hs0]
      have h2 : c = (settleF g 400 (t, 0)).2 := by rw [← hs0]
      rw [h2]
      exact k H5 (frH.trans (Fr.same s5)) (by rw [← h1]; exact lt'.same s5)
end
end Tt

/-! The law's talk at its beginning. -/
namespace Tt
open PySem PySem.Spec PyProof.Rows L2 RZ
open C8 (Cal Met Mak pe_c pe_mk pe_mt pe_mt0 pe_gc)
section
variable {P : Program} {w : World} {K : PySem.W.Frag} {mg : Str → Option Value} {base : Heap}
theorem ca_l {σ : L2.St} {H : Hp} {ta : TE} {tt : TA} {ds : List PyData} {Q : List V → Hp → Prop} (h : EL ta σ H ds) (k : ∀ p xs H1, H p = none → Same H H1 → H1 p = some (.lst xs) → FzAll H1 xs ds → tt σ H1 fun ys H2 => Q (.ref p :: ys) H2) : tCons ta tt σ H Q := h.go k
theorem l4_go {σ : L2.St} {H : Hp} {t1 t2 t3 t4 : TE} {a : Addr} {d1 : PyData} {ds es : List PyData} {Q : VK} (h1 : EF t1 σ H d1) (h2 : AtD t2 σ H a) (h3 : EL t3 σ H ds) (h4 : EL t4 σ H es)
    (k : ∀ v pk xk pw xw H1 H2 H3, Same H H1 → Fz H1 v d1 → H1 pk = none → Same H1 H2 → H2 pk = some (.lst xk) → FzAll H2 xk ds → H2 pw = none → Same H2 H3 → H3 pw = some (.lst xw) → FzAll H3 xw es → ∀ p, H3 p = none → Q (.ref p) (upd H3 p (.lst [v, .ref a, .ref pk, .ref pw]))) : tLst (tCons t1 (tCons t2 (tCons t3 (tCons t4 tNil)))) σ H Q :=
  h1.go fun v H1 s1 f1 => h2 H1 s1 _ (h3 H1 s1 _ fun pk xk H2 nk s2 ek fk => h4 H2 (s1.trans s2) _ fun pw xw H3 nw s3 ew fw => ⟨(by decide : 4 ≤ sizeLine), fun p hp => k v pk xk pw xw H1 H2 H3 s1 f1 nk s2 ek fk nw s3 ew fw p hp⟩)
def spLBegin : Sp := fun vs H Q E => ∃ x y g tabs, vs = [x, y] ∧ Fz H x (eG g) ∧ Fz H y (eTabs tabs) ∧ GOK g ∧ TabsOK g tabs ∧ ∀ a A H', Same H H' → (∀ b ∈ a :: A.fp, H b = none) → LT H' a A (newT g tabs) → Q (.ref a) H'
theorem in_pair {H : Hp} {ps : List Addr} {l : List Msg} (pr : Paired (fun b m => LL H b [eM m]) ps l) {b : Addr} (hb : b ∈ ps) : ∃ o, H b = some o := by
  obtain ⟨i, hi, rfl⟩ := List.mem_iff_getElem.mp hb
  obtain ⟨_, _, zs, e, _⟩ := paired_get pr (List.getElem?_eq_getElem hi)
  exact ⟨_, e⟩
theorem fz_pair {H : Hp} : ∀ {ps : List Addr} {l : List Msg}, Paired (fun b m => LL H b [eM m]) ps l → FzAll H (ps.map V.ref) (l.map fun m => .list [eM m]) := by
  intro ps l q
  induction q with
  | nil => exact .nil
  | cons r _ ih =>
    obtain ⟨zs, e, fz⟩ := r
    exact .cons (.lst e fz) ih
theorem sc__law_begin : FnScope ["_law_graph_here", "_law_tables", "_law_sent", "_law_message", "_law_row"] ["_law_graph_here", "_law_tables"] (defScope s__law_begin) := ⟨rfl, rfl, rfl, by decide +kernel, rfl, by decide +kernel, by decide +kernel⟩
theorem cal__law_begin (T : Tx K mg) : Cal P w K mg base 5 "_law_begin" spLBegin [] :=
  T.cal 48 48 rfl rfl sc__law_begin (fun _ _ _ _ _ _ us hl => match us, hl with | [_, _], _ => rfl) (fun vs H Q E ⟨_, _, _, _, e, _⟩ => by rw [e]; rfl) fun f cdv A' outer s H vs Q E hr h => by
    obtain ⟨x, y, g, tabs, rfl, fx, fy, G, ht, k⟩ := h
    refine ⟨_, (pss_cons (ps_setLc (i := 2) (own := [("_law_message", 3)]) (g := gName 3) (tt := tYes) (by rfl) sc__law_begin.nd rfl rfl (sw_true rfl rfl rfl (by decide +kernel)) (k_piT (K := K) (pe_c (cal__law_computed T) hr (by decide) rfl (pa_cons (pv 0) (pa_cons (pv 1) pa_nil)))) (blkOk_by (N := ["_law_graph_here", "_law_tables", "_law_sent", "_law_message", "_law_row"]) (sc := defScope s__law_begin) (by decide +kernel)) (fun _ _ _ _ _ => (pg_name (i := 3) sc__law_begin.nd rfl (Or.inl rfl))) (fun _ _ _ _ _ => pts_nil) (fun _ _ _ _ _ => (pe_lst (pa_cons (pv 3) pa_nil))))
      (pss_one (ps_ret (pe_lst (pa_cons (pv 1) (pa_cons (pv 2) (pa_cons (pe_lc (own := [("_law_row", 4)]) (g := gName 4) (tt := tYes) rfl sc__law_begin.nd (k_piL (K := K) (pv 2)) (blkOk_by (N := ["_law_graph_here", "_law_tables", "_law_sent", "_law_message", "_law_row"]) (sc := defScope s__law_begin) (by decide +kernel)) (fun _ _ _ _ _ => (pg_name (i := 4) sc__law_begin.nd rfl (Or.inl rfl))) (fun _ _ _ _ _ => pts_nil) (fun _ _ _ _ _ => pe_int)) (pa_cons (pe_lst pa_nil) pa_nil)))))))), ?_⟩
    have hcl : (computed g tabs).length = (dirs g).length := by rw [computed_eq]; exact (iter_bd G ht _).len
    have he3 := G.e3
    have hdl := dirs_len g
    refine s_asgK (lcL (xs := computed g tabs) (enc := eM) (P := fun m σ2 H4 => ∃ z, σ2 = [some x, some y, none, some z, none] ∧ Fz H4 z (eM m)) (fun m => [eM m]) (w_tup (e_call (ea_cons (e_var rfl fx) (ea_cons (e_var rfl fy) ea_nil)) ⟨g, tabs, rfl, G, ht, rfl⟩)) rfl (by omega) (fun m hm z H4 s4 fz S kk => kk [some x, some y, none, some z, none] rfl ⟨z, rfl, fz⟩) (fun m _ => by simp [tupsB, tb_eM]) (fun m hm σ2 H4 s4 ⟨z, e, fz⟩ => by
      subst e
      exact el_lst (ea_cons (e_var rfl fz) ea_nil)) fun p ps H1 s1 ep hnd hfr pr => ?_)
    show tLst (tCons _ (tCons _ (tCons _ (tCons _ tNil)))) _ _ _
    refine l4_go (e_var rfl (fy.same s1)) (at_var rfl) (el_map1 (xs := computed g tabs) (enc := fun m => .list [eM m]) (g := fun _ => .int 0) (w_list (e_var rfl (Fz.lst ep (fz_pair pr)))) (by omega) (fun _ _ => rfl) (fun m hm z H3 s3 fz => e_int)) (el_lst ea_nil) fun tv pk xk pw xw H2 H3 H4 s2 ftv nk s3 ek fk nw s4 ew fw a na => ?_
    cases fw
    have s24 := (s2.trans s3).trans s4
    have sA := same_new (o := .lst [tv, .ref p, .ref pk, .ref pw]) na
    have pr4 : Paired (fun b m => LL H4 b [eM m]) ps (computed g tabs) := paired_mem pr fun b hb m r => r.same s24
    have hk0 : ∀ b ∈ p :: ps, ∃ o, H1 b = some o := fun b hb => by
      rcases List.mem_cons.mp hb with rfl | hb
      · exact ⟨_, ep⟩
      · exact in_pair pr hb
    have hk1 : pk ∉ p :: ps := fun hb => by
      obtain ⟨o, e⟩ := hk0 _ hb
      rw [s2 _ _ e] at nk
      cases nk
    have hw1 : pw ∉ p :: ps := fun hb => by
      obtain ⟨o, e⟩ := hk0 _ hb
      rw [s3 _ _ (s2 _ _ e)] at nw
      cases nw
    have hw2 : pw ≠ pk := fun e => by
      rw [e, ek] at nw
      cases nw
    refine k a ⟨p, pk, pw, ps⟩ _ ((s1.trans s24).trans sA) (fun b hb => ?_) ⟨⟨tv, upd_same, ((ftv.same s3).same s4).same sA⟩, ?_, ?_⟩
    · rcases List.mem_cons.mp hb with rfl | hb
      · exact (s1.trans s24).free na
      · simp only [Ad.fp, List.mem_cons] at hb
        rcases hb with rfl | rfl | rfl | hb
        · exact hfr _ (by simp)
        · exact (s1.trans s2).free nk
        · exact ((s1.trans s2).trans s3).free nw
        · exact hfr _ (by simp [hb])
    · have hA : ∀ {b : Addr} {o : HO}, H4 b = some o → b ≠ a := fun e q => by
        rw [q, na] at e
        cases e
      refine ⟨sA _ _ (s24 _ _ ep), ?_, ?_, ⟨[], sA _ _ ew, .nil⟩, ?_⟩
      · show Paired (LM _) ps ((computed g tabs).map fun m => [m])
        have : ∀ {qs : List Addr} {l : List Msg}, Paired (fun b m => LL H4 b [eM m]) qs l → Paired (LM (upd H4 a (.lst [tv, .ref p, .ref pk, .ref pw]))) qs (l.map fun m => [m]) := by
          intro qs l q
          induction q with
          | nil => exact .nil
          | cons r _ ih => exact .cons (r.same sA) ih
        exact this pr4
      · show (upd H4 a _) pk = some (.lst ((List.replicate (computed g tabs).length 0).map fun (n : Nat) => V.int (n : Int)))
        rw [sA _ _ (s4 _ _ ek)]
        have e0 : ((computed g tabs).map fun _ => PyData.int 0) = (List.replicate (computed g tabs).length (0 : Int)).map PyData.int := by rw [List.map_replicate, List.map_const']
        rw [e0] at fk
        rw [fz_ints fk, List.map_replicate, List.map_replicate]
        rfl
      · have h1 : (p :: ps).Nodup := hnd
        rw [List.nodup_cons] at h1
        simp only [List.mem_cons, not_or] at hk1 hw1
        show (p :: pk :: pw :: ps).Nodup
        rw [List.nodup_cons, List.nodup_cons, List.nodup_cons]
        refine ⟨?_, ?_, hw1.2, h1.2⟩
        · simp only [List.mem_cons, not_or]
          exact ⟨fun e => hk1.1 e.symm, fun e => hw1.1 e.symm, h1.1⟩
        · simp only [List.mem_cons, not_or]
          exact ⟨fun e => hw2 e.symm, hk1.2⟩
    · intro hb
      have hin : ∃ o, H4 a = some o := by
        simp only [Ad.fp, List.mem_cons] at hb
        rcases hb with rfl | rfl | rfl | hb
        · exact ⟨_, s24 _ _ ep⟩
        · exact ⟨_, s4 _ _ ek⟩
        · exact ⟨_, ew⟩
        · exact in_pair pr4 hb
      obtain ⟨o, e⟩ := hin
      rw [na] at e
      cases e
end
end Tt

/-! Why the law refuses a command. -/
namespace Tt
open PySem PySem.Spec PyProof.Rows L2 RZ
open C8 (Cal Met Mak pe_c pe_mk pe_mt pe_mt0 pe_gc)
section
variable {P : Program} {w : World} {K : PySem.W.Frag} {mg : Str → Option Value} {base : Heap}
theorem noholdF {C : Prop} {b : Bool} (h : b = false) (k : b = true) : C := by
  rw [k] at h
  cases h
def pk (b : Bool) (x y : String) : Str := if b then Str.ofString y else Str.ofString x
def whyS (g : Gr) (t : Tk) : Cmd → Str
  | .set _ _ _ => Str.ofString ""
  | .rem n r => pk (decide (r ∈ (t.tabs.getD n []).map (·.1))) "missing" ""
  | .dlv i => pk (decide (t.way.length ≤ i)) "" "missing"
  | .dbl i => pk (decide (t.way.length ≤ i)) "" "missing"
  | .los i => pk (decide (t.way.length ≤ i)) "" "missing"
  | .res a b => pk (decide (b ∈ nbrs g a)) "neighbour" ""
  | .stl => Str.ofString ""
theorem pk_nil {b : Bool} {x : String} (h : Str.ofString x ≠ Str.ofString "") : decide (pk b x "" = Str.ofString "") = b := by
  cases b
  · exact decide_eq_false h
  · exact decide_eq_true rfl
theorem pk_nil2 {b : Bool} {x : String} (h : Str.ofString x ≠ Str.ofString "") : decide (pk b "" x = Str.ofString "") = !b := by
  cases b
  · exact decide_eq_true rfl
  · exact decide_eq_false h
theorem whyS_iff (g : Gr) (t : Tk) (c : Cmd) : decide (whyS g t c = Str.ofString "") = whyB g t c := by
  have h1 : Str.ofString "missing" ≠ Str.ofString "" := by decide +kernel
  have h2 : Str.ofString "neighbour" ≠ Str.ofString "" := by decide +kernel
  have h3 : ∀ i, (!decide (t.way.length ≤ i)) = decide (i < t.way.length) := fun i => by
    rw [← decide_not]
    exact decide_eq_decide.mpr (by omega)
  cases c with
  | set _ _ _ => exact decide_eq_true rfl
  | rem n r => exact pk_nil h1
  | dlv i => exact (pk_nil2 h1).trans (h3 i)
  | dbl i => exact (pk_nil2 h1).trans (h3 i)
  | los i => exact (pk_nil2 h1).trans (h3 i)
  | res a b => exact pk_nil h2
  | stl => exact decide_eq_true rfl
theorem e_int1 {σ : L2.St} {H : Hp} {te : TE} {b : Bool} (h : EF te σ H (.bool b)) : EF (tCB (fun xs H Q => (∃ i, xs = [.int i] ∧ Q (.int i) H) ∨ ∃ k, xs = [.bl k] ∧ Q (.int (if k then 1 else 0)) H) (tCons te tNil)) σ H (.int (if b then 1 else 0)) := e_cb (ea_cons h ea_nil) fun vs H1 s f Q q => by
  obtain ⟨v, rfl, fv⟩ := f.oneI
  obtain rfl := fv.blI
  exact .inr ⟨b, rfl, q _ H1 (Same.refl _) (.int _)⟩
theorem e_pick {σ : L2.St} {H : Hp} {te : TE} {b : Bool} {x y : String} (h : EF te σ H (.bool b)) : EF (tOp (rIxL K) (tLst (tCons (tC (.str (Str.ofString x))) (tCons (tC (.str (Str.ofString y))) tNil))) (tCB (fun xs H Q => (∃ i, xs = [.int i] ∧ Q (.int i) H) ∨ ∃ k, xs = [.bl k] ∧ Q (.int (if k then 1 else 0)) H) (tCons te tNil))) σ H (.str (pk b x y)) :=
  e_ixL (EL.ef (el_lst (ea_cons e_str (ea_cons e_str ea_nil)))) (e_int1 h) (by cases b <;> rfl)
def spLWhy : Sp := fun vs H Q E => ∃ x a A g t c cv, vs = [x, .ref a, cv] ∧ Fz H x (eG g) ∧ LT H a A t ∧ Fz H cv (Cmd.enc c) ∧ GOK g ∧ Good g t ∧ CmdOK g c ∧ ∀ v H', Same H H' → Fz H' v (.str (whyS g t c)) → Q v H'
theorem sc__law_why_not : FnScope ["_law_graph_here", "_law_talk", "_law_action_here", "_law_rows", "_law_row", "_law_cost"] ["_law_graph_here", "_law_talk", "_law_action_here"] (defScope s__law_why_not) := ⟨rfl, rfl, rfl, by decide +kernel, rfl, by decide +kernel, by decide +kernel⟩
theorem cal__law_why_not (T : Tx K mg) : Cal P w K mg base 2 "_law_why_not" spLWhy [] :=
  T.cal 54 54 rfl rfl sc__law_why_not (fun _ _ _ _ _ _ us hl => match us, hl with | [_, _, _], _ => rfl) (fun vs H Q E ⟨_, _, _, _, _, _, _, e, _⟩ => by rw [e]; rfl) fun f cdv A' outer s H vs Q E hr h => by
    obtain ⟨x, a, A, g, t, c, cv, rfl, fx, lt, fc, G, gd, ok, k⟩ := h
    refine ⟨_, (pss_cons (ps_if (pt_cmpR op_eq (pe_ix (k_ixT (K := K)) (pv 2) pe_int (fun _ _ => rfl)) pe_str (nomark _)) (pss_cons (ps_setLc (i := 3) (own := [("_law_row", 4), ("_law_cost", 5)]) (g := g2 K 4 5) (tt := tYes) (by rfl) sc__law_why_not.nd rfl rfl (sw_true rfl rfl rfl (by decide +kernel)) (k_piT (K := K) (pe_ix (k_ixT (K := K)) (pe_ix (k_ixL (K := K)) (pv 1) pe_int (fun _ _ => rfl)) (pe_ix (k_ixT (K := K)) (pv 2) pe_int (fun _ _ => rfl)) (fun _ _ => rfl))) (blkOk_by (N := ["_law_graph_here", "_law_talk", "_law_action_here", "_law_rows", "_law_row", "_law_cost"]) (sc := defScope s__law_why_not) (by decide +kernel)) (fun _ _ _ _ _ => (k_tg (K := K) (n := 2) (pgs_cons (pg_name (i := 4) sc__law_why_not.nd rfl (Or.inl rfl)) (pgs_cons (pg_name (i := 5) sc__law_why_not.nd rfl (Or.inl rfl)) pgs_nil)))) (fun _ _ _ _ _ => pts_nil) (fun _ _ _ _ _ => (pv 4)))
        (pss_one (ps_ret (pe_ix (k_ixL (K := K)) (pe_lst (pa_cons pe_str (pa_cons pe_str pa_nil))) (pe_callTy call_int1 (by rfl) T.n_int (by decide +kernel) (pa_cons (pe_cmpR (k_inD (K := K) (hu65 hr)) (pe_ix (k_ixT (K := K)) (pv 2) pe_int (fun _ _ => rfl)) (pv 3) (by rfl)) pa_nil)) (fun _ _ => rfl))))) pss_nil)
      (pss_cons (ps_if (pt_cmpR (k_in (K := K)) (pe_ix (k_ixT (K := K)) (pv 2) pe_int (fun _ _ => rfl)) (pe_lst (pa_cons pe_str (pa_cons pe_str (pa_cons pe_str pa_nil)))) (by rfl)) (pss_one (ps_ret (pe_ix (k_ixL (K := K)) (pe_lst (pa_cons pe_str (pa_cons pe_str pa_nil))) (pe_callTy call_int1 (by rfl) T.n_int (by decide +kernel) (pa_cons (pe_cmpR op_ge (pe_ix (k_ixT (K := K)) (pv 2) pe_int (fun _ _ => rfl)) (pe_callB (k_len (K := K)) (by rfl) T.n_len (by decide +kernel) (pa_cons (pe_ix (k_ixL (K := K)) (pv 1) pe_int (fun _ _ => rfl)) pa_nil)) (nomark _)) pa_nil)) (fun _ _ => rfl)))) pss_nil)
      (pss_cons (ps_if (pt_cmpR op_eq (pe_ix (k_ixT (K := K)) (pv 2) pe_int (fun _ _ => rfl)) pe_str (nomark _)) (pss_one (ps_ret (pe_ix (k_ixL (K := K)) (pe_lst (pa_cons pe_str (pa_cons pe_str pa_nil))) (pe_callTy call_int1 (by rfl) T.n_int (by decide +kernel) (pa_cons (pe_cmpR (k_in (K := K)) (pe_ix (k_ixT (K := K)) (pv 2) pe_int (fun _ _ => rfl)) (pe_c (cal__law_neighbours T) hr (by decide) rfl (pa_cons (pv 0) (pa_cons (pe_ix (k_ixT (K := K)) (pv 2) pe_int (fun _ _ => rfl)) pa_nil))) (by rfl)) pa_nil)) (fun _ _ => rfl)))) pss_nil)
      (pss_one (ps_ret pe_str))))), ?_⟩
    cases c with
    | rem n r =>
      have hn := ok.1
      have tabAt : atI (t.tabs.map eTab) ((n : Nat) : Int) = some (eTab (t.tabs.getD n [])) := map_at [] (by rw [gd.tabs.len]; exact hn)
      refine s_ifQ (t_test (e_eqS (e_ixT (e_var rfl fc) e_int (by rfl)) e_str)) (fun _ H1 s1 => ?_) fun h => noholdF h (by decide +kernel)
      have lt1 := lt.same s1
      refine s_asgL (el_map2 (xs := t.tabs.getD n []) (e1 := fun p => eR p.1) (e2 := fun p => .int p.2) (g := fun p => eR p.1) (w_tup (e_ixT (lt1.e_tables (at_var rfl)) (e_ixT (e_var rfl (fc.same s1)) e_int (by rfl)) tabAt)) (by have := (gd.tabs.ok n hn).few; omega) (fun _ _ => tb_eR _) (fun p hp y1 y2 H2 s2 g1 g2 => e_var rfl g1)) fun R rs H2 nR s2 eR2 fr => ?_
      refine EF.ret (d := .str (whyS g t (.rem n r))) (e_pick (e_inR (l := (t.tabs.getD n []).map (·.1)) (e_ixT (e_var rfl ((fc.same s1).same s2)) e_int (by rfl)) (EF.is (e_var rfl (Fz.lst eR2 fr)) (by rw [List.map_map]; rfl)))) fun v H3 s3 f3 => k v H3 ((s1.trans s2).trans s3) f3
    | dlv i =>
      refine s_ifQ (t_test (e_eqS (e_ixT (e_var rfl fc) e_int (by rfl)) e_str)) (fun h => nohold h (by decide +kernel)) fun _ H1 s1 => ?_
      refine s_ifQ (t_test (e_inS (neg := false) (ys := [Str.ofString "deliver", Str.ofString "double", Str.ofString "lose"]) (e_ixT (e_var rfl (fc.same s1)) e_int (by rfl)) (EL.ef (el_lst (ea_cons e_str (ea_cons e_str (ea_cons e_str ea_nil))))) (.inr rfl))) (fun _ H2 s2 => ?_) fun h => noholdF h (by decide +kernel)
      have s12 := s1.trans s2
      refine EF.ret (d := .str (whyS g t (.dlv i))) (e_pick ((e_ge (e_ixT (e_var rfl (fc.same s12)) e_int (by rfl)) (e_lenL ((lt.same s12).e_way (at_var rfl)))).is (e := .bool (decide (t.way.length ≤ i))) (by rw [List.length_map]; simp))) fun v H3 s3 f3 => k v H3 (s12.trans s3) f3
    | dbl i =>
      refine s_ifQ (t_test (e_eqS (e_ixT (e_var rfl fc) e_int (by rfl)) e_str)) (fun h => nohold h (by decide +kernel)) fun _ H1 s1 => ?_
      refine s_ifQ (t_test (e_inS (neg := false) (ys := [Str.ofString "deliver", Str.ofString "double", Str.ofString "lose"]) (e_ixT (e_var rfl (fc.same s1)) e_int (by rfl)) (EL.ef (el_lst (ea_cons e_str (ea_cons e_str (ea_cons e_str ea_nil))))) (.inr rfl))) (fun _ H2 s2 => ?_) fun h => noholdF h (by decide +kernel)
      have s12 := s1.trans s2
      refine EF.ret (d := .str (whyS g t (.dbl i))) (e_pick ((e_ge (e_ixT (e_var rfl (fc.same s12)) e_int (by rfl)) (e_lenL ((lt.same s12).e_way (at_var rfl)))).is (e := .bool (decide (t.way.length ≤ i))) (by rw [List.length_map]; simp))) fun v H3 s3 f3 => k v H3 (s12.trans s3) f3
    | los i =>
      refine s_ifQ (t_test (e_eqS (e_ixT (e_var rfl fc) e_int (by rfl)) e_str)) (fun h => nohold h (by decide +kernel)) fun _ H1 s1 => ?_
      refine s_ifQ (t_test (e_inS (neg := false) (ys := [Str.ofString "deliver", Str.ofString "double", Str.ofString "lose"]) (e_ixT (e_var rfl (fc.same s1)) e_int (by rfl)) (EL.ef (el_lst (ea_cons e_str (ea_cons e_str (ea_cons e_str ea_nil))))) (.inr rfl))) (fun _ H2 s2 => ?_) fun h => noholdF h (by decide +kernel)
      have s12 := s1.trans s2
      refine EF.ret (d := .str (whyS g t (.los i))) (e_pick ((e_ge (e_ixT (e_var rfl (fc.same s12)) e_int (by rfl)) (e_lenL ((lt.same s12).e_way (at_var rfl)))).is (e := .bool (decide (t.way.length ≤ i))) (by rw [List.length_map]; simp))) fun v H3 s3 f3 => k v H3 (s12.trans s3) f3
    | res p q =>
      refine s_ifQ (t_test (e_eqS (e_ixT (e_var rfl fc) e_int (by rfl)) e_str)) (fun h => nohold h (by decide +kernel)) fun _ H1 s1 => ?_
      refine s_ifQ (t_test (e_inS (neg := false) (ys := [Str.ofString "deliver", Str.ofString "double", Str.ofString "lose"]) (e_ixT (e_var rfl (fc.same s1)) e_int (by rfl)) (EL.ef (el_lst (ea_cons e_str (ea_cons e_str (ea_cons e_str ea_nil))))) (.inr rfl))) (fun h => nohold h (by decide +kernel)) fun _ H2 s2 => ?_
      have s12 := s1.trans s2
      refine s_ifQ (t_test (e_eqS (e_ixT (e_var rfl (fc.same s12)) e_int (by rfl)) e_str)) (fun _ H3 s3 => ?_) fun h => noholdF h (by decide +kernel)
      have s13 := s12.trans s3
      refine EF.ret (d := .str (whyS g t (.res p q))) (e_pick (e_inN (neg := false) (n := q) (l := nbrs g p) (e_ixT (e_var rfl (fc.same s13)) e_int (by rfl)) (EL.ef (e_callL (ea_cons (e_var rfl (fx.same s13)) (ea_cons (e_ixT (d := eN p) (e_var rfl (fc.same s13)) e_int (by rfl)) ea_nil)) ⟨g, p, rfl, G, rfl⟩)) (.inr rfl))) fun v H4 s4 f4 => k v H4 (s13.trans s4) f4
    | set n r cc =>
      refine s_ifQ (t_test (e_eqS (e_ixT (e_var rfl fc) e_int (by rfl)) e_str)) (fun h => nohold h (by decide +kernel)) fun _ H1 s1 => ?_
      refine s_ifQ (t_test (e_inS (neg := false) (ys := [Str.ofString "deliver", Str.ofString "double", Str.ofString "lose"]) (e_ixT (e_var rfl (fc.same s1)) e_int (by rfl)) (EL.ef (el_lst (ea_cons e_str (ea_cons e_str (ea_cons e_str ea_nil))))) (.inr rfl))) (fun h => nohold h (by decide +kernel)) fun _ H2 s2 => ?_
      have s12 := s1.trans s2
      refine s_ifQ (t_test (e_eqS (e_ixT (e_var rfl (fc.same s12)) e_int (by rfl)) e_str)) (fun h => nohold h (by decide +kernel)) fun _ H3 s3 => ?_
      exact EF.ret (d := .str (Str.ofString "")) e_str fun v H4 s4 f4 => k v H4 ((s12.trans s3).trans s4) f4
    | stl =>
      refine s_ifQ (t_test (e_eqS (e_ixT (e_var rfl fc) e_int (by rfl)) e_str)) (fun h => nohold h (by decide +kernel)) fun _ H1 s1 => ?_
      refine s_ifQ (t_test (e_inS (neg := false) (ys := [Str.ofString "deliver", Str.ofString "double", Str.ofString "lose"]) (e_ixT (e_var rfl (fc.same s1)) e_int (by rfl)) (EL.ef (el_lst (ea_cons e_str (ea_cons e_str (ea_cons e_str ea_nil))))) (.inr rfl))) (fun h => nohold h (by decide +kernel)) fun _ H2 s2 => ?_
      have s12 := s1.trans s2
      refine s_ifQ (t_test (e_eqS (e_ixT (e_var rfl (fc.same s12)) e_int (by rfl)) e_str)) (fun h => nohold h (by decide +kernel)) fun _ H3 s3 => ?_
      exact EF.ret (d := .str (Str.ofString "")) e_str fun v H4 s4 f4 => k v H4 ((s12.trans s3).trans s4) f4
end
end Tt

/-! The law performs a command. -/
namespace Tt
open PySem PySem.Spec PyProof.Rows L2 RZ
open C8 (Cal Met Mak pe_c pe_mk pe_mt pe_mt0 pe_gc)
section
variable {P : Program} {w : World} {K : PySem.W.Frag} {mg : Str → Option Value} {base : Heap}
theorem at1 (a b : PyData) (ds : List PyData) : atI (a :: b :: ds) 1 = some b := atI_nat (j := 1) rfl
theorem at2 (a b c : PyData) (ds : List PyData) : atI (a :: b :: c :: ds) 2 = some c := atI_nat (j := 2) rfl
theorem LT.setTabs {H : Hp} {a : Addr} {A : Ad} {t : Tk} (h : LT H a A t) {ts : List Tab} {v : V} (f : Fz H v (eTabs ts)) : LT (upd H a (.lst [v, .ref A.s, .ref A.k, .ref A.w])) a A { t with tabs := ts } := by
  obtain ⟨tv, e, _⟩ := h.i
  have tk := tk_upd (o' := .lst [v, .ref A.s, .ref A.k, .ref A.w]) e (fun xs z => by cases z)
  have r := h.r.move tk fun b hb => upd_ne (fun e => h.out (e ▸ hb))
  exact ⟨⟨v, upd_same, f.tk tk (tb_eTabs _)⟩, ⟨r.s, r.sent, r.k, r.w, r.nd⟩, h.out⟩
theorem LT.move {H H' : Hp} {a : Addr} {A : Ad} {t : Tk} (h : LT H a A t) (k : TK H H') (e : ∀ b ∈ a :: A.fp, H' b = H b) : LT H' a A t := by
  obtain ⟨tv, q, f⟩ := h.i
  exact ⟨⟨tv, (e a (by simp)).trans q, f.tk k (tb_eTabs _)⟩, h.r.move k fun b hb => e b (by simp [hb]), h.out⟩
def isTab : Cmd → Bool
  | .set _ _ _ => true
  | .rem _ _ => true
  | _ => false
def spLPerf : Sp := fun vs H Q E => ∃ x a A g t c cv, vs = [x, .ref a, cv] ∧ Fz H x (eG g) ∧ LT H a A t ∧ Fz H cv (Cmd.enc c) ∧ PerfOK g t c ∧ whyB g t c = true ∧ ∀ H', Fr (a :: A.fp) H H' → LT H' a A (perfT g t c).1 → Q (.int ((perfT g t c).2 : Nat)) H'
theorem sc__law_perform : FnScope ["_law_graph_here", "_law_talk", "_law_action_here", "_law_word", "_law_node", "_law_rows", "_law_at", "_law_number", "_law_pair"] ["_law_graph_here", "_law_talk", "_law_action_here"] (defScope s__law_perform) := ⟨rfl, rfl, rfl, by decide +kernel, rfl, by decide +kernel, by decide +kernel⟩
theorem cal__law_perform (T : Tx K mg) : Cal P w K mg base 7 "_law_perform" spLPerf [] :=
  T.cal 55 55 rfl rfl sc__law_perform (fun _ _ _ _ _ _ us hl => match us, hl with | [_, _, _], _ => rfl) (fun vs H Q E ⟨_, _, _, _, _, _, _, e, _⟩ => by rw [e]; rfl) fun f cdv A' outer s H vs Q E hr h => by
    obtain ⟨x, a, A, g, t, c, cv, rfl, fx, lt, fc, ok, hwhy, k⟩ := h
    refine ⟨_, (pss_cons (ps_set (i := 3) sc__law_perform.nd rfl (Or.inl rfl) (pe_ix (k_ixT (K := K)) (pv 2) pe_int (fun _ _ => rfl)))
      (pss_cons (ps_if (pt_cmpR op_eq (pv 3) pe_str (nomark _)) (pss_one (ps_ret (pe_c (cal__law_settle T) hr (by decide) rfl (pa_cons (pv 0) (pa_cons (pv 1) pa_nil))))) pss_nil)
      (pss_cons (ps_if (pt_cmpR (k_in (K := K)) (pv 3) (pe_lst (pa_cons pe_str (pa_cons pe_str pa_nil))) (by rfl)) (pss_cons (ps_set (i := 4) sc__law_perform.nd rfl (Or.inl rfl) (pe_ix (k_ixT (K := K)) (pv 2) pe_int (fun _ _ => rfl)))
        (pss_cons (ps_setLc (i := 5) (own := [("_law_pair", 8)]) (g := gName 8) (by rfl) sc__law_perform.nd rfl rfl (sw_true rfl rfl rfl (by decide +kernel)) (k_piT (K := K) (pe_ix (k_ixT (K := K)) (pe_ix (k_ixL (K := K)) (pv 1) pe_int (fun _ _ => rfl)) (pv 4) (fun _ _ => rfl))) (blkOk_by (N := ["_law_graph_here", "_law_talk", "_law_action_here", "_law_word", "_law_node", "_law_rows", "_law_at", "_law_number", "_law_pair"]) (sc := defScope s__law_perform) (by decide +kernel)) (fun _ _ _ _ _ => (pg_name (i := 8) sc__law_perform.nd rfl (Or.inl rfl))) (fun _ _ _ _ _ => (pts_one (pt_cmpR (k_neD (K := K) hr.units) (pe_ix (k_ixT (K := K)) (pv 8) pe_int (fun _ _ => rfl)) (pe_ix (k_ixT (K := K)) (pv 2) pe_int (fun _ _ => rfl)) (nomark _)))) (fun _ _ _ _ _ => (pv 8)))
        (pss_cons (ps_if (pt_cmpR op_eq (pv 3) pe_str (nomark _)) (pss_one (ps_expr (k_bm (K := K) PySem.F.plainAttrs_list PySem.F.slot_list_append PySem.F.type_list_append mt_append (pv 5) (pa_cons (pe_tup (pa_cons (pe_ix (k_ixT (K := K)) (pv 2) pe_int (fun _ _ => rfl)) (pa_cons (pe_ix (k_ixT (K := K)) (pv 2) pe_int (fun _ _ => rfl)) pa_nil))) pa_nil)))) pss_nil)
        (pss_cons (ps_asg (pe_op (k_catA (K := K)) (pe_op (k_catA (K := K)) (pe_slice (k_slA (K := K)) (pe_ix (k_ixL (K := K)) (pv 1) pe_int (fun _ _ => rfl)) po_none (po_some (pv 4))) (pe_tup (pa_cons (pe_callTy (k_tupOf (K := K)) (by rfl) T.n_tuple (by decide +kernel) (pa_cons (pe_callB (cr_sortedRC (K := K) (Nat.lt_of_le_of_lt (Nat.add_le_add_left (by decide : 2 ≤ 64) _) hr.units)) (by rfl) T.n_sorted (by decide +kernel) (pa_cons (pv 5) pa_nil)) pa_nil)) pa_nil))) (pe_slice (k_slA (K := K)) (pe_ix (k_ixL (K := K)) (pv 1) pe_int (fun _ _ => rfl)) (po_some (pe_op op_add (pv 4) pe_int)) po_none)) (pg_sub (pv 1) pe_int set_list))
        (pss_one (ps_ret (pe_c (cal__law_update T) hr (by decide) rfl (pa_cons (pv 0) (pa_cons (pv 1) (pa_cons (pv 4) pa_nil)))))))))) pss_nil)
      (pss_cons (ps_if (pt_cmpR op_eq (pv 3) pe_str (nomark _)) (pss_cons (ps_set (i := 6) sc__law_perform.nd rfl (Or.inl rfl) (k_bm (K := K) PySem.F.plainAttrs_list PySem.F.slot_list_index PySem.F.type_list_index (k_index (K := K) (hu65 hr)) (pe_c (cal__law_directions T) hr (by decide) rfl (pa_cons (pv 0) pa_nil)) (pa_cons (pe_tup (pa_cons (pe_ix (k_ixT (K := K)) (pv 2) pe_int (fun _ _ => rfl)) (pa_cons (pe_ix (k_ixT (K := K)) (pv 2) pe_int (fun _ _ => rfl)) pa_nil))) pa_nil)))
        (pss_cons (ps_if (pt_cmpR op_eq (pe_callB (k_len (K := K)) (by rfl) T.n_len (by decide +kernel) (pa_cons (pe_ix (k_ixL (K := K)) (pe_ix (k_ixL (K := K)) (pv 1) pe_int (fun _ _ => rfl)) (pv 6) (fun _ _ => rfl)) pa_nil)) pe_int (nomark _)) (pss_one (ps_ret pe_int)) pss_nil)
        (pss_cons (ps_expr (k_bm (K := K) PySem.F.plainAttrs_list PySem.F.slot_list_append PySem.F.type_list_append mt_append (pe_ix (k_ixL (K := K)) (pv 1) pe_int (fun _ _ => rfl)) (pa_cons (pe_tup (pa_cons (pv 6) (pa_cons (pe_op op_sub (pe_callB (k_len (K := K)) (by rfl) T.n_len (by decide +kernel) (pa_cons (pe_ix (k_ixL (K := K)) (pe_ix (k_ixL (K := K)) (pv 1) pe_int (fun _ _ => rfl)) (pv 6) (fun _ _ => rfl)) pa_nil)) pe_int) pa_nil))) pa_nil)))
        (pss_one (ps_ret pe_int))))) pss_nil)
      (pss_cons (ps_asg (pe_ix (k_ixL (K := K)) (pe_ix (k_ixL (K := K)) (pv 1) pe_int (fun _ _ => rfl)) (pe_ix (k_ixT (K := K)) (pv 2) pe_int (fun _ _ => rfl)) (fun _ _ => rfl)) (k_tg (K := K) (n := 2) (pgs_cons (pg_name (i := 6) sc__law_perform.nd rfl (Or.inl rfl)) (pgs_cons (pg_name (i := 7) sc__law_perform.nd rfl (Or.inl rfl)) pgs_nil))))
      (pss_cons (ps_if (pt_cmpR op_ne (pv 3) pe_str (nomark _)) (pss_one (ps_expr (k_bm (K := K) PySem.F.plainAttrs_list PySem.F.slot_list_pop PySem.F.type_list_pop mt_popAt (pe_ix (k_ixL (K := K)) (pv 1) pe_int (fun _ _ => rfl)) (pa_cons (pe_ix (k_ixT (K := K)) (pv 2) pe_int (fun _ _ => rfl)) pa_nil)))) pss_nil)
      (pss_cons (ps_if (pt_cmpR op_eq (pv 3) pe_str (nomark _)) (pss_one (ps_ret pe_int)) pss_nil)
      (pss_one (ps_ret (pe_c (cal__law_arrive T) hr (by decide) rfl (pa_cons (pv 0) (pa_cons (pv 1) (pa_cons (pv 6) (pa_cons (pv 7) pa_nil)))))))))))))), ?_⟩
    have G := ok.G
    have gd := ok.gd
    have hwl := ok.wl
    have hfl := ok.fl hwhy
    have he3 := G.e3
    have hdl := dirs_len g
    have hn4 := G.n4
    have frS : ∀ {H1 H2 : Hp}, Fr A.fp H1 H2 → Fr (a :: A.fp) H1 H2 := fun h => h.sub fun b hb => by simp [hb]
    by_cases hstl : c = .stl
    · subst hstl
      refine s_asg (d := S "settle") (e_ixT (e_var rfl fc) e_int (by rfl)) fun v1 H1 s1 f1 => ?_
      refine s_ifQ (t_test (e_eqS (e_var rfl f1) e_str)) (fun _ H2 s2 => ?_) fun h => noholdF h (by decide +kernel)
      have s12 := s1.trans s2
      show tCall spLSettle [] _ _ _ _ _
      refine lc2_go (e_var rfl (fx.same s12)) (at_var rfl) fun x3 H3 s3 f3 => ?_
      exact ⟨x3, a, A, g, t, rfl, f3, lt.same (s12.trans s3), G, ok.run rfl, fun H4 fr4 lt4 => k H4 (frS ((Fr.same (s12.trans s3)).trans fr4)) lt4⟩
    · by_cases hres : ∃ p q, c = .res p q
      · obtain ⟨p, q, rfl⟩ := hres
        refine s_asg (d := S "resend") (e_ixT (e_var rfl fc) e_int (by rfl)) fun v1 H1 s1 f1 => ?_
        refine s_ifQ (t_test (e_eqS (e_var rfl f1) e_str)) (fun h => nohold h (by decide +kernel)) fun _ H2 s2 => ?_
        refine s_ifQ (t_test (e_inS (neg := false) (ys := [Str.ofString "set", Str.ofString "remove"]) (e_var rfl (f1.same s2)) (EL.ef (el_lst (ea_cons e_str (ea_cons e_str ea_nil)))) (.inr rfl))) (fun h => nohold h (by decide +kernel)) fun _ H3 s3 => ?_
        refine s_ifQ (t_test (e_eqS (e_var rfl ((f1.same s2).same s3)) e_str)) (fun _ H4 s4 => ?_) fun h => noholdF h (by decide +kernel)
        have s14 := ((s1.trans s2).trans s3).trans s4
        have hd : (p, q) ∈ dirs g := by
          have hq : q ∈ nbrs g p := of_decide_eq_true hwhy
          exact (nbr_dir hq).2
        have hi := dix_lt hd
        have hk := gd.fit.kb _ hi
        have hsl : dix g p q < t.sent.length := by rw [gd.fit.sl]; exact hi
        refine s_asg (e_index (EL.ef (e_callL (ea_cons (e_var rfl (fx.same s14)) ea_nil) ⟨g, rfl, by omega, rfl⟩)) (e_tup (ea_cons (e_ixT (d := eN p) (e_var rfl (fc.same s14)) e_int (by rfl)) (ea_cons (e_ixT (d := eN q) (e_var rfl (fc.same s14)) e_int (by rfl)) ea_nil))) hd) fun v5 H5 s5 f5 => ?_
        obtain rfl := f5.intI
        have lt5 := lt.same (s14.trans s5)
        refine s_ifQ (t_test (e_eqI (e_lenL (lt5.e_snt (j := dix g p q) (at_var rfl) (e_var (i := 6) rfl (.int _)) hsl)) e_int)) (fun hz H6 s6 => ?_) fun hz H6 s6 => ?_
        · have hz' := of_decide_eq_true hz
          rw [List.length_map] at hz'
          have er : resT g t p q = (t, 0) := by
            unfold resT
            rw [if_pos (by omega)]
          have k' := k
          rw [show perfT g t (.res p q) = (t, 0) from er] at k'
          exact EF.ret (d := .int ((0 : Nat) : Int)) e_int fun v H7 s7 f7 => by
            obtain rfl := f7.intI
            exact k' H7 (Fr.same (((s14.trans s5).trans s6).trans s7)) (lt5.same (s6.trans s7))
        · have hz' := of_decide_eq_false hz
          rw [List.length_map] at hz'
          have er : resT g t p q = ({ t with way := t.way ++ [(dix g p q, (t.snt (dix g p q)).length - 1)] }, 1) := by
            unfold resT
            rw [if_neg (by omega)]
          have k' := k
          rw [show perfT g t (.res p q) = _ from er] at k'
          have lt6 := lt5.same s6
          obtain ⟨xs, ew, fw⟩ := lt6.r.w
          refine s_appVS ew (lt6.a_w (at_var rfl)) (e_tup (ea_cons (e_var rfl (.int _)) (ea_cons (EF.is (e := .int (((t.snt (dix g p q)).length - 1 : Nat) : Int)) (e_sub (e_lenL (lt6.e_snt (j := dix g p q) (at_var rfl) (e_var (i := 6) rfl (.int _)) hsl)) e_int) (by rw [List.length_map, Int.ofNat_sub (by omega)]; rfl)) ea_nil))) (by rw [fw.len, List.length_map]; omega) fun v7 H7 s7 f7 => ?_
          have lt7 := lt6.same s7
          have fr8 : Fr A.fp H7 (upd H7 A.w (.lst (xs ++ [v7]))) := fr_upd (by simp)
          have lt8 := lt7.with fr8 (lt7.r.setW (w' := t.way ++ [(dix g p q, (t.snt (dix g p q)).length - 1)]) (by
            rw [List.map_append]
            exact (fw.same s7).snoc f7)) rfl
          refine EF.ret (d := .int ((1 : Nat) : Int)) e_int fun v H9 s9 f9 => ?_
          obtain rfl := f9.intI
          exact k' H9 (frS (((Fr.same (((s14.trans s5).trans s6).trans s7)).trans fr8).trans (Fr.same s9))) (lt8.same s9)
      · by_cases htab : isTab c = true
        · obtain ⟨z, n, r, co, rest, henc, hp, hn, hrow, hz⟩ : ∃ (z : Str) (n : Nat) (r : Row) (co : Option Int) (rest : List PyData), c.enc = .tuple (.str z :: eN n :: eR r :: rest) ∧ perfT g t c = setT g t n r co ∧ n < g.n ∧ RowOK g.vals (g.sc n) r ∧ ((z = Str.ofString "set" ∧ ∃ cc, co = some cc ∧ rest = [.int cc]) ∨ (z = Str.ofString "remove" ∧ co = none)) := by
            cases c with
            | set n r cc => exact ⟨_, n, r, some cc, [.int cc], rfl, rfl, ok.cok.1, ok.cok.2.1, .inl ⟨rfl, cc, rfl, rfl⟩⟩
            | rem n r => exact ⟨_, n, r, none, [], rfl, rfl, ok.cok.1, ok.cok.2, .inr ⟨rfl, rfl⟩⟩
            | _ => cases htab
          rw [henc] at fc
          rw [hp] at k hfl
          have htn : n < t.tabs.length := by rw [gd.tabs.len]; exact hn
          have hfew := ok.tl n
          have htl := gd.tabs.len
          have tok := gd.tabs.ok n hn
          have tabAt : atI (t.tabs.map eTab) (n : Int) = some (eTab (t.tabs.getD n [])) := map_at [] htn
          refine s_asg (d := .str z) (e_ixT (e_var rfl fc) e_int (at0 _ _)) fun v1 H1 s1 f1 => ?_
          refine s_ifQ (t_test (e_eqS (e_var rfl f1) e_str)) (fun h => nohold h (by rcases hz with ⟨rfl, _⟩ | ⟨rfl, _⟩ <;> decide +kernel)) fun _ H2 s2 => ?_
          refine s_ifQ (t_test (e_inS (neg := false) (ys := [Str.ofString "set", Str.ofString "remove"]) (e_var rfl (f1.same s2)) (EL.ef (el_lst (ea_cons e_str (ea_cons e_str ea_nil)))) (.inr rfl))) (fun _ H3 s3 => ?_) fun h => noholdF h (by rcases hz with ⟨rfl, _⟩ | ⟨rfl, _⟩ <;> decide +kernel)
          have s13 := (s1.trans s2).trans s3
          refine s_asg (d := eN n) (e_ixT (e_var rfl (fc.same s13)) e_int (at1 _ _ _)) fun v4 H4 s4 f4 => ?_
          obtain rfl := f4.intI
          have s14 := s13.trans s4
          have lt4 := lt.same s14
          have fc4 := fc.same s14
          refine s_asgL (el_flt1 (xs := t.tabs.getD n []) (enc := eP) (f := fun p => !decide (p.1 = r)) (g := eP) (w_tup (e_ixT (lt4.e_tables (at_var rfl)) (e_var rfl (.int _)) tabAt)) (by omega) (fun _ _ _ => tb_eP _) (fun p hp y H5 s5 fy =>
            ⟨t_test (e_neR (e_ixT (e_var rfl fy) e_int (by rfl)) (e_ixT (e_var rfl (fc4.same s5)) e_int (at2 _ _ _ _))), fun _ => e_var rfl fy⟩)) fun pl xl H5 nl s5 el fl => ?_
          have hpl : pl ∉ a :: A.fp := fun hb => by
            rcases List.mem_cons.mp hb with h | h
            · obtain ⟨_, q, _⟩ := lt4.i
              rw [h, q] at nl
              cases nl
            · obtain ⟨ys, e⟩ := lt4.r.lst h
              rw [nl] at e
              cases e
          have lt5 := lt4.same s5
          have s15 := s14.trans s5
          have f15 : Fz H5 v1 (.str z) := (((f1.same s2).same s3).same s4).same s5
          have nlH : H pl = none := s14.free nl
          refine s_ifC (fun σ2 H6 => σ2 = [some x, some (.ref a), some cv, some v1, some (.int (n : Nat)), some (.ref pl), none, none, none] ∧ LT H6 a A t ∧ Same H H6 ∧ ∃ xs, H6 pl = some (.lst xs) ∧ FzAll H6 xs (((t.tabs.getD n []).filter (fun p => !decide (p.1 = r)) ++ (match (generalizing := false) co with
            | some x => [(r, x)]
            | none => [])).map eP)) (t_test (e_eqS (e_var rfl f15) e_str)) (fun W hW hb H6 s6 => ?_) (fun hb H6 s6 => ?_) ?_
          · have hb' := of_decide_eq_true hb
            rcases hz with ⟨_, cc, rfl, rfl⟩ | ⟨h, _⟩
            · have hlen := List.length_filter_le (fun p : Row × Int => !decide (p.1 = r)) (t.tabs.getD n [])
              refine s_appV (Q := fun _ _ => True) (s6 _ _ el) (at_var rfl) (e_tup (ea_cons (e_ixT (e_var rfl (fc4.same (s5.trans s6))) e_int (at2 _ _ _ _)) (ea_cons (e_ixT (d := .int cc) (e_var rfl (fc4.same (s5.trans s6))) e_int (by rfl)) ea_nil))) ?_ fun v H7 s7 fv => hW _ _ ⟨rfl, ?_, ?_, _, upd_same, ?_⟩
              · rw [fl.len, List.length_map]
                omega
              · have tk3 : TK H7 (upd H7 pl (.lst (xl ++ [v]))) := tk_upd (s7 _ _ (s6 _ _ el)) (fun xs z => by cases z)
                exact (lt5.same (s6.trans s7)).move tk3 fun b hb => upd_ne (fun e => hpl (e ▸ hb))
              · exact same_mut ((s15.trans s6).trans s7) nlH
              · have tk3 : TK H7 (upd H7 pl (.lst (xl ++ [v]))) := tk_upd (s7 _ _ (s6 _ _ el)) (fun xs z => by cases z)
                rw [List.map_append]
                exact ((fl.same (s6.trans s7)).tk tk3 (tupsB_map tb_eP)).snoc (fv.tk tk3 (tb_eP (r, cc)))
            · rw [h] at hb'
              exact absurd hb' (by decide +kernel)
          · have hb' := of_decide_eq_false hb
            rcases hz with ⟨h, _⟩ | ⟨_, rfl⟩
            · exact absurd h hb'
            · refine ⟨rfl, lt5.same s6, s15.trans s6, _, s6 _ _ el, ?_⟩
              show FzAll H6 xl ((_ ++ []).map eP)
              rw [List.append_nil]
              exact fl.same s6
          · rintro σ2 H6 ⟨rfl, lt6, s06, xs, exs, fxs⟩
            have hnd := tab_rows (t.tabs.getD n []) r co tok.nd
            obtain ⟨tv, ea, _⟩ := lt6.i
            refine s_setL (d := eTabs (t.tabs.set n (tabT (t.tabs.getD n []) r co))) ((e_catA (e_catA (e_slTo (n := n) (lt6.e_tables (at_var rfl)) (e_var rfl (.int _))) (e_tup (ea_cons (e_tupL (EL.ef (el_sortedRC (e_var rfl (Fz.lst exs fxs)) hnd))) ea_nil)) (by simp; omega)) (e_slFrom (n := n + 1) (lt6.e_tables (at_var rfl)) ((e_add (e_var rfl (.int _)) e_int).is (by simp))) (by simp; omega)).is (congrArg PyData.tuple (set_cut (x := tabT (t.tabs.getD n []) r co) htn))) (at_var rfl) ea (j := 0) e_int (by simp) fun v7 H7 s7 f7 => ?_
            show tRet _ _ _ (upd H7 a (.lst [v7, .ref A.s, .ref A.k, .ref A.w]))
            have lt8 := (lt6.same s7).setTabs f7
            have fr8 : Fr (a :: A.fp) H (upd H7 a (.lst [v7, .ref A.s, .ref A.k, .ref A.w])) := (Fr.same (s06.trans s7)).trans (fr_upd (by simp))
            have fx8 : Fz (upd H7 a (.lst [v7, .ref A.s, .ref A.k, .ref A.w])) x (eG g) := (fx.same (s06.trans s7)).tk (tk_upd (s7 _ _ ea) (fun xs z => by cases z)) (tb_eG _)
            generalize upd H7 a (.lst [v7, .ref A.s, .ref A.k, .ref A.w]) = H8 at lt8 fr8 fx8 ⊢
            have gd8 := gd.setTabs (tabs_set gd.tabs hn (tabT_ok (c := co) tok hfew hrow).1)
            show tCall spLUpd [] _ _ _ _ _
            refine lc3_go (e_var rfl fx8) (at_var rfl) (e_var rfl (.int _)) fun x9 y9 H9 s9 g9 h9 => ?_
            obtain rfl := h9.intI
            exact ⟨x9, a, A, g, _, n, rfl, g9, lt8.same s9, G, hn, gd8.tabs, gd8.km.ms G, gd8.fit, Nat.le_trans hfl (by decide), fun H10 fr10 lt10 => k H10 ((fr8.trans (Fr.same s9)).trans (frS fr10)) lt10⟩
        · obtain ⟨z, i, henc, hw, hxs⟩ : ∃ (z : Str) (i : Nat), c.enc = .tuple [.str z, eN i] ∧ whyB g t c = decide (i < t.way.length) ∧ ((z = Str.ofString "deliver" ∧ c = .dlv i) ∨ (z = Str.ofString "double" ∧ c = .dbl i) ∨ (z = Str.ofString "lose" ∧ c = .los i)) := by
            cases c with
            | dlv i => exact ⟨_, i, rfl, rfl, .inl ⟨rfl, rfl⟩⟩
            | dbl i => exact ⟨_, i, rfl, rfl, .inr (.inl ⟨rfl, rfl⟩)⟩
            | los i => exact ⟨_, i, rfl, rfl, .inr (.inr ⟨rfl, rfl⟩)⟩
            | set _ _ _ => exact absurd rfl htab
            | rem _ _ => exact absurd rfl htab
            | res p q => exact absurd ⟨p, q, rfl⟩ hres
            | stl => exact absurd rfl hstl
          rw [henc] at fc
          have hi : i < t.way.length := by
            rw [hw] at hwhy
            exact of_decide_eq_true hwhy
          have hwb := gd.wb (t.way.getD i (0, 0)) (by
            rw [List.getD_eq_getElem?_getD, List.getElem?_eq_getElem hi]
            exact List.getElem_mem hi)
          refine s_asg (d := .str z) (e_ixT (e_var rfl fc) e_int (by rfl)) fun v1 H1 s1 f1 => ?_
          refine s_ifQ (t_test (e_eqS (e_var rfl f1) e_str)) (fun h => nohold h (by rcases hxs with ⟨rfl, _⟩ | ⟨rfl, _⟩ | ⟨rfl, _⟩ <;> decide +kernel)) fun _ H2 s2 => ?_
          refine s_ifQ (t_test (e_inS (neg := false) (ys := [Str.ofString "set", Str.ofString "remove"]) (e_var rfl (f1.same s2)) (EL.ef (el_lst (ea_cons e_str (ea_cons e_str ea_nil)))) (.inr rfl))) (fun h => nohold h (by rcases hxs with ⟨rfl, _⟩ | ⟨rfl, _⟩ | ⟨rfl, _⟩ <;> decide +kernel)) fun _ H3 s3 => ?_
          refine s_ifQ (t_test (e_eqS (e_var rfl ((f1.same s2).same s3)) e_str)) (fun h => nohold h (by rcases hxs with ⟨rfl, _⟩ | ⟨rfl, _⟩ | ⟨rfl, _⟩ <;> decide +kernel)) fun _ H4 s4 => ?_
          have s14 := ((s1.trans s2).trans s3).trans s4
          have f14 : Fz H4 v1 (.str z) := ((f1.same s2).same s3).same s4
          have lt4 := lt.same s14
          refine s_asg2 (e_ixL (lt4.e_way (at_var rfl)) (e_ixT (d := eN i) (e_var rfl (fc.same s14)) e_int (by rfl)) (map_at (0, 0) hi)) fun v6 v7 H5 s5 f6 f7 => ?_
          obtain rfl := f6.intI
          obtain rfl := f7.intI
          have lt5 := lt4.same s5
          have s15 := s14.trans s5
          have f15 := f14.same s5
          refine s_ifC (fun σ2 H6 => σ2 = [some x, some (.ref a), some cv, some v1, none, none, some (.int ((t.way.getD i (0, 0)).1 : Nat)), some (.int ((t.way.getD i (0, 0)).2 : Nat)), none] ∧ Fr A.fp H5 H6 ∧ LT H6 a A (if z = Str.ofString "double" then t else offW t i)) (t_test (e_neS (e_var rfl f15) e_str)) (fun W hW hne H6 s6 => ?_) (fun heq H6 s6 => ?_) ?_
          · have hne' : z ≠ Str.ofString "double" := by simpa using hne
            have lt6 := lt5.same s6
            obtain ⟨xs, ew, fw⟩ := lt6.r.w
            have hil : i < xs.length := by rw [fw.len, List.length_map]; exact hi
            refine s_popD (lt6.a_w (at_var rfl)) ew (e_ixT (d := eN i) (e_var rfl (fc.same (s15.trans s6))) e_int (by rfl)) (List.getElem?_eq_getElem hil) (by rw [fw.len, List.length_map]; omega) fun H7 s7 => hW _ _ ⟨rfl, ?_, ?_⟩
            · exact (Fr.same (s6.trans s7)).trans (fr_upd (by simp))
            · rw [if_neg hne']
              have lt7 := lt6.same s7
              exact lt7.with (fr_upd (by simp)) (lt7.r.setW (w' := t.way.eraseIdx i) (by
                rw [DT.map_erase]
                exact (fw.same s7).eraseIdx i)) rfl
          · have heq' : z = Str.ofString "double" := by simpa using heq
            refine ⟨rfl, Fr.same s6, ?_⟩
            rw [if_pos heq']
            exact lt5.same s6
          · rintro σ2 H6 ⟨rfl, fr6, lt6⟩
            have tk6 := lt5.r.tk fr6
            have f16 : Fz H6 v1 (.str z) := f15.tk tk6 (by
              show PyData.strOk z = true
              rcases hxs with ⟨rfl, _⟩ | ⟨rfl, _⟩ | ⟨rfl, _⟩ <;> decide +kernel)
            have fx6 : Fz H6 x (eG g) := (fx.same s15).tk tk6 (tb_eG _)
            have fr06 : Fr (a :: A.fp) H H6 := (Fr.same s15).trans (frS fr6)
            refine s_ifQ (t_test (e_eqS (e_var rfl f16) e_str)) (fun hl H7 s7 => ?_) fun hl H7 s7 => ?_
            · have hl' := of_decide_eq_true hl
              have hc : c = .los i := by
                rcases hxs with ⟨h1, _⟩ | ⟨h1, _⟩ | ⟨_, h2⟩
                · rw [hl'] at h1; exact absurd h1 (by decide +kernel)
                · rw [hl'] at h1; exact absurd h1 (by decide +kernel)
                · exact h2
              subst hc
              rw [if_neg (by rw [hl']; decide +kernel)] at lt6
              refine EF.ret (d := .int ((0 : Nat) : Int)) e_int fun v H8 s8 f8 => ?_
              obtain rfl := f8.intI
              exact k H8 (fr06.trans (Fr.same (s7.trans s8))) (lt6.same (s7.trans s8))
            · have hl' := of_decide_eq_false hl
              show tCall spLArr [] _ _ _ _ _
              refine lc4_go (e_var rfl (fx6.same s7)) (at_var rfl) (e_var rfl (.int _)) (e_var rfl (.int _)) fun x8 y8 z8 H8 s8 f8 g8 h8 => ?_
              obtain rfl := g8.intI
              obtain rfl := h8.intI
              have lt8 := (lt6.same s7).same s8
              rcases hxs with ⟨h1, rfl⟩ | ⟨h1, rfl⟩ | ⟨h1, _⟩
              · rw [if_neg (by rw [h1]; decide +kernel)] at lt8
                exact ⟨x8, a, A, g, offW t i, _, _, rfl, f8, lt8, G, off_way gd i, hwb.1, hwb.2, Nat.le_trans hfl (by decide), fun H9 fr9 lt9 => k H9 ((fr06.trans (Fr.same (s7.trans s8))).trans (frS fr9)) lt9⟩
              · rw [if_pos h1] at lt8
                exact ⟨x8, a, A, g, t, _, _, rfl, f8, lt8, G, gd, hwb.1, hwb.2, Nat.le_trans hfl (by decide), fun H9 fr9 lt9 => k H9 ((fr06.trans (Fr.same (s7.trans s8))).trans (frS fr9)) lt9⟩
              · exact absurd h1 hl'
end
end Tt

/-! The law's stream of digits. -/
namespace Tt
open PySem PySem.Spec PyProof.Rows L2 RZ
open C8 (Cal Met Mak pe_c pe_mk pe_mt pe_mt0 pe_gc)
section
variable {P : Program} {w : World} {K : PySem.W.Frag} {mg : Str → Option Value} {base : Heap}
/-- a stream at a, its numbers at sc -/
def ST (H : Hp) (a sc : Addr) : Prop := ∃ (c : Int) (k : Nat) (ns : List Int), 0 ≤ c ∧ a ≠ sc ∧ H a = some (.lst [.ref sc, .int c, .int (k : Int)]) ∧ H sc = some (.lst (ns.map V.int))
theorem ST.same {H H' : Hp} {a sc : Addr} (h : ST H a sc) (s : Same H H') : ST H' a sc := by
  obtain ⟨c, k, ns, h0, hn, e1, e2⟩ := h
  exact ⟨c, k, ns, h0, hn, s _ _ e1, s _ _ e2⟩
theorem ST.fr {H H' : Hp} {a sc : Addr} {fp : List Addr} (h : ST H a sc) (k : Fr fp H H') (n1 : a ∉ fp) (n2 : sc ∉ fp) : ST H' a sc := by
  obtain ⟨c, j, ns, h0, hn, e1, e2⟩ := h
  exact ⟨c, j, ns, h0, hn, k _ _ n1 e1, k _ _ n2 e2⟩
theorem ST.tk {H H' : Hp} {a sc : Addr} (h : ST H a sc) (k : Fr [a] H H') : TK H H' := fun b xs e => k b _ (fun hb => by
  obtain ⟨c, j, ns, h0, hn, e1, e2⟩ := h
  rw [List.mem_singleton.mp hb, e1] at e
  cases e) e
section
variable {σ : L2.St} {H : Hp} {td te : TE} {a : Addr} {xs : List V}
theorem e_elt {j : Nat} {i : Int} (hd : AtD td σ H a) (e : H a = some (.lst xs)) (hx : xs[j]? = some (.int i)) : EF (tOp (rIxL K) td (tC (.int (j : Int)))) σ H (.int i) := fun H1 s Q q =>
  hd H1 s _ ⟨a, _, (j : Int), .int i, rfl, rfl, SqL.of (s _ _ e), atI_nat hx, q _ H1 (Same.refl _) (.int _)⟩
theorem at_elt {j : Nat} {b : Addr} (hd : AtD td σ H a) (e : H a = some (.lst xs)) (hx : xs[j]? = some (.ref b)) : AtD (tOp (rIxL K) td (tC (.int (j : Int)))) σ H b := fun H1 s Q q =>
  hd H1 s _ ⟨a, _, (j : Int), .ref b, rfl, rfl, SqL.of (s _ _ e), atI_nat hx, q⟩
theorem e_abs {i : Int} (h : EF te σ H (.int i)) : EF (tCB (fun xs H Q => ∃ i, xs = [.int i] ∧ Q (.int (if i < 0 then -i else i)) H) (tCons te tNil)) σ H (.int (if i < 0 then -i else i)) := e_cb (ea_cons h ea_nil) fun vs H1 s f Q q => by
  obtain ⟨v, rfl, fv⟩ := f.oneI
  obtain rfl := fv.intI
  exact ⟨i, rfl, q _ H1 (Same.refl _) (.int _)⟩
theorem e_intI {i : Int} (h : EF te σ H (.int i)) : EF (tCB (fun xs H Q => (∃ i, xs = [.int i] ∧ Q (.int i) H) ∨ ∃ k, xs = [.bl k] ∧ Q (.int (if k then 1 else 0)) H) (tCons te tNil)) σ H (.int i) := e_cb (ea_cons h ea_nil) fun vs H1 s f Q q => by
  obtain ⟨v, rfl, fv⟩ := f.oneI
  obtain rfl := fv.intI
  exact .inl ⟨i, rfl, q _ H1 (Same.refl _) (.int _)⟩
theorem e_mod {ta tb : TE} {i j : Int} (ha : EF ta σ H (.int i)) (hb : EF tb σ H (.int j)) (h : 0 < j) : EF (tOp (rI (fun _ j => 0 < j) fun i j => .int (i % j)) ta tb) σ H (.int (i % j)) := e_I ha hb h fun _ => .int _
theorem e_fdivN {ta tb : TE} {i j : Int} (ha : EF ta σ H (.int i)) (hb : EF tb σ H (.int j)) (h : CDivN i j) : EF (tOp (rI CDivN fun i j => .int (i.fdiv j)) ta tb) σ H (.int (i.fdiv j)) := e_I ha hb h fun _ => .int _
theorem e_pow {ta tb : TE} {i j : Int} (ha : EF ta σ H (.int i)) (hb : EF tb σ H (.int j)) (h : CPow i j) : EF (tOp (rI CPow fun i j => .int (i ^ j.toNat)) ta tb) σ H (.int (i ^ j.toNat)) := e_I ha hb h fun _ => .int _
theorem s_setL1 {to ti tv : TE} {p : Addr} {j : Nat} {d : PyData} {D : Ends} (hv : EF tv σ H d) (ho : AtD to σ H p) (e : H p = some (.lst xs)) (hi : EF ti σ H (.int (j : Int))) (hj : j < xs.length)
    (k : ∀ v H1, Same H H1 → Fz H1 v d → D.nx σ (upd H1 p (.lst (xs.set j v)))) : tAsg tv (gSub to ti rSetL) D σ H :=
  s_setL (D := D) (w := fun D' σ' H' => D.nx σ' H') hv ho e hi hj k
end
theorem fz_intsI (H : Hp) : ∀ l : List Int, FzAll H (l.map V.int) (l.map PyData.int)
  | [] => .nil
  | n :: l => .cons (.int _) (fz_intsI H l)
def spNext : Sp := fun vs H Q E => ∃ a sc m, vs = [.ref a, .int (m : Nat)] ∧ ST H a sc ∧ 1 ≤ m ∧ m < 1073741824 ∧ ∀ (d : Nat) H', d < m → Fr [a] H H' → ST H' a sc → Q (.int (d : Nat)) H'
theorem sc__law_next : FnScope ["_law_stream_here", "_law_many", "_law_k", "_law_cell", "_law_digit"] ["_law_stream_here", "_law_many"] (defScope s__law_next) := ⟨rfl, rfl, rfl, by decide +kernel, rfl, by decide +kernel, by decide +kernel⟩
theorem cal__law_next (T : Tx K mg) : Cal P w K mg base 1 "_law_next" spNext [] :=
  T.cal 37 37 rfl rfl sc__law_next (fun _ _ _ _ _ _ us hl => match us, hl with | [_, _], _ => rfl) (fun vs H Q E ⟨_, _, _, e, _⟩ => by rw [e]; rfl) fun f cdv A' outer s H vs Q E hr h => by
    obtain ⟨a, sc, m, rfl, st, hm1, hm2, k⟩ := h
    refine ⟨_, (pss_cons (ps_if (pt_cmpR op_eq (pe_ix (k_ixL (K := K)) (pv 0) pe_int (fun _ _ => rfl)) pe_int (nomark _)) (pss_cons (ps_set (i := 2) sc__law_next.nd rfl (Or.inl rfl) (pe_ix (k_ixL (K := K)) (pv 0) pe_int (fun _ _ => rfl)))
        (pss_cons (ps_set (i := 3) sc__law_next.nd rfl (Or.inl rfl) (pe_op op_add pe_int (pv 2)))
        (pss_cons (ps_if (pt_cmpR op_lt (pv 2) (pe_callB (k_len (K := K)) (by rfl) T.n_len (by decide +kernel) (pa_cons (pe_ix (k_ixL (K := K)) (pv 0) pe_int (fun _ _ => rfl)) pa_nil)) (nomark _)) (pss_one (ps_set (i := 3) sc__law_next.nd rfl (Or.inl rfl) (pe_callB call_abs (by rfl) T.n_abs (by decide +kernel) (pa_cons (pe_ix (k_ixL (K := K)) (pe_ix (k_ixL (K := K)) (pv 0) pe_int (fun _ _ => rfl)) (pv 2) (fun _ _ => rfl)) pa_nil)))) pss_nil)
        (pss_cons (ps_if (pt_cmpR op_lt (pv 3) (pe_op op_pow pe_int pe_int) (nomark _)) (pss_cons (ps_set (i := 3) sc__law_next.nd rfl (Or.inl rfl) (pe_op op_mod (pe_callTy call_int1 (by rfl) T.n_int (by decide +kernel) (pa_cons (pe_op op_add (pe_op op_add (pe_op op_mul (pv 3) pe_int) (pe_op op_mul (pv 2) pe_int)) pe_int) pa_nil)) pe_int))
          (pss_one (ps_set (i := 3) sc__law_next.nd rfl (Or.inl rfl) (pe_op op_add (pe_op op_mul (pe_op op_mod (pe_callTy call_int1 (by rfl) T.n_int (by decide +kernel) (pa_cons (pe_op op_add (pe_op op_mul (pv 3) pe_int) pe_int) pa_nil)) pe_int) pe_int) (pv 3))))) pss_nil)
        (pss_cons (ps_asg (pv 3) (pg_sub (pv 0) pe_int set_list))
        (pss_one (ps_asg (pe_op op_add (pv 2) pe_int) (pg_sub (pv 0) pe_int set_list)))))))) pss_nil)
      (pss_cons (ps_set (i := 4) sc__law_next.nd rfl (Or.inl rfl) (pe_op op_mod (pe_callTy call_int1 (by rfl) T.n_int (by decide +kernel) (pa_cons (pe_ix (k_ixL (K := K)) (pv 0) pe_int (fun _ _ => rfl)) pa_nil)) (pv 1)))
      (pss_cons (ps_asg (pe_op op_fdivN (pe_ix (k_ixL (K := K)) (pv 0) pe_int (fun _ _ => rfl)) (pv 1)) (pg_sub (pv 0) pe_int set_list))
      (pss_one (ps_ret (pv 4)))))), ?_⟩
    obtain ⟨c, kk, ns, hc, hn, ea, es⟩ := st
    refine s_ifC (fun σ2 H2 => ∃ (c : Int) (kk : Nat) (o2 o3 : Option V), 0 ≤ c ∧ σ2 = [some (.ref a), some (.int (m : Nat)), o2, o3, none] ∧ H2 a = some (.lst [.ref sc, .int c, .int (kk : Int)]) ∧ H2 sc = some (.lst (ns.map V.int)) ∧ Fr [a] H H2)
      (t_test (e_eqI (e_elt (j := 1) (at_var rfl) ea rfl) e_int)) (fun W hW _ H1 s1 => ?_) (fun _ H1 s1 => ⟨c, kk, _, _, hc, rfl, s1 _ _ ea, s1 _ _ es, Fr.same s1⟩) ?_
    · refine s_asg (e_elt (j := 2) (at_var rfl) (s1 _ _ ea) rfl) fun v2 H2 s2 f2 => ?_
      obtain rfl := f2.intI
      refine s_asg (e_add e_int (e_var rfl (.int (kk : Int)))) fun v3 H3 s3 f3 => ?_
      obtain rfl := f3.intI
      have s13 := (s1.trans s2).trans s3
      refine s_ifC (fun σ2 H4 => ∃ c : Int, 0 ≤ c ∧ σ2 = [some (.ref a), some (.int (m : Nat)), some (.int (kk : Int)), some (.int c), none] ∧ Same H H4)
        (t_test (e_lt (e_var rfl (.int (kk : Int))) (e_lenL (at_e (at_elt (j := 0) (at_var rfl) (s13 _ _ ea) rfl) (Fz.lst (s13 _ _ es) (fz_intsI _ ns)))))) (fun W2 hW2 hlt H4 s4 => ?_) (fun _ H4 s4 => ⟨7 + (kk : Int), by omega, rfl, s13.trans s4⟩) ?_
      · have hlt' : kk < ns.length := by
          have := of_decide_eq_true hlt
          rw [List.length_map] at this
          omega
        have s14 := s13.trans s4
        refine s_asg1 (e_abs (e_ixL (at_e (at_elt (j := 0) (at_var rfl) (s14 _ _ ea) rfl) (Fz.lst (s14 _ _ es) (fz_intsI _ ns))) (e_var rfl (.int (kk : Int))) (map_at (f := PyData.int) 0 hlt'))) fun v5 H5 s5 f5 => ?_
        obtain rfl := f5.intI
        exact hW2 _ _ ⟨_, by split <;> omega, rfl, s14.trans s5⟩
      · rintro σ2 H4 ⟨c4, hc4, rfl, s04⟩
        refine s_ifC (fun σ2 H5 => ∃ c : Int, 0 ≤ c ∧ σ2 = [some (.ref a), some (.int (m : Nat)), some (.int (kk : Int)), some (.int c), none] ∧ Same H H5)
          (t_test (e_lt (e_var rfl (.int c4)) (e_pow e_int e_int ⟨by decide, by decide, by decide⟩))) (fun W2 hW2 hlt H5 s5 => ?_) (fun _ H5 s5 => ⟨c4, hc4, rfl, s04.trans s5⟩) ?_
        · refine s_asg (e_mod (e_intI (e_add (e_add (e_mul (e_var rfl (.int c4)) e_int (.inr (by decide))) (e_mul (e_var rfl (.int (kk : Int))) e_int (.inr (by decide)))) e_int)) e_int (by decide)) fun v6 H6 s6 f6 => ?_
          obtain rfl := f6.intI
          refine s_asg1 (e_add (e_mul (e_mod (e_intI (e_add (e_mul (e_var rfl (.int _)) e_int (.inr (by decide))) e_int)) e_int (by decide)) e_int (.inr (by decide))) (e_var rfl (.int _))) fun v7 H7 s7 f7 => ?_
          obtain rfl := f7.intI
          exact hW2 _ _ ⟨_, Int.add_nonneg (Int.mul_nonneg (Int.emod_nonneg _ (by decide)) (by decide)) (Int.emod_nonneg _ (by decide)), rfl, ((s04.trans s5).trans s6).trans s7⟩
        · rintro σ2 H5 ⟨c5, hc5, rfl, s05⟩
          refine s_setL (e_var rfl (.int c5)) (at_var rfl) (s05 _ _ ea) (j := 1) e_int (by simp) fun v6 H6 s6 f6 => ?_
          obtain rfl := f6.intI
          have e6 : (upd H6 a (.lst [.ref sc, .int c5, .int (kk : Int)])) a = some (.lst [.ref sc, .int c5, .int (kk : Int)]) := upd_same
          have fr6 : Fr [a] H (upd H6 a (.lst [.ref sc, .int c5, .int (kk : Int)])) := (Fr.same (s05.trans s6)).trans (fr_upd (by simp))
          show tAsg _ _ _ _ (upd H6 a (.lst [.ref sc, .int c5, .int (kk : Int)]))
          refine s_setL1 (d := .int ((kk + 1 : Nat) : Int)) ((e_add (e_var rfl (.int (kk : Int))) e_int).is (by simp)) (at_var rfl) e6 (j := 2) e_int (by simp) fun v7 H7 s7 f7 => ?_
          obtain rfl := f7.intI
          have fr8 : Fr [a] H (upd H7 a (.lst [.ref sc, .int c5, .int ((kk + 1 : Nat) : Int)])) := (fr6.trans (Fr.same s7)).trans (fr_upd (by simp))
          exact hW _ _ ⟨c5, kk + 1, _, _, hc5, rfl, upd_same, fr8 _ _ (by simpa using Ne.symm hn) es, fr8⟩
    · rintro σ2 H2 ⟨c2, k2, o2, o3, hc2, rfl, ea2, es2, fr2⟩
      have hm0 : (0 : Int) < (m : Int) := by omega
      refine s_asg (e_mod (e_intI (e_elt (j := 1) (at_var rfl) ea2 rfl)) (e_var rfl (.int _)) hm0) fun v3 H3 s3 f3 => ?_
      obtain rfl := f3.intI
      refine s_setL (e_fdivN (e_elt (j := 1) (at_var rfl) (s3 _ _ ea2) rfl) (e_var rfl (.int _)) ⟨by omega, by simpa using hm2⟩) (at_var rfl) (s3 _ _ ea2) (j := 1) e_int (by simp) fun v4 H4 s4 f4 => ?_
      obtain rfl := f4.intI
      have fr4 : Fr [a] H (upd H4 a (.lst [.ref sc, .int (c2.fdiv m), .int (k2 : Int)])) := (fr2.trans (Fr.same (s3.trans s4))).trans (fr_upd (by simp))
      show tRet _ _ _ (upd H4 a (.lst [.ref sc, .int (c2.fdiv m), .int (k2 : Int)]))
      have h1 := Int.emod_nonneg c2 (show (m : Int) ≠ 0 by omega)
      have h2 := Int.emod_lt_of_pos c2 hm0
      refine EF.ret (e_var rfl (.int _)) fun v5 H5 s5 f5 => ?_
      obtain rfl := f5.intI
      have : (c2 % (m : Int)) = ((c2 % (m : Int)).toNat : Int) := by omega
      rw [this]
      exact k _ H5 (by omega) (fr4.trans (Fr.same s5)) ⟨c2.fdiv m, k2, ns, Int.fdiv_nonneg hc2 (by omega), hn, s5 _ _ upd_same, s5 _ _ (fr4 _ _ (by simpa using Ne.symm hn) es)⟩
end
end Tt

/-! The law's small words: a stream, an integer, equal values. -/
namespace Tt
open PySem PySem.Spec PyProof.Rows L2 RZ
open C8 (Cal Met Mak pe_c pe_mk pe_mt pe_mt0 pe_gc)
section
variable {P : Program} {w : World} {K : PySem.W.Frag} {mg : Str → Option Value} {base : Heap}
theorem l3_sq {σ : L2.St} {H : Hp} {i : Nat} {p : Addr} {xs : List V} {x y : Int} {Q : VK} (hi : σ[i]? = some (some (.ref p))) (e : SqL K H p xs) (k : ∀ q, H q = none → ∀ a, (upd H q (.lst xs)) a = none → Q (.ref a) (upd (upd H q (.lst xs)) a (.lst [.ref q, .int x, .int y]))) :
    tLst (tCons (tCB (rLstQ K) (tCons (tVar i) tNil)) (tCons (tC (.int x)) (tCons (tC (.int y)) tNil))) σ H Q := ⟨_, hi, p, xs, rfl, .inl e, fun q nq => ⟨(by decide : 3 ≤ sizeLine), fun a na => k q nq a na⟩⟩
def spStream (K : PySem.W.Frag) : Sp := fun vs H Q E => ∃ (p : Addr) (ns : List Int), vs = [.ref p] ∧ SqL K H p (ns.map V.int) ∧ ∀ a sc H', Same H H' → H a = none → H sc = none → ST H' a sc → Q (.ref a) H'
theorem sc__law_stream : FnScope ["_law_script"] ["_law_script"] (defScope s__law_stream) := ⟨rfl, rfl, rfl, by decide +kernel, rfl, by decide +kernel, by decide +kernel⟩
theorem cal__law_stream (T : Tx K mg) : Cal P w K mg base 1 "_law_stream" (spStream K) [] :=
  T.cal 36 36 rfl rfl sc__law_stream (fun _ _ _ _ _ _ us hl => match us, hl with | [_], _ => rfl) (fun vs H Q E ⟨_, _, e, _⟩ => by rw [e]; rfl) fun f cdv A' outer s H vs Q E hr h => by
    obtain ⟨p, ns, rfl, hs, k⟩ := h
    refine ⟨_, (pss_one (ps_ret (pe_lst (pa_cons (pe_callTy (k_lstOf (K := K)) (by rfl) T.n_list (by decide +kernel) (pa_cons (pv 0) pa_nil)) (pa_cons pe_int (pa_cons pe_int pa_nil)))))), ?_⟩
    show tLst (tCons (tCB (rLstQ K) (tCons (tVar 0) tNil)) (tCons (tC (.int 0)) (tCons (tC (.int 0)) tNil))) _ _ _
    refine l3_sq rfl hs fun q nq a na => ?_
    have s := same_new (o := .lst (ns.map V.int)) nq
    have sA := same_new (o := .lst [.ref q, .int 0, .int 0]) na
    have e : (upd H q (.lst (ns.map V.int))) q = some (.lst (ns.map V.int)) := upd_same
    refine k a q _ (s.trans sA) (s.free na) nq ⟨0, 0, ns, Int.le_refl _, fun z => ?_, upd_same, sA _ _ e⟩
    rw [z, e] at na
    cases na
def isI : PyData → Bool
  | .int _ => true
  | _ => false
def NoDict : PyData → Prop
  | .dict _ => False
  | _ => True
def R_isint (ds : List PyData) (d : PyData) : Prop := ∃ x, ds = [x] ∧ NoDict x ∧ d = .bool (isI x)
theorem sc__law_is_integer : FnScope ["_law_actual"] ["_law_actual"] (defScope s__law_is_integer) := ⟨rfl, rfl, rfl, by decide +kernel, rfl, by decide +kernel, by decide +kernel⟩
theorem cal__law_is_integer (T : Tx K mg) : Cal P w K mg base 1 "_law_is_integer" (spP R_isint) [] :=
  T.cal 38 38 rfl rfl sc__law_is_integer (fun _ _ _ _ _ _ us hl => match us, hl with | [_], _ => rfl) (spP_len fun ds d ⟨_, e, _⟩ => by rw [e]; rfl) fun f cdv A outer s H vs Q E hr h => by
    obtain ⟨ds, d, fv, ⟨x, rfl, nd, rfl⟩, k⟩ := h
    obtain ⟨v, rfl, f1⟩ := fv.oneI
    refine ⟨_, (pss_one (ps_ret (pe_and (pe_callB (k_isi (K := K)) (by rfl) T.n_isinstance (by decide +kernel) (pa_cons (pv 0) (pa_cons (pe_bltn (v := .ty "int") (by rfl) T.n_int (by decide +kernel) rfl) pa_nil))) (pe_one (pe_not (pe_callB (k_isi (K := K)) (by rfl) T.n_isinstance (by decide +kernel) (pa_cons (pv 0) (pa_cons (pe_bltn (v := .ty "bool") (by rfl) T.n_bool (by decide +kernel) rfl) pa_nil)))))))), ?_⟩
    cases x with
    | none => exact EF.ret (d := .bool false) (e_andV (b := false) (c := false) (e_isi (e_var rfl f1) ki_NoneType_int) fun h => nomatch h) k
    | bool b => exact EF.ret (d := .bool false) (e_andV (b := true) (c := false) (e_isi (e_var rfl f1) ki_bool_int) fun h => e_notV (b := true) (e_isi (e_var rfl f1) ki_bool_bool)) k
    | int i => exact EF.ret (d := .bool true) (e_andV (b := true) (c := true) (e_isi (e_var rfl f1) ki_int_int) fun h => e_notV (b := false) (e_isi (e_var rfl f1) ki_int_bool)) k
    | str s => exact EF.ret (d := .bool false) (e_andV (b := false) (c := false) (e_isi (e_var rfl f1) ki_str_int) fun h => nomatch h) k
    | list l => exact EF.ret (d := .bool false) (e_andV (b := false) (c := false) (e_isi (e_var rfl f1) ki_list_int) fun h => nomatch h) k
    | tuple l => exact EF.ret (d := .bool false) (e_andV (b := false) (c := false) (e_isi (e_var rfl f1) ki_tuple_int) fun h => nomatch h) k
    | dict l => exact nd.elim
def eqJ : PyData → Int → Bool
  | .int i, j => decide (i = j)
  | _, _ => false
def Fl : Nat → PyData → Prop
  | _, .int _ => True
  | _, .str s => PyData.strOk s = true
  | n + 1, .tuple ds => ds.length ≤ 1000 ∧ ∀ x ∈ ds, Fl n x
  | _, _ => False
def EqC (n : Nat) (a b : PyData) (q : Bool) : Prop := (∃ j, b = .int j ∧ NoDict a ∧ q = eqJ a j) ∨ (∃ x y, a = .bool x ∧ b = .bool y ∧ q = (x == y)) ∨ (a = b ∧ Fl n a ∧ q = true)
def R_eq (n : Nat) (ds : List PyData) (d : PyData) : Prop := ∃ a b q, ds = [a, b] ∧ EqC n a b q ∧ d = .bool q
def spEq : Nat → Sp
  | 0 => fun _ _ _ _ => False
  | n + 1 => spP (R_eq n)
theorem eqv_int (i j : Int) : PyData.eqv (.int i) (.int j) = decide (i = j) := by
  show (i == j) = _
  rw [Bool.eq_iff_iff]
  simp
theorem eqv_bool (x y : Bool) : PyData.eqv (.bool x) (.bool y) = (x == y) := by
  cases x <;> cases y <;> rfl
theorem eqv_str (s : Str) : PyData.eqv (.str s) (.str s) = true := by
  simp [PyData.eqv]
theorem shp_int (i : Int) : SeqAt.shaped (.int i) = true := shp rfl (by simp [PyData.depth])
theorem shp_bool (i : Bool) : SeqAt.shaped (.bool i) = true := shp rfl (by simp [PyData.depth])
theorem shp_str {s : Str} (h : PyData.strOk s = true) : SeqAt.shaped (.str s) = true := shp h (by simp [PyData.depth])
theorem tup_at {ds : List PyData} {i : Nat} (h : i < ds.length) : atI ds (i : Int) = some (ds.getD i .none) := atI_nat (by simp [List.getD_eq_getElem?_getD, h])
theorem getD_memD {ds : List PyData} {i : Nat} (h : i < ds.length) : ds.getD i .none ∈ ds := by
  rw [List.getD_eq_getElem?_getD, List.getElem?_eq_getElem h]
  exact List.getElem_mem h
theorem sc__law_equal : FnScope ["_law_actual", "_law_due", "_law_at"] ["_law_actual", "_law_due"] (defScope s__law_equal) := ⟨rfl, rfl, rfl, by decide +kernel, rfl, by decide +kernel, by decide +kernel⟩
theorem cal_eq_n (T : Tx K mg) : ∀ n, Cal P w K mg base (n + 2) "_law_equal" (spEq n) []
  | 0 => T.cal 39 39 rfl rfl sc__law_equal (fun _ _ _ _ _ _ us hl => match us, hl with | [_, _], _ => rfl) (fun vs H Q E h => h.elim) fun f cdv A outer s H vs Q E hr h => h.elim
  | n + 1 => have ih : Cal P w K mg base (n + 2) "_law_equal" (spEq n) [] := cal_eq_n T n
    T.cal 39 39 rfl rfl sc__law_equal (fun _ _ _ _ _ _ us hl => match us, hl with | [_, _], _ => rfl) (spP_len fun ds d ⟨_, _, _, e, _⟩ => by rw [e]; rfl) fun f cdv A outer s H vs Q E hr h => by
    obtain ⟨ds, d, fv, ⟨a, b, q, rfl, hc, rfl⟩, k⟩ := h
    obtain ⟨x, y, rfl, f1, f2⟩ := fv.I2
    refine ⟨_, (pss_cons (ps_if (pt_cmpR op_isN (pv 1) pe_non (nomark _)) (pss_one (ps_ret (pe_cmpR op_isN (pv 0) pe_non (nomark _)))) pss_nil)
      (pss_cons (ps_if (pt_val (pe_callB (k_isi (K := K)) (by rfl) T.n_isinstance (by decide +kernel) (pa_cons (pv 1) (pa_cons (pe_bltn (v := .ty "bool") (by rfl) T.n_bool (by decide +kernel) rfl) pa_nil)))) (pss_one (ps_ret (pe_and (pe_callB (k_isi (K := K)) (by rfl) T.n_isinstance (by decide +kernel) (pa_cons (pv 0) (pa_cons (pe_bltn (v := .ty "bool") (by rfl) T.n_bool (by decide +kernel) rfl) pa_nil))) (pe_one (pe_cmpR (k_eqD (K := K) hr.units) (pv 0) (pv 1) (nomark _)))))) pss_nil)
      (pss_cons (ps_if (pt_val (pe_callB (k_isi (K := K)) (by rfl) T.n_isinstance (by decide +kernel) (pa_cons (pv 1) (pa_cons (pe_bltn (v := .ty "int") (by rfl) T.n_int (by decide +kernel) rfl) pa_nil)))) (pss_one (ps_ret (pe_and (pe_c (cal__law_is_integer T) hr (by omega) rfl (pa_cons (pv 0) pa_nil)) (pe_one (pe_cmpR (k_eqD (K := K) hr.units) (pv 0) (pv 1) (nomark _)))))) pss_nil)
      (pss_cons (ps_if (pt_val (pe_callB (k_isi (K := K)) (by rfl) T.n_isinstance (by decide +kernel) (pa_cons (pv 1) (pa_cons (pe_bltn (v := .ty "str") (by rfl) T.n_str (by decide +kernel) rfl) pa_nil)))) (pss_one (ps_ret (pe_and (pe_callB (k_isi (K := K)) (by rfl) T.n_isinstance (by decide +kernel) (pa_cons (pv 0) (pa_cons (pe_bltn (v := .ty "str") (by rfl) T.n_str (by decide +kernel) rfl) pa_nil))) (pe_one (pe_cmpR (k_eqD (K := K) hr.units) (pv 0) (pv 1) (nomark _)))))) pss_nil)
      (pss_cons (ps_if (PW.pt (pw_and (pt_val (pe_callB (k_isi (K := K)) (by rfl) T.n_isinstance (by decide +kernel) (pa_cons (pv 1) (pa_cons (pe_bltn (v := .ty "tuple") (by rfl) T.n_tuple (by decide +kernel) rfl) pa_nil)))) (pw_and1 (pt_not (pt_val (pe_callB (k_isi (K := K)) (by rfl) T.n_isinstance (by decide +kernel) (pa_cons (pv 0) (pa_cons (pe_bltn (v := .ty "tuple") (by rfl) T.n_tuple (by decide +kernel) rfl) pa_nil)))))))) (pss_one (ps_ret pe_bl)) pss_nil)
      (pss_cons (ps_if (PW.pt (pw_and (pt_val (pe_callB (k_isi (K := K)) (by rfl) T.n_isinstance (by decide +kernel) (pa_cons (pv 1) (pa_cons (pe_bltn (v := .ty "list") (by rfl) T.n_list (by decide +kernel) rfl) pa_nil)))) (pw_and1 (pt_not (pt_val (pe_callB (k_isi (K := K)) (by rfl) T.n_isinstance (by decide +kernel) (pa_cons (pv 0) (pa_cons (pe_bltn (v := .ty "list") (by rfl) T.n_list (by decide +kernel) rfl) pa_nil)))))))) (pss_one (ps_ret pe_bl)) pss_nil)
      (pss_cons (ps_if (pt_cmpR op_ne (pe_callB (k_len (K := K)) (by rfl) T.n_len (by decide +kernel) (pa_cons (pv 0) pa_nil)) (pe_callB (k_len (K := K)) (by rfl) T.n_len (by decide +kernel) (pa_cons (pv 1) pa_nil)) (nomark _)) (pss_one (ps_ret pe_bl)) pss_nil)
      (pss_one (ps_ret (pe_callB (k_all (K := K)) (by rfl) T.n_all (by decide +kernel) (pa_cons (pe_lc (own := [("_law_at", 2)]) (g := gName 2) (tt := tYes) rfl sc__law_equal.nd (pi_range1 (by rfl) T.n_range (pa_cons (pe_callB (k_len (K := K)) (by rfl) T.n_len (by decide +kernel) (pa_cons (pv 1) pa_nil)) pa_nil)) (blkOk_by (N := ["_law_actual", "_law_due", "_law_at"]) (sc := defScope s__law_equal) (by decide +kernel)) (fun _ _ _ _ _ => (pg_name (i := 2) sc__law_equal.nd rfl (Or.inl rfl))) (fun _ _ _ _ _ => pts_nil) (fun _ _ _ _ _ => (pe_c ih hr (by omega) rfl (pa_cons (pe_ix (k_ixT (K := K)) (pv 0) (pv 2) (fun _ _ => rfl)) (pa_cons (pe_ix (k_ixT (K := K)) (pv 1) (pv 2) (fun _ _ => rfl)) pa_nil))))) pa_nil))))))))))), ?_⟩
    rcases hc with ⟨j, rfl, nd, rfl⟩ | ⟨p, r, rfl, rfl, rfl⟩ | ⟨rfl, hfl, rfl⟩
    · refine s_ifQ (t_test (e_isN (e_var rfl f2))) (fun h => nomatch h) fun _ H1 s1 => ?_
      refine s_ifQ (t_B (e_isi (e_var rfl (f2.same s1)) ki_int_bool)) (fun h => nomatch h) fun _ H2 s2 => ?_
      refine s_ifQ (t_B (e_isi (e_var rfl ((f2.same s1).same s2)) ki_int_int)) (fun _ H3 s3 => ?_) (fun h => nomatch h)
      have s13 := (s1.trans s2).trans s3
      have hcall : ∀ q, isI a = q → EF (tCall (spP R_isint) [] E0 (tCons (tVar 0) tNil)) [some x, some y, none] H3 (.bool q) := fun q e => e_call (ea_cons (e_var rfl (f1.same s13)) ea_nil) ⟨a, rfl, nd, by rw [e]⟩
      cases a with
      | int i => exact EF.ret ((e_andV (hcall true rfl) fun _ => e_eqD (e_var rfl (f1.same s13)) (e_var rfl (f2.same s13)) (shp_int _) (shp_int _)).is (by rw [eqv_int]; rfl)) fun v H4 s4 f4 => k v H4 (s13.trans s4) f4
      | none => exact EF.ret (d := .bool false) (e_andV (b := false) (c := false) (hcall false rfl) fun h => nomatch h) fun v H4 s4 f4 => k v H4 (s13.trans s4) f4
      | bool _ => exact EF.ret (d := .bool false) (e_andV (b := false) (c := false) (hcall false rfl) fun h => nomatch h) fun v H4 s4 f4 => k v H4 (s13.trans s4) f4
      | str _ => exact EF.ret (d := .bool false) (e_andV (b := false) (c := false) (hcall false rfl) fun h => nomatch h) fun v H4 s4 f4 => k v H4 (s13.trans s4) f4
      | list _ => exact EF.ret (d := .bool false) (e_andV (b := false) (c := false) (hcall false rfl) fun h => nomatch h) fun v H4 s4 f4 => k v H4 (s13.trans s4) f4
      | tuple _ => exact EF.ret (d := .bool false) (e_andV (b := false) (c := false) (hcall false rfl) fun h => nomatch h) fun v H4 s4 f4 => k v H4 (s13.trans s4) f4
      | dict _ => exact nd.elim
    · refine s_ifQ (t_test (e_isN (e_var rfl f2))) (fun h => nomatch h) fun _ H1 s1 => ?_
      refine s_ifQ (t_B (e_isi (e_var rfl (f2.same s1)) ki_bool_bool)) (fun _ H2 s2 => ?_) (fun h => nomatch h)
      have s12 := s1.trans s2
      exact EF.ret ((e_andV (b := true) (e_isi (e_var rfl (f1.same s12)) ki_bool_bool) fun _ => e_eqD (e_var rfl (f1.same s12)) (e_var rfl (f2.same s12)) (shp_bool _) (shp_bool _)).is (by rw [eqv_bool]; rfl)) fun v H4 s4 f4 => k v H4 (s12.trans s4) f4
    · cases a with
      | int i =>
        refine s_ifQ (t_test (e_isN (e_var rfl f2))) (fun h => nomatch h) fun _ H1 s1 => ?_
        refine s_ifQ (t_B (e_isi (e_var rfl (f2.same s1)) ki_int_bool)) (fun h => nomatch h) fun _ H2 s2 => ?_
        refine s_ifQ (t_B (e_isi (e_var rfl ((f2.same s1).same s2)) ki_int_int)) (fun _ H3 s3 => ?_) (fun h => nomatch h)
        have s13 := (s1.trans s2).trans s3
        exact EF.ret ((e_andV (b := true) (e_call (ea_cons (e_var rfl (f1.same s13)) ea_nil) ⟨.int i, rfl, trivial, rfl⟩) fun _ => e_eqD (e_var rfl (f1.same s13)) (e_var rfl (f2.same s13)) (shp_int _) (shp_int _)).is (by rw [eqv_int]; simp)) fun v H4 s4 f4 => k v H4 (s13.trans s4) f4
      | str st =>
        have hs : PyData.strOk st = true := by
          cases n <;> exact hfl
        refine s_ifQ (t_test (e_isN (e_var rfl f2))) (fun h => nomatch h) fun _ H1 s1 => ?_
        refine s_ifQ (t_B (e_isi (e_var rfl (f2.same s1)) ki_str_bool)) (fun h => nomatch h) fun _ H2 s2 => ?_
        refine s_ifQ (t_B (e_isi (e_var rfl ((f2.same s1).same s2)) ki_str_int)) (fun h => nomatch h) fun _ H3 s3 => ?_
        have s13 := (s1.trans s2).trans s3
        refine s_ifQ (t_B (e_isi (e_var rfl (f2.same s13)) ki_str_str)) (fun _ H4 s4 => ?_) (fun h => nomatch h)
        have s14 := s13.trans s4
        exact EF.ret ((e_andV (b := true) (e_isi (e_var rfl (f1.same s14)) ki_str_str) fun _ => e_eqD (e_var rfl (f1.same s14)) (e_var rfl (f2.same s14)) (shp_str hs) (shp_str hs)).is (by rw [eqv_str]; rfl)) fun v H5 s5 f5 => k v H5 (s14.trans s5) f5
      | tuple ds =>
        cases n with
        | zero => exact hfl.elim
        | succ m =>
          obtain ⟨hl, hx⟩ : ds.length ≤ 1000 ∧ ∀ x ∈ ds, Fl m x := hfl
          refine s_ifQ (t_test (e_isN (e_var rfl f2))) (fun h => nomatch h) fun _ H1 s1 => ?_
          refine s_ifQ (t_B (e_isi (e_var rfl (f2.same s1)) ki_tuple_bool)) (fun h => nomatch h) fun _ H2 s2 => ?_
          have s12 := s1.trans s2
          refine s_ifQ (t_B (e_isi (e_var rfl (f2.same s12)) ki_tuple_int)) (fun h => nomatch h) fun _ H3 s3 => ?_
          have s13 := s12.trans s3
          refine s_ifQ (t_B (e_isi (e_var rfl (f2.same s13)) ki_tuple_str)) (fun h => nomatch h) fun _ H4 s4 => ?_
          have s14 := s13.trans s4
          refine s_ifQ (t_and (b := true) (c := false) (t_B (e_isi (e_var rfl (f2.same s14)) ki_tuple_tuple)) fun _ => t_not (b := true) (t_B (e_isi (e_var rfl (f1.same s14)) ki_tuple_tuple))) (fun h => nomatch h) fun _ H5 s5 => ?_
          have s15 := s14.trans s5
          refine s_ifQ (t_and (b := false) (c := false) (t_B (e_isi (e_var rfl (f2.same s15)) ki_tuple_list)) fun h => nomatch h) (fun h => nomatch h) fun _ H6 s6 => ?_
          have s16 := s15.trans s6
          refine s_ifQ (t_test (e_neI (e_lenT (e_var rfl (f1.same s16))) (e_lenT (e_var rfl (f2.same s16))))) (fun h => nohold h (by simp)) fun _ H7 s7 => ?_
          have s17 := s16.trans s7
          refine EF.ret ((e_all (bs := (List.range ds.length).map fun _ => true) (EF.is (EL.ef (el_map1 (xs := List.range ds.length) (enc := eN) (g := fun _ => .bool true) (w_rng1 (n := ds.length) (ea_cons (e_lenT (e_var rfl (f2.same s17))) ea_nil) (by omega)) (by rw [List.length_range]; omega) (fun _ _ => rfl) (fun i hi y1 H8 s8 g1 =>
            e_call (R := R_eq m) (ea_cons (e_ixT (d := ds.getD i .none) (e_var rfl ((f1.same s17).same s8)) (e_var rfl g1) (tup_at (List.mem_range.mp hi))) (ea_cons (e_ixT (d := ds.getD i .none) (e_var rfl ((f2.same s17).same s8)) (e_var rfl g1) (tup_at (List.mem_range.mp hi))) ea_nil)) ⟨_, _, true, rfl, .inr (.inr ⟨rfl, hx _ (getD_memD (List.mem_range.mp hi)), rfl⟩), rfl⟩))) (by rw [List.map_map]; rfl))).is (by simp [List.all_map])) fun v H9 s9 f9 => k v H9 (s17.trans s9) f9
      | none => cases n <;> exact hfl.elim
      | bool _ => cases n <;> exact hfl.elim
      | list _ => cases n <;> exact hfl.elim
      | dict _ => cases n <;> exact hfl.elim
theorem cal__law_equal (T : Tx K mg) : Cal P w K mg base 8 "_law_equal" (spP (R_eq 5)) [] := cal_eq_n T 6
end
end Tt

/-! The law's own reading of records. -/
namespace Tt
open PySem PySem.Spec PyProof.Rows L2 RZ
open C8 (Cal Met Mak pe_c pe_mk pe_mt pe_mt0 pe_gc)
section
variable {P : Program} {w : World} {K : PySem.W.Frag} {mg : Str → Option Value} {base : Heap}
def R_iscmd (ds : List PyData) (d : PyData) : Prop := ∃ x, ds = [x] ∧ ((∃ c, x = Cmd.enc c ∧ d = .bool true) ∨ ((x = .none ∨ ∃ i, x = .int i) ∧ d = .bool false))
def words7 : List Str := [Str.ofString "set", Str.ofString "remove", Str.ofString "deliver", Str.ofString "double", Str.ofString "lose", Str.ofString "resend", Str.ofString "settle"]
theorem enc_head (c : Cmd) : ∃ z ds, c.enc = .tuple (.str z :: ds) ∧ z ∈ words7 := by
  cases c with
  | set _ _ _ => exact ⟨_, _, rfl, by decide +kernel⟩
  | rem _ _ => exact ⟨_, _, rfl, by decide +kernel⟩
  | dlv _ => exact ⟨_, _, rfl, by decide +kernel⟩
  | dbl _ => exact ⟨_, _, rfl, by decide +kernel⟩
  | los _ => exact ⟨_, _, rfl, by decide +kernel⟩
  | res _ _ => exact ⟨_, _, rfl, by decide +kernel⟩
  | stl => exact ⟨_, _, rfl, by decide +kernel⟩
theorem sc__law_is_command : FnScope ["_law_value"] ["_law_value"] (defScope s__law_is_command) := ⟨rfl, rfl, rfl, by decide +kernel, rfl, by decide +kernel, by decide +kernel⟩
theorem cal__law_is_command (T : Tx K mg) : Cal P w K mg base 1 "_law_is_command" (spP R_iscmd) [] :=
  T.cal 58 58 rfl rfl sc__law_is_command (fun _ _ _ _ _ _ us hl => match us, hl with | [_], _ => rfl) (spP_len fun ds d ⟨_, e, _⟩ => by rw [e]; rfl) fun f cdv A outer s H vs Q E hr h => by
    obtain ⟨ds, d, fv, ⟨x, rfl, hx⟩, k⟩ := h
    obtain ⟨v, rfl, f1⟩ := fv.oneI
    refine ⟨_, (pss_one (ps_ret (pe_and (pe_callB (k_isi (K := K)) (by rfl) T.n_isinstance (by decide +kernel) (pa_cons (pv 0) (pa_cons (pe_bltn (v := .ty "tuple") (by rfl) T.n_tuple (by decide +kernel) rfl) pa_nil))) (pe_and (pe_cmpR op_gt (pe_callB (k_len (K := K)) (by rfl) T.n_len (by decide +kernel) (pa_cons (pv 0) pa_nil)) pe_int (nomark _)) (pe_one (pe_cmpR (k_in (K := K)) (pe_ix (k_ixT (K := K)) (pv 0) pe_int (fun _ _ => rfl)) (pe_lst (pa_cons pe_str (pa_cons pe_str (pa_cons pe_str (pa_cons pe_str (pa_cons pe_str (pa_cons pe_str (pa_cons pe_str pa_nil)))))))) (by rfl))))))), ?_⟩
    rcases hx with ⟨c, rfl, rfl⟩ | ⟨rfl | ⟨i, rfl⟩, rfl⟩
    · obtain ⟨z, ds, he, hz⟩ := enc_head c
      rw [he] at f1
      exact EF.ret ((e_andV (b := true) (e_isi (e_var rfl f1) ki_tuple_tuple) fun _ => e_andV (e_gt (e_lenT (e_var rfl f1)) e_int) fun _ => e_inS (neg := false) (ys := words7) (e_ixT (e_var rfl f1) e_int (at0 _ _)) (EL.ef (el_lst (ea_cons e_str (ea_cons e_str (ea_cons e_str (ea_cons e_str (ea_cons e_str (ea_cons e_str (ea_cons e_str ea_nil))))))))) (.inr rfl)).is (by simp [hz])) k
    · exact EF.ret (e_andV (b := false) (c := false) (e_isi (e_var rfl f1) ki_NoneType_tuple) fun h => nomatch h) k
    · exact EF.ret (e_andV (b := false) (c := false) (e_isi (e_var rfl f1) ki_int_tuple) fun h => nomatch h) k
/-- a loop over a tuple that stood before: the turns may change what was laid later -/
theorem s_forH {α : Type} {xs : List α} {enc : α → PyData} {i : Nat} {σ : L2.St} {H0 H : Hp} {v : V} {gt : TG} {tb w : TS} {D : Ends} (hv : σ[i]? = some (some v)) (f : Fz H0 v (.tuple (xs.map enc))) (s0 : Same H0 H)
    (Pv : Nat → L2.St → Hp → Prop) (h0 : Pv 0 σ H) (hS : ∀ i σ' H', Pv i σ' H' → Same H0 H')
    (hs : ∀ i x σ' H' y, xs[i]? = some x → Pv i σ' H' → Fz H' y (enc x) → gt y σ' H' fun σ2 H3 => tb { D with nx := Pv (i + 1), ct := Pv (i + 1), bk := w D } σ2 H3)
    (hd : ∀ σ' H', Pv xs.length σ' H' → w D σ' H') : tSeq (tFor (iTup K (tVar i)) gt tb) w D σ H := by
  obtain ⟨a, ys, rfl, ea, fa⟩ := f.tupI
  refine ⟨.ref a, hv, a, rfl, ⟨ys, SqT.of (s0 _ _ ea)⟩, ?_⟩
  have hl : ys.length = xs.length := by rw [fa.len, List.length_map]
  refine for_it (D := { D with nx := w D }) (walk_tup (K := K) (a := a) (xs := ys)) Pv h0 (fun i σ' H' _ p => SqT.of (hS i σ' H' p _ _ ea)) ?_ (fun σ' H' p => hd σ' H' (by rw [← hl]; exact p))
  rintro i y σ' H' H2 hi p ⟨rfl, hy⟩
  have hz : xs[i]? = some (xs[i]'(by omega)) := by simp [show i < xs.length by omega]
  obtain ⟨d, hd', fd⟩ := fa.getV hy
  rw [List.getElem?_map, hz] at hd'
  cases hd'
  exact hs i _ σ' H2 y hz p (fd.same (hS i σ' H2 p))
end
end Tt

/-! The law's own reading of records. -/
namespace Tt
open PySem PySem.Spec PyProof.Rows L2 RZ
open C8 (Cal Met Mak pe_c pe_mk pe_mt pe_mt0 pe_gc)
section
variable {P : Program} {w : World} {K : PySem.W.Frag} {mg : Str → Option Value} {base : Heap}
/-- few messages on the way, all along -/
def RunsW (g : Gr) : Tk → List Rec → Prop
  | _, [] => True
  | t, r :: rs => t.way.length ≤ 30 ∧ ∀ t', recT g t r = some t' → RunsW g t' rs
def LawOK (g : Gr) : Val → Prop
  | .recs rs => rs.length ≤ 1000 ∧ RunsOK g (emptyT g) rs ∧ RunsW g (emptyT g) rs
  | _ => True
def spLRt : Sp := fun vs H Q E => ∃ gv g rv v, vs = [gv, rv] ∧ Fz H gv (eG g) ∧ GOK g ∧ Fz H rv (Val.enc v) ∧ LawOK g v ∧ ∀ H', Same H H' → Q (.bl (valR g v)) H'
theorem e_lwhy {σ : L2.St} {H : Hp} {tg td tc : TE} {a : Addr} {A : Ad} {g : Gr} {t : Tk} {c : Cmd} {E : XK} (hg : EF tg σ H (eG g)) (hd : AtD td σ H a) (hc : EF tc σ H c.enc) (lt : LT H a A t) (G : GOK g) (gd : Good g t) (ok : CmdOK g c) :
    EF (tCall spLWhy [] E (tCons tg (tCons td (tCons tc tNil)))) σ H (.str (whyS g t c)) := fun H1 s Q q =>
  lc3_go (hg.mono s) (at_mono hd s) (hc.mono s) fun x y H2 s2 f1 f2 => ⟨x, a, A, g, t, c, y, rfl, f1, (lt.same s).same s2, f2, G, gd, ok, fun v H3 s3 f3 => q v H3 (s2.trans s3) f3⟩
theorem whyS_ne (g : Gr) (t : Tk) (c : Cmd) : (!decide (whyS g t c = Str.ofString "")) = !whyB g t c := by rw [whyS_iff]
theorem eff_nd {e : PyData} (h : effD e = true) : NoDict e := by
  cases e with
  | dict _ => cases h
  | _ => trivial
theorem eqJ_I (e : PyData) (n : Nat) : eqJ e (n : Int) = eqI e n := by
  cases e <;> rfl
theorem s_ifNC {sp : Sp} {E : XK} {ta : TA} {tu tw : TS} {D : Ends} {σ : L2.St} {H : Hp} (h : ta σ H fun vs H1 => sp (vs ++ []) H1 (fun v H2 => ∃ q, v = .bl q ∧ (if (!q) = true then tu D σ H2 else tw D σ H2)) E) : tIfS (tNot (tB (tCall sp [] E ta))) tu tw D σ H := h
theorem ca_c {sp : Sp} {E : XK} {ta tt : TA} {σ : L2.St} {H : Hp} {Q : List V → Hp → Prop} (h : tCall sp [] E ta σ H fun v H1 => tt σ H1 fun xs H2 => Q (v :: xs) H2) : tCons (tCall sp [] E ta) tt σ H Q := h
theorem recT_ok (g : Gr) (t : Tk) (c : Cmd) (e : PyData) : recT g t (.ok c e) = if whyB g t c && eqI e (perfT g t c).2 then some (perfT g t c).1 else none := rfl
theorem AR.frSame2 {H0 H H' : Hp} {fp : List Addr} (s : Same H0 H) (n : ∀ b ∈ fp, H0 b = none) (k : Fr fp H H') : Same H0 H' := fun b o e => k b o (fun hb => by
  rw [n b hb] at e
  cases e) (s b o e)
theorem LT.tkA {H H' : Hp} {a : Addr} {A : Ad} {t : Tk} (h : LT H a A t) (k : Fr (a :: A.fp) H H') : TK H H' := fun b xs e => k b _ (fun hb => by
  rcases List.mem_cons.mp hb with rfl | hb
  · obtain ⟨tv, q, _⟩ := h.i
    rw [e] at q
    cases q
  · obtain ⟨ys, q⟩ := h.r.lst hb
    rw [e] at q
    cases q) e
theorem eff_tb {e : PyData} (h : effD e = true) : tupB e = true := by
  cases e with
  | tuple ds =>
    cases ds with
    | nil => cases h
    | cons d ds =>
      cases ds with
      | nil =>
        cases d with
        | int i => rfl
        | _ => cases h
      | cons _ _ => cases d <;> cases h
  | none => rfl
  | bool _ => rfl
  | int _ => rfl
  | _ => cases h
theorem sc__law_are_right : FnScope ["_law_graph_here", "_law_records", "_law_talk", "_law_record", "_law_scope"] ["_law_graph_here", "_law_records"] (defScope s__law_are_right) := ⟨rfl, rfl, rfl, by decide +kernel, rfl, by decide +kernel, by decide +kernel⟩
theorem cal__law_are_right (T : Tx K mg) : Cal P w K mg base 9 "_law_are_right" spLRt [] :=
  T.cal 59 59 rfl rfl sc__law_are_right (fun _ _ _ _ _ _ us hl => match us, hl with | [_, _], _ => rfl) (fun vs H Q E ⟨_, _, _, _, e, _⟩ => by rw [e]; rfl) fun f cdv A' outer s H vs Q E hr h => by
    obtain ⟨gv, g, rv, v, rfl, fg, G, fv, hok, k⟩ := h
    refine ⟨_, (pss_cons (ps_if (pt_not (pt_val (pe_callB (k_isi (K := K)) (by rfl) T.n_isinstance (by decide +kernel) (pa_cons (pv 1) (pa_cons (pe_bltn (v := .ty "tuple") (by rfl) T.n_tuple (by decide +kernel) rfl) pa_nil))))) (pss_one (ps_ret pe_bl)) pss_nil)
      (pss_cons (ps_set (i := 2) sc__law_are_right.nd rfl (Or.inl rfl) (pe_c (cal__law_begin T) hr (by decide) rfl (pa_cons (pv 0) (pa_cons (pe_callTy (k_tupOf (K := K)) (by rfl) T.n_tuple (by decide +kernel) (pa_cons (pe_lc (own := [("_law_scope", 4)]) (g := gName 4) (tt := tYes) rfl sc__law_are_right.nd (k_piT (K := K) (pe_ix (k_ixT (K := K)) (pv 0) pe_int (fun _ _ => rfl))) (blkOk_by (N := ["_law_graph_here", "_law_records", "_law_talk", "_law_record", "_law_scope"]) (sc := defScope s__law_are_right) (by decide +kernel)) (fun _ _ _ _ _ => (pg_name (i := 4) sc__law_are_right.nd rfl (Or.inl rfl))) (fun _ _ _ _ _ => pts_nil) (fun _ _ _ _ _ => (pe_tup pa_nil))) pa_nil)) pa_nil))))
      (pss_cons (ps_for PassesOwn.never rfl (k_piT (K := K) (pv 1)) (pg_name (i := 3) sc__law_are_right.nd rfl (Or.inl rfl))
        (pss_cons (ps_if (PW.pt (pw_or (pt_not (pt_val (pe_callB (k_isi (K := K)) (by rfl) T.n_isinstance (by decide +kernel) (pa_cons (pv 3) (pa_cons (pe_bltn (v := .ty "tuple") (by rfl) T.n_tuple (by decide +kernel) rfl) pa_nil))))) (pw_or (pt_cmpR op_ne (pe_callB (k_len (K := K)) (by rfl) T.n_len (by decide +kernel) (pa_cons (pv 3) pa_nil)) pe_int (nomark _)) (pw_or1 (pt_not (pt_val (pe_c (cal__law_is_command T) hr (by decide) rfl (pa_cons (pe_ix (k_ixT (K := K)) (pv 3) pe_int (fun _ _ => rfl)) pa_nil)))))))) (pss_one (ps_ret pe_bl)) pss_nil)
        (pss_cons (ps_if (PW.pt (pw_or (pt_cmpR op_ne (pe_c (cal__law_why_not T) hr (by decide) rfl (pa_cons (pv 0) (pa_cons (pv 2) (pa_cons (pe_ix (k_ixT (K := K)) (pv 3) pe_int (fun _ _ => rfl)) pa_nil)))) pe_str (nomark _)) (pw_or1 (pt_cmpR op_gt (pe_callB (k_len (K := K)) (by rfl) T.n_len (by decide +kernel) (pa_cons (pe_ix (k_ixL (K := K)) (pv 2) pe_int (fun _ _ => rfl)) pa_nil)) pe_int (nomark _))))) (pss_one (ps_ret pe_bl)) pss_nil)
        (pss_one (ps_if (pt_not (pt_val (pe_c (cal__law_equal T) hr (by decide) rfl (pa_cons (pe_ix (k_ixT (K := K)) (pv 3) pe_int (fun _ _ => rfl)) (pa_cons (pe_c (cal__law_perform T) hr (by decide) rfl (pa_cons (pv 0) (pa_cons (pv 2) (pa_cons (pe_ix (k_ixT (K := K)) (pv 3) pe_int (fun _ _ => rfl)) pa_nil)))) pa_nil))))) (pss_one (ps_ret pe_bl)) pss_nil)))))
      (pss_one (ps_ret pe_bl))))), ?_⟩
    cases v with
    | non => exact s_ifQ (t_not (b := false) (t_B (e_isi (e_var rfl fv) ki_NoneType_tuple))) (fun _ H1 s1 => k H1 s1) (fun h => nomatch h)
    | lst ds => exact s_ifQ (t_not (b := false) (t_B (e_isi (e_var rfl fv) ki_list_tuple))) (fun _ H1 s1 => k H1 s1) (fun h => nomatch h)
    | recs rs =>
      obtain ⟨hlen, hro, hrw⟩ := hok
      have fv' : Fz H rv (.tuple (rs.map Rec.enc)) := fv
      refine s_ifQ (t_not (b := true) (t_B (e_isi (e_var rfl fv') ki_tuple_tuple))) (fun h => nomatch h) fun _ H1 s1 => ?_
      refine s_asgK ?_
      show tCall spLBegin [] _ (tCons _ (tCons _ tNil)) _ _ _
      refine ca_e (Q := fun vs H2 => spLBegin (vs ++ []) H2 _ _) (e_var rfl (fg.same s1)) fun gv2 H2 s2 fg2 => ca_e (e_noT G (e_var rfl ((fg.same s1).same s2))) fun tv H3 s3 ftv => ca_n ⟨gv2, tv, g, noTabs g, rfl, fg2.same s3, ftv, G, noTabs_ok g, fun a A H4 s4 nA lt4 => ?_⟩
      have s04 := ((s1.trans s2).trans s3).trans s4
      have hfree : ∀ b ∈ a :: A.fp, H b = none := fun b hb => ((s1.trans s2).trans s3).free (nA b hb)
      have leave : ∀ {H2 : Hp}, Same H H2 → runR g (emptyT g) rs = false → Q (.bl false) H2 := fun {H2} s2 e => by
        have := k H2 s2
        rw [show valR g (.recs rs) = false from e] at this
        exact this
      refine s_forH (xs := rs) (enc := Rec.enc) (H0 := H) rfl fv' s04 (fun i σ' H' => ∃ t' o3, σ' = [some gv, some rv, some (.ref a), o3, none] ∧ Same H H' ∧ LT H' a A t' ∧ RunsOK g t' (rs.drop i) ∧ RunsW g t' (rs.drop i) ∧ runR g t' (rs.drop i) = runR g (emptyT g) rs) ⟨emptyT g, _, rfl, s04, lt4, hro, hrw, rfl⟩ (fun i σ' H' ⟨_, _, _, s, _⟩ => s) ?_ ?_
      · rintro i r σ' H' yr hi ⟨t', o3, rfl, s5, lt5, hr5, hw5, he5⟩ fy
        have hdrop : rs.drop i = r :: rs.drop (i + 1) := by
          obtain ⟨hlt, hge⟩ := List.getElem?_eq_some_iff.mp hi
          rw [List.drop_eq_getElem_cons hlt, hge]
        rw [hdrop] at hr5 hw5 he5
        have hrun : runR g (emptyT g) rs = (match recT g t' r with
          | some t' => runR g t' (rs.drop (i + 1))
          | none => false) := he5.symm
        have fg5 := fg.same s5
        cases r with
        | bad d =>
          have hno : runR g (emptyT g) rs = false := hrun
          have fy' : Fz H' yr d := fy
          rcases (show BadR d from hr5.1) with rfl | ⟨xs, rfl⟩ | ⟨xs, rfl, hx⟩ | ⟨x, y, rfl, hx⟩
          · exact s_ifQ (t_or (c := true) (t_not (t_B (e_isi (e_var rfl fy') ki_NoneType_tuple))) fun h => nomatch h) (fun _ H6 s6 => leave (s5.trans s6) hno) fun h => absurd h (by decide)
          · exact s_ifQ (t_or (c := true) (t_not (t_B (e_isi (e_var rfl fy') ki_list_tuple))) fun h => nomatch h) (fun _ H6 s6 => leave (s5.trans s6) hno) fun h => absurd h (by decide)
          · exact s_ifQ ((t_or (t_not (t_B (e_isi (e_var rfl fy') ki_tuple_tuple))) fun _ => t_or (c := true) (t_test (e_neI (e_lenT (e_var rfl fy')) e_int)) fun h => absurd h (by simp; omega)).is (c := true) (by simp)) (fun _ H6 s6 => leave (s5.trans s6) hno) fun h => absurd h (by decide)
          · exact s_ifQ ((t_or (t_not (t_B (e_isi (e_var rfl fy') ki_tuple_tuple))) fun _ => t_or (t_test (e_neI (e_lenT (e_var rfl fy')) e_int)) fun _ => t_not (t_B (e_call (ea_cons (e_ixT (e_var rfl fy') e_int (by rfl)) ea_nil) ⟨x, rfl, .inr ⟨hx, rfl⟩⟩))).is (c := true) (by simp)) (fun _ H6 s6 => leave (s5.trans s6) hno) fun h => absurd h (by decide)
        | ok c e =>
          obtain ⟨hp, he⟩ : PerfOK g t' c ∧ effD e = true := hr5.1
          have fy' : Fz H' yr (.tuple [c.enc, e]) := fy
          refine s_ifQ ((t_or (t_not (t_B (e_isi (e_var rfl fy') ki_tuple_tuple))) fun _ => t_or (t_test (e_neI (e_lenT (e_var rfl fy')) e_int)) fun _ => t_not (t_B (e_call (ea_cons (e_ixT (e_var rfl fy') e_int (by rfl)) ea_nil) ⟨c.enc, rfl, .inl ⟨c, rfl, rfl⟩⟩))).is (c := false) (by simp)) (fun h => nomatch h) fun _ H6 s6 => ?_
          have lt6 := lt5.same s6
          have hwl := hw5.1
          refine s_ifQ ((t_or (t_test (e_neS (e_lwhy (e_var rfl (fg5.same s6)) (at_var rfl) (e_ixT (e_var rfl (fy'.same s6)) e_int (by rfl)) lt6 G hp.gd hp.cok) e_str)) fun _ => t_test (e_gt (e_lenL (lt6.e_way (at_var rfl))) e_int)).is (c := !whyB g t' c) (by rw [whyS_ne, List.length_map]; simp; omega)) (fun hb H7 s7 => ?_) (fun hb H7 s7 => ?_)
          · have hb' : whyB g t' c = false := by simpa using hb
            refine leave ((s5.trans s6).trans s7) ?_
            rw [hrun, recT_ok, hb']
            rfl
          · have hb' : whyB g t' c = true := by simpa using hb
            have lt7 := lt6.same s7
            have s67 := s6.trans s7
            refine s_ifNC ?_
            refine ca_e (d := e) (e_ixT (e_var rfl (fy'.same s67)) e_int (by rfl)) fun ve H8 s8 f8 => ?_
            refine ca_c ?_
            have s58 := (s5.trans s67).trans s8
            refine lc3_go (e_var rfl (fg.same s58)) (at_var rfl) (e_ixT (d := c.enc) (e_var rfl ((fy'.same s67).same s8)) e_int (by rfl)) fun x9 y9 H9 s9 g9 h9 => ?_
            refine ⟨x9, a, A, g, t', c, y9, rfl, g9, (lt7.same s8).same s9, h9, hp, hb', fun H10 fr10 lt10 => ?_⟩
            have s0a : Same H H10 := AR.frSame2 (s58.trans s9) hfree fr10
            have fe10 : Fz H10 ve e := ((f8.same s9).tk (((lt7.same s8).same s9).tkA fr10) (eff_tb he))
            refine ⟨[e, .int ((perfT g t' c).2 : Nat)], .bool (eqI e (perfT g t' c).2), .cons fe10 (.cons (.int _) .nil), ⟨e, _, _, rfl, .inl ⟨_, rfl, eff_nd he, (eqJ_I _ _).symm⟩, rfl⟩, fun v H11 s11 f11 => ?_⟩
            obtain rfl := f11.blI
            refine ⟨_, rfl, ?_⟩
            have hrun2 : runR g (emptyT g) rs = (match (if eqI e (perfT g t' c).2 = true then some (perfT g t' c).1 else none) with
              | some t' => runR g t' (rs.drop (i + 1))
              | none => false) := by
              rw [hrun, recT_ok, hb', Bool.true_and]
            cases hq : eqI e (perfT g t' c).2 with
            | false =>
              refine leave (s0a.trans s11) ?_
              rw [hrun2, hq]
              rfl
            | true =>
              have hsome : recT g t' (.ok c e) = some (perfT g t' c).1 := by
                rw [recT_ok, hb', hq]
                rfl
              refine ⟨(perfT g t' c).1, _, rfl, s0a.trans s11, lt10.same s11, hr5.2 _ hsome, hw5.2 _ hsome, ?_⟩
              rw [hrun2, hq]
              rfl
      · rintro σ' H' ⟨t', o3, rfl, s5, lt5, hr5, hw5, he5⟩
        rw [List.drop_length] at he5
        have := k H' s5
        rw [show valR g (.recs rs) = true from he5.symm] at this
        exact this
end
end Tt

/-! A list comprehension of numbers that draws from a stream. -/
namespace Tt
open PySem PySem.Spec L2 RZ
section
variable {K : PySem.W.Frag}
theorem ST.out {H : Hp} {a sc D : Addr} (h : ST H a sc) (n : H D = none) : D ≠ a ∧ D ≠ sc := by
  obtain ⟨c, k, ns, h0, hn, e1, e2⟩ := h
  refine ⟨fun e => ?_, fun e => ?_⟩
  · rw [e, e1] at n
    cases n
  · rw [e, e2] at n
    cases n
theorem lcM {α : Type} {xs : List α} {enc : α → PyData} {wi : TI} {gt : TG} {tt : TT} {te : TE} {vs : List Nat} {σ σw : L2.St} {H : Hp} {P : α → L2.St → Hp → Prop} {sa sc : Addr} (R : List α → List Int → Prop) (hR0 : R [] [])
    (hw : WT wi σ H (xs.map enc)) (st : ST H sa sc) (h1 : wipe σ vs = σw) (hz : xs.length ≤ 100000)
    (hs : ∀ x ∈ xs, ∀ y H1, Fz H1 y (enc x) → ∀ S : L2.St → Hp → Prop, (∀ σ2, wipe σ2 vs = σw → P x σ2 H1 → S σ2 H1) → gt y σw H1 S)
    (step : ∀ i x, xs[i]? = some x → ∀ acc, R (xs.take i) acc → ∀ σ2 H1, P x σ2 H1 → Fr [sa] H H1 → ST H1 sa sc → ∀ (Y : VK) (N : Hp → Prop), (∀ (n : Int) H2, R (xs.take (i + 1)) (acc ++ [n]) → Fr [sa] H1 H2 → ST H2 sa sc → Y (.int n) H2) → (∀ H2, R (xs.take (i + 1)) acc → Fr [sa] H1 H2 → ST H2 sa sc → N H2) → tt σ2 H1 fun b H3 => if b = true then te σ2 H3 Y else N H3)
    {Q : VK} (q : ∀ p acc H2, R xs acc → H p = none → Fr [sa] H H2 → ST H2 sa sc → H2 p = some (.lst (acc.map V.int)) → Q (.ref p) H2) : tLc wi gt tt te vs σ H Q := hw H (Same.refl H) _ fun J H1 s1 jok => by
  intro D hD
  have st1 := st.same s1
  obtain ⟨nD1, nD2⟩ := st1.out hD
  have dI : ∀ {i : Nat}, i < xs.length → ∃ x, xs[i]? = some x ∧ x ∈ xs := fun {i} hi => ⟨xs[i], by simp [hi], by simp⟩
  have W : Walk J xs.length (fun H => TK H1 H) (fun i H3 x H' => Same H3 H' ∧ ∀ z, xs[i]? = some z → Fz H' x (enc z)) := by
    refine ⟨fun i H3 hi s => (jok i H3 s).1 (by simpa using hi), fun H3 s => (jok _ H3 s).2.1 (by simp), fun i H3 x H' hi s y => ?_⟩
    obtain ⟨z, hz, _⟩ := dI hi
    obtain ⟨r1, r2⟩ := (jok i H3 s).2.2 x H' y (enc z) (by simp [hz])
    exact ⟨r1, fun z' hz' => by
      rw [hz] at hz'
      cases hz'
      exact r2⟩
  have frD : ∀ {H3 : Hp} {o : HO}, Fr [sa] H1 H3 → Fr [sa] H1 (upd H3 D o) := fun {H3 o} k b u n e => by
    rw [upd_ne (ne_of_none e hD)]
    exact k b u n e
  have stD : ∀ {H3 : Hp} {o : HO}, ST H3 sa sc → ST (upd H3 D o) sa sc := fun {H3 o} k => k.fr (fp := [D]) (fr_upd (by simp)) (by simpa using Ne.symm nD1) (by simpa using Ne.symm nD2)
  refine lc_it W (fun i H3 => ∃ acc : List Int, H3 D = some (.lst (acc.map V.int)) ∧ R (xs.take i) acc ∧ acc.length ≤ i ∧ Fr [sa] H1 H3 ∧ ST H3 sa sc) ⟨[], upd_same, by simpa using hR0, Nat.le_refl _, frD (Fr.refl _ _), stD st1⟩ (fun i H3 _ ⟨_, _, _, _, k, _⟩ => st1.tk k) ?_ ?_
  · rintro i x H3 H' hi ⟨acc, eD, hR, hl, fr3, st3⟩ ⟨s4, hx⟩
    obtain ⟨z, hz, hm⟩ := dI hi
    rw [h1]
    have fr4 : Fr [sa] H1 H' := fr3.trans (Fr.same s4)
    have eD4 : H' D = some (.lst (acc.map V.int)) := s4 _ _ eD
    refine hs z hm x H' (hx z hz) _ fun σ2 hw2 hP => ⟨hw2, ?_⟩
    refine step i z hz acc hR σ2 H' hP ((Fr.same s1).trans fr4) (st3.same s4) _ _ (fun n H2 hR2 fr2 st2 => ?_) fun H2 hR2 fr2 st2 => ?_
    · have eD2 : H2 D = some (.lst (acc.map V.int)) := fr2 _ _ (by simpa using nD1) eD4
      refine ⟨_, eD2, ?_, acc ++ [n], by rw [List.map_append]; exact upd_same, hR2, by simp; omega, frD (fr4.trans fr2), stD st2⟩
      rw [List.length_map]
      exact Nat.lt_of_le_of_lt (show acc.length ≤ 100000 by omega) (by decide)
    · exact ⟨acc, fr2 _ _ (by simpa using nD1) eD4, hR2, by omega, fr4.trans fr2, st2⟩
  · rintro H3 ⟨acc, eD, hR, hl, fr3, st3⟩
    rw [List.take_length] at hR
    exact q D acc H3 hR (s1.free hD) ((Fr.same s1).trans fr3) st3 eD
theorem fz_intsV (H : Hp) : ∀ l : List Int, FzAll H (l.map V.int) (l.map PyData.int)
  | [] => .nil
  | n :: l => .cons (.int _) (fz_intsV H l)
/-- tuple([..]) of such -/
theorem tupM {α : Type} {xs : List α} {enc : α → PyData} {wi : TI} {gt : TG} {tt : TT} {te : TE} {vs : List Nat} {σ σw : L2.St} {H : Hp} {P : α → L2.St → Hp → Prop} {sa sc : Addr} (R : List α → List Int → Prop) (hR0 : R [] [])
    (hw : WT wi σ H (xs.map enc)) (st : ST H sa sc) (h1 : wipe σ vs = σw) (hz : xs.length ≤ 100000)
    (hs : ∀ x ∈ xs, ∀ y H1, Fz H1 y (enc x) → ∀ S : L2.St → Hp → Prop, (∀ σ2, wipe σ2 vs = σw → P x σ2 H1 → S σ2 H1) → gt y σw H1 S)
    (step : ∀ i x, xs[i]? = some x → ∀ acc, R (xs.take i) acc → ∀ σ2 H1, P x σ2 H1 → Fr [sa] H H1 → ST H1 sa sc → ∀ (Y : VK) (N : Hp → Prop), (∀ (n : Int) H2, R (xs.take (i + 1)) (acc ++ [n]) → Fr [sa] H1 H2 → ST H2 sa sc → Y (.int n) H2) → (∀ H2, R (xs.take (i + 1)) acc → Fr [sa] H1 H2 → ST H2 sa sc → N H2) → tt σ2 H1 fun b H3 => if b = true then te σ2 H3 Y else N H3)
    {Q : VK} (q : ∀ v acc H2, R xs acc → Fr [sa] H H2 → ST H2 sa sc → Fz H2 v (eR acc) → Q v H2) : tCB (rTupQ K) (tCons (tLc wi gt tt te vs) tNil) σ H Q :=
  lcM (Q := fun v H1 => tNil σ H1 fun xs H2 => rTupQ K (v :: xs) H2 Q) R hR0 hw st h1 hz hs step fun p acc H2 hR n fr st2 e =>
    ⟨p, _, rfl, .inl ⟨SqL.of e, fun l hl => q _ acc _ hR (fr.trans (Fr.same (same_new hl))) (st2.same (same_new hl)) (.tup upd_same (fz_intsV _ acc))⟩⟩
theorem LT.frS {H H' : Hp} {a sa sc : Addr} {A : Ad} {t : Tk} (h : LT H a A t) (st : ST H sa sc) (k : Fr [sa] H H') (n : sa ∉ a :: A.fp) : LT H' a A t := h.move (st.tk k) fun b hb => by
  have hne : b ∉ [sa] := by
    intro e
    rw [List.mem_singleton.mp e] at hb
    exact n hb
  have : ∃ o, H b = some o := by
    rcases List.mem_cons.mp hb with rfl | hb
    · obtain ⟨tv, e, _⟩ := h.i
      exact ⟨_, e⟩
    · obtain ⟨ys, e⟩ := h.r.lst hb
      exact ⟨_, e⟩
  obtain ⟨o, e⟩ := this
  rw [k b o hne e, e]
/-- some digit of the stream -/
theorem nx_go {E : XK} {ta tb : TE} {σ : L2.St} {H : Hp} {Q : VK} {sa sc : Addr} {m : Nat} (ha : AtD ta σ H sa) (hb : EF tb σ H (.int (m : Int))) (st : ST H sa sc) (h1 : 1 ≤ m) (h2 : m < 1073741824)
    (k : ∀ (d : Nat) H', d < m → Fr [sa] H H' → ST H' sa sc → Q (.int (d : Int)) H') : tCall spNext [] E (tCons ta (tCons tb tNil)) σ H Q :=
  ha H (Same.refl H) _ (hb.go fun v H1 s f => by
    obtain rfl := f.intI
    exact ⟨sa, sc, m, rfl, st.same s, h1, h2, fun d H' hd fr st' => k d H' hd ((Fr.same s).trans fr) st'⟩)
end
end Tt

/-! The law's next command. -/
namespace Tt
open PySem PySem.Spec PyProof.Rows L2 RZ
open C8 (Cal Met Mak pe_c pe_mk pe_mt pe_mt0 pe_gc)
section
variable {P : Program} {w : World} {K : PySem.W.Frag} {mg : Str → Option Value} {base : Heap}
theorem yes_go {te : TE} {σ : L2.St} {H : Hp} {Y : VK} {N : Hp → Prop} (h : te σ H Y) : tYes σ H fun b H3 => if b = true then te σ H3 Y else N H3 := by
  show (if true = true then te σ H Y else N H)
  rw [if_pos rfl]
  exact h
theorem ret_tup {ta : TA} {D : Ends} {σ : L2.St} {H : Hp} (h : ta σ H fun vs H1 => vs.length ≤ sizeLine ∧ ∀ p, H1 p = none → D.rt (.ref p) (upd H1 p (.tup vs))) : tRet (tTup ta) D σ H := h
theorem ca_v {σ : L2.St} {H : Hp} {i : Nat} {v : V} {tt : TA} {Q : List V → Hp → Prop} (h : σ[i]? = some (some v)) (k : tt σ H fun xs H2 => Q (v :: xs) H2) : tCons (tVar i) tt σ H Q := ⟨v, h, k⟩
theorem ca_s {σ : L2.St} {H : Hp} {v : V} {tt : TA} {Q : List V → Hp → Prop} (k : tt σ H fun xs H2 => Q (v :: xs) H2) : tCons (tC v) tt σ H Q := k
theorem decI (a b : Nat) : decide ((a : Int) = (b : Int)) = decide (a = b) := decide_eq_decide.mpr (by omega)
theorem ca_row {σ : L2.St} {H : Hp} {tT tN : TE} {tt : TA} {l : List (Row × Int)} {sa sc : Addr} {Q : List V → Hp → Prop} (hT : EF tT σ H (eTab l)) (st : ST H sa sc)
    (hN : ∀ H1, Same H H1 → ∀ Y : VK, (∀ (d : Nat) H2, d < l.length → Fr [sa] H1 H2 → ST H2 sa sc → Y (.int (d : Int)) H2) → tN σ H1 Y)
    (k : ∀ v (p : Row × Int) H2, p ∈ l → Fr [sa] H H2 → ST H2 sa sc → Fz H2 v (eR p.1) → tt σ H2 fun xs H3 => Q (v :: xs) H3) : tCons (tOp (rIxT K) (tOp (rIxT K) tT tN) (tC (.int 0))) tt σ H Q :=
  hT.go fun x H1 s1 f1 => hN H1 s1 _ fun d H2 hd fr st2 => by
    have f2 : Fz H2 x (.tuple (l.map eP)) := f1.tk ((st.same s1).tk fr) (tb_eTab l)
    obtain ⟨a, xs, rfl, ea, fa⟩ := f2.tupI
    obtain ⟨v, hv, fv⟩ := fa.atI (map_at (f := eP) ([], 0) hd)
    refine ⟨a, xs, _, v, rfl, rfl, SqT.of ea, hv, ?_⟩
    obtain ⟨b, ys, rfl, eb, fb⟩ := fv.tupI
    obtain ⟨u, hu, fu⟩ := fb.atI (at0 _ _)
    refine ⟨b, ys, _, u, rfl, rfl, SqT.of eb, hu, k u (l.getD d ([], 0)) H2 ?_ ((Fr.same s1).trans fr) st2 fu⟩
    rw [List.getD_eq_getElem?_getD, List.getElem?_eq_getElem hd]
    exact List.getElem_mem hd
theorem ca_two {σ : L2.St} {H : Hp} {tN : TE} {tt : TA} {x y : Str} {sa sc : Addr} {Q : List V → Hp → Prop} (st : ST H sa sc)
    (hN : ∀ H1, Same H H1 → ∀ Y : VK, (∀ (d : Nat) H2, d < 2 → Fr [sa] H1 H2 → ST H2 sa sc → Y (.int (d : Int)) H2) → tN σ H1 Y)
    (k : ∀ (z : Str) H2, z = x ∨ z = y → Fr [sa] H H2 → ST H2 sa sc → tt σ H2 fun xs H3 => Q (.str z :: xs) H3) : tCons (tOp (rIxL K) (tLst (tCons (tC (.str x)) (tCons (tC (.str y)) tNil))) tN) tt σ H Q :=
  EL.go (σ := σ) (el_lst (ea_cons (e_str (x := x)) (ea_cons (e_str (x := y)) ea_nil))) (Q := fun v H1 => tN σ H1 fun w H2 => rIxL K v w H2 fun u H3 => tt σ H3 fun xs H4 => Q (u :: xs) H4) fun p xs H1 n s1 e f => hN H1 s1 _ fun d H2 hd fr st2 => by
    have hp : p ∉ [sa] := by
      have := (st.out n).1
      simpa using this
    have e2 : H2 p = some (.lst xs) := fr _ _ hp e
    obtain ⟨u, v, rfl, f1, f2⟩ := f.I2
    cases f1
    cases f2
    have hz : d = 0 ∨ d = 1 := by omega
    rcases hz with rfl | rfl
    · exact ⟨p, _, _, .str x, rfl, rfl, SqL.of e2, rfl, k x H2 (.inl rfl) ((Fr.same s1).trans fr) st2⟩
    · exact ⟨p, _, _, .str y, rfl, rfl, SqL.of e2, rfl, k y H2 (.inr rfl) ((Fr.same s1).trans fr) st2⟩
theorem s_ifAN {t : TT} {E : XK} {ta tb : TE} {tu w : TS} {D : Ends} {σ : L2.St} {H : Hp} {b : Bool} {i : Int} {sa sc : Addr} {m : Nat} (ht : ET t σ H b) (ha : AtD ta σ H sa) (hb : EF tb σ H (.int (m : Int))) (st : ST H sa sc) (h1 : 1 ≤ m) (h2 : m < 1073741824)
    (k : ∀ (c : Bool) H', Fr [sa] H H' → ST H' sa sc → if c = true then tu { D with nx := w D } σ H' else w D σ H') : tSeq (tIfS (tAnd t (tTest (tOp rEq (tCall spNext [] E (tCons ta (tCons tb tNil))) (tC (.int i))))) tu tNext) w D σ H :=
  ht.go fun H1 s1 => by
    cases b with
    | false => exact k false H1 (Fr.same s1) (st.same s1)
    | true =>
      show tCall spNext [] E (tCons ta (tCons tb tNil)) σ H1 _
      exact nx_go (at_mono ha s1) (hb.mono s1) (st.same s1) h1 h2 fun d H2 hd fr st2 => ⟨rfl, _, rfl, k _ H2 ((Fr.same s1).trans fr) st2⟩
def spLAct : Sp := fun vs H Q E => ∃ sa sc x a A g t, vs = [.ref sa, x, .ref a] ∧ ST H sa sc ∧ Fz H x (eG g) ∧ LT H a A t ∧ GOK g ∧ TabsOK g t.tabs ∧ t.way.length ≤ 38 ∧ sa ∉ a :: A.fp ∧ ∀ v c H', CmdOK g c → Fr [sa] H H' → ST H' sa sc → Fz H' v (Cmd.enc c) → Q v H'
theorem sc__law_action : FnScope ["_law_stream_here", "_law_graph_here", "_law_talk", "_law_pick", "_law_node", "_law_row", "_law_many", "_law_variable"] ["_law_stream_here", "_law_graph_here", "_law_talk"] (defScope s__law_action) := ⟨rfl, rfl, rfl, by decide +kernel, rfl, by decide +kernel, by decide +kernel⟩
theorem cal__law_action (T : Tx K mg) : Cal P w K mg base 2 "_law_action" spLAct [] :=
  T.cal 56 56 rfl rfl sc__law_action (fun _ _ _ _ _ _ us hl => match us, hl with | [_, _, _], _ => rfl) (fun vs H Q E ⟨_, _, _, _, _, _, _, e, _⟩ => by rw [e]; rfl) fun f cdv A' outer s H vs Q E hr h => by
    obtain ⟨sa, sc, x, a, A, g, t, rfl, st, fx, lt, G, ht, hw, hsa, k⟩ := h
    refine ⟨_, (pss_cons (ps_set (i := 3) sc__law_action.nd rfl (Or.inl rfl) (pe_c (cal__law_next T) hr (by decide) rfl (pa_cons (pv 0) (pa_cons pe_int pa_nil))))
      (pss_cons (ps_set (i := 4) sc__law_action.nd rfl (Or.inl rfl) (pe_c (cal__law_next T) hr (by decide) rfl (pa_cons (pv 0) (pa_cons (pe_callB (k_len (K := K)) (by rfl) T.n_len (by decide +kernel) (pa_cons (pe_ix (k_ixT (K := K)) (pv 1) pe_int (fun _ _ => rfl)) pa_nil)) pa_nil))))
      (pss_cons (ps_set (i := 5) sc__law_action.nd rfl (Or.inl rfl) (pe_callTy (k_tupOf (K := K)) (by rfl) T.n_tuple (by decide +kernel) (pa_cons (pe_lc (own := [("_law_variable", 7)]) (g := gName 7) (tt := tYes) rfl sc__law_action.nd (k_piT (K := K) (pe_ix (k_ixT (K := K)) (pe_ix (k_ixT (K := K)) (pv 1) pe_int (fun _ _ => rfl)) (pv 4) (fun _ _ => rfl))) (blkOk_by (N := ["_law_stream_here", "_law_graph_here", "_law_talk", "_law_pick", "_law_node", "_law_row", "_law_many", "_law_variable"]) (sc := defScope s__law_action) (by decide +kernel)) (fun _ _ _ _ _ => (pg_name (i := 7) sc__law_action.nd rfl (Or.inl rfl))) (fun _ _ _ _ _ => pts_nil) (fun _ _ _ _ _ => (pe_c (cal__law_next T) hr (by decide) rfl (pa_cons (pv 0) (pa_cons (pe_ix (k_ixT (K := K)) (pv 1) pe_int (fun _ _ => rfl)) pa_nil))))) pa_nil)))
      (pss_cons (ps_set (i := 6) sc__law_action.nd rfl (Or.inl rfl) (pe_callB (k_len (K := K)) (by rfl) T.n_len (by decide +kernel) (pa_cons (pe_ix (k_ixL (K := K)) (pv 2) pe_int (fun _ _ => rfl)) pa_nil)))
      (pss_cons (ps_if (pt_cmpR op_lt (pv 3) pe_int (nomark _)) (pss_one (ps_ret (pe_tup (pa_cons pe_str (pa_cons (pv 4) (pa_cons (pv 5) (pa_cons (pe_c (cal__law_next T) hr (by decide) rfl (pa_cons (pv 0) (pa_cons pe_int pa_nil))) pa_nil))))))) pss_nil)
      (pss_cons (ps_if (PW.pt (pw_and (pt_cmpR op_eq (pv 3) pe_int (nomark _)) (pw_and1 (pt_cmpR op_gt (pe_callB (k_len (K := K)) (by rfl) T.n_len (by decide +kernel) (pa_cons (pe_ix (k_ixT (K := K)) (pe_ix (k_ixL (K := K)) (pv 2) pe_int (fun _ _ => rfl)) (pv 4) (fun _ _ => rfl)) pa_nil)) pe_int (nomark _))))) (pss_one (ps_ret (pe_tup (pa_cons pe_str (pa_cons (pv 4) (pa_cons (pe_ix (k_ixT (K := K)) (pe_ix (k_ixT (K := K)) (pe_ix (k_ixT (K := K)) (pe_ix (k_ixL (K := K)) (pv 2) pe_int (fun _ _ => rfl)) (pv 4) (fun _ _ => rfl)) (pe_c (cal__law_next T) hr (by decide) rfl (pa_cons (pv 0) (pa_cons (pe_callB (k_len (K := K)) (by rfl) T.n_len (by decide +kernel) (pa_cons (pe_ix (k_ixT (K := K)) (pe_ix (k_ixL (K := K)) (pv 2) pe_int (fun _ _ => rfl)) (pv 4) (fun _ _ => rfl)) pa_nil)) pa_nil))) (fun _ _ => rfl)) pe_int (fun _ _ => rfl)) pa_nil)))))) pss_nil)
      (pss_cons (ps_if (PW.pt (pw_and (pt_cmpR op_lt (pv 3) pe_int (nomark _)) (pw_and1 (pt_cmpR op_gt (pv 6) pe_int (nomark _))))) (pss_one (ps_ret (pe_tup (pa_cons pe_str (pa_cons (pe_c (cal__law_next T) hr (by decide) rfl (pa_cons (pv 0) (pa_cons (pv 6) pa_nil))) pa_nil))))) pss_nil)
      (pss_cons (ps_if (pt_cmpR op_eq (pv 3) pe_int (nomark _)) (pss_one (ps_ret (pe_tup (pa_cons (pe_ix (k_ixL (K := K)) (pe_lst (pa_cons pe_str (pa_cons pe_str pa_nil))) (pe_c (cal__law_next T) hr (by decide) rfl (pa_cons (pv 0) (pa_cons pe_int pa_nil))) (fun _ _ => rfl)) (pa_cons (pe_c (cal__law_next T) hr (by decide) rfl (pa_cons (pv 0) (pa_cons (pe_op op_add (pv 6) pe_int) pa_nil))) pa_nil))))) pss_nil)
      (pss_cons (ps_if (pt_cmpR op_eq (pv 3) pe_int (nomark _)) (pss_one (ps_ret (pe_tup (pa_cons pe_str (pa_cons (pv 4) (pa_cons (pe_c (cal__law_next T) hr (by decide) rfl (pa_cons (pv 0) (pa_cons (pe_callB (k_len (K := K)) (by rfl) T.n_len (by decide +kernel) (pa_cons (pe_ix (k_ixT (K := K)) (pv 1) pe_int (fun _ _ => rfl)) pa_nil)) pa_nil))) pa_nil)))))) pss_nil)
      (pss_cons (ps_if (PW.pt (pw_and (pt_cmpR op_eq (pv 3) pe_int (nomark _)) (pw_and1 (pt_cmpR op_eq (pe_c (cal__law_next T) hr (by decide) rfl (pa_cons (pv 0) (pa_cons pe_int pa_nil))) pe_int (nomark _))))) (pss_one (ps_ret (pe_tup (pa_cons pe_str pa_nil)))) pss_nil)
      (pss_one (ps_ret (pe_tup (pa_cons pe_str (pa_cons (pv 4) (pa_cons (pv 5) pa_nil)))))))))))))))), ?_⟩
    have hn4 := G.n4
    have hvals := G.vals
    have lenG : ∀ {H2 : Hp} {σ : L2.St}, σ[1]? = some (some x) → Fz H2 x (eG g) → EF (tCB (rLenQ K) (tCons (tOp (rIxT K) (tVar 1) (tC (.int 1))) tNil)) σ H2 (.int (g.n : Int)) := fun h f => (e_lenT (ds := g.scs.map eR) (e_ixT (e_var h f) e_int (by rfl))).is (by rw [List.length_map]; rfl)
    refine s_asgK (nx_go (m := 10) (at_var rfl) (EF.is e_int rfl) st (by decide) (by decide) fun d1 H1 hd1 fr1 st1 => ?_)
    have fx1 : Fz H1 x (eG g) := fx.tk (st.tk fr1) (tb_eG _)
    refine s_asgK (nx_go (m := g.n) (at_var rfl) (lenG rfl fx1) st1 hn4.1 (by omega) fun n H2 hn fr2 st2 => ?_)
    have fr02 := fr1.trans fr2
    have fx2 : Fz H2 x (eG g) := fx.tk (st.tk fr02) (tb_eG _)
    obtain ⟨m, hm, hm1, hm2⟩ : ∃ m : Nat, g.vals = (m : Int) ∧ 1 ≤ m ∧ m < 1073741824 := by
      rcases hvals with h | h
      · exact ⟨2, h, by decide, by decide⟩
      · exact ⟨3, h, by decide, by decide⟩
    have hsl := G.len hn
    refine s_asgK (tupM (xs := g.sc n) (enc := PyData.int) (sa := sa) (sc := sc) (P := fun _ σ2 _ => ∃ y, σ2 = [some (.ref sa), some x, some (.ref a), some (.int (d1 : Int)), some (.int (n : Int)), none, none, some y]) (fun pre acc => acc.length = pre.length ∧ ∀ v ∈ acc, 0 ≤ v ∧ v < g.vals) ⟨rfl, fun _ h => nomatch h⟩
      (wt_tup (e_ixT (e_ixT (e_var rfl fx2) e_int (by rfl)) (e_var rfl (.int (n : Int))) (sc_at hn)) (tupsB_map fun _ => rfl)) st2 rfl (by omega) (fun v hv y H3 fy S kk => kk [some (.ref sa), some x, some (.ref a), some (.int (d1 : Int)), some (.int (n : Int)), none, none, some y] rfl ⟨y, rfl⟩) (fun i v hi acc hR σ2 H3 hP fr3 st3 Y N kY kN => ?_) fun vr acc H3 hR fr3 st3 fr => ?_)
    · obtain ⟨y, rfl⟩ := hP
      have fx3 : Fz H3 x (eG g) := fx2.tk (st2.tk fr3) (tb_eG _)
      refine yes_go ?_
      refine nx_go (m := m) (at_var rfl) ((e_ixT (e_var rfl fx3) e_int (by rfl)).is (by rw [hm])) st3 hm1 hm2 fun d H4 hd fr4 st4 => kY _ H4 ?_ fr4 st4
      rw [List.take_add_one, hi]
      refine ⟨by simp [hR.1], fun u hu => ?_⟩
      rcases List.mem_append.mp hu with h | h
      · exact hR.2 u h
      · rw [List.mem_singleton.mp h]
        omega
    · have hrow : RowOK g.vals (g.sc n) acc := ⟨hR.1, hR.2, by have := hR.1; omega⟩
      have fr03 := fr02.trans fr3
      have lt3 : LT H3 a A t := lt.frS st fr03 hsa
      have fx3 : Fz H3 x (eG g) := fx.tk (st.tk fr03) (tb_eG _)
      refine s_asg (d := .int (t.way.length : Int)) ((e_lenL (lt3.e_way (at_var rfl))).is (by rw [List.length_map])) fun v4 H4 s4 f4 => ?_
      obtain rfl := f4.intI
      have fr04 := fr03.trans (Fr.same (fp := [sa]) s4)
      have st4 := st3.same s4
      have lt4 := lt3.same s4
      have fx4 := fx3.same s4
      have frow4 := fr.same s4
      have done : ∀ (vs : List V) (c : Cmd) (ds : List PyData) (H5 : Hp), c.enc = .tuple ds → CmdOK g c → Fr [sa] H H5 → ST H5 sa sc → FzAll H5 vs ds → vs.length ≤ sizeLine ∧ ∀ p, H5 p = none → Q (.ref p) (upd H5 p (.tup vs)) := fun vs c ds H5 he hc fr5 st5 f5 =>
        ⟨by
          have h1 : ds.length ≤ 4 := by cases c <;> cases he <;> simp
          rw [f5.len]
          exact Nat.le_trans h1 (by decide), fun p hp => k _ c _ hc (fr5.trans (Fr.same (same_new hp))) (st5.same (same_new hp)) (by rw [he]; exact .tup upd_same (f5.same (same_new hp)))⟩
      have tbr := tb_eR acc
      have five : ∀ (σ : L2.St) (H5 : Hp) (D : Ends), D.rt = Q → σ[4]? = some (some (.int (n : Int))) → σ[5]? = some (some vr) → Same H4 H5 ∨ Fr [sa] H4 H5 → ST H5 sa sc → tRet (tTup (tCons (tC (.str (Str.ofString "remove"))) (tCons (tVar 4) (tCons (tVar 5) tNil)))) D σ H5 := fun σ H5 D hD h4 h5 hfr st5 => by
        have fr45 : Fr [sa] H4 H5 := hfr.elim (fun s => Fr.same s) id
        refine ret_tup (ca_s (ca_v h4 (ca_v h5 (ca_n ?_))))
        rw [hD]
        exact done _ (.rem n acc) _ H5 rfl ⟨hn, hrow⟩ (fr04.trans fr45) st5 (.cons (.str _) (.cons (.int _) (.cons (frow4.tk (st4.tk fr45) tbr) .nil)))
      refine s_ifQ (t_test (e_lt (e_var rfl (.int (d1 : Int))) e_int)) (fun _ H5 s5 => ?_) fun _ H5 s5 => ?_
      · refine ret_tup (ca_s (ca_v rfl (ca_v rfl (ca_c (nx_go (m := 6) (at_var rfl) (EF.is e_int rfl) (st4.same s5) (by decide) (by decide) fun d H6 hd fr6 st6 => ca_n ?_)))))
        have fr46 : Fr [sa] H4 H6 := (Fr.same s5).trans fr6
        exact done _ (.set n acc d) _ H6 rfl ⟨hn, hrow, by omega, by omega⟩ (fr04.trans fr46) st6 (.cons (.str _) (.cons (.int _) (.cons (frow4.tk (st4.tk fr46) tbr) (.cons (.int _) .nil))))
      have tabAt : atI (t.tabs.map eTab) (n : Int) = some (eTab (t.tabs.getD n [])) := map_at [] (by rw [ht.len]; exact hn)
      have lt5 := lt4.same s5
      have st5 := st4.same s5
      have lenT : ∀ {H6 : Hp} {σ : L2.St}, LT H6 a A t → σ[2]? = some (some (.ref a)) → σ[4]? = some (some (.int (n : Int))) → EF (tCB (rLenQ K) (tCons (tOp (rIxT K) (tOp (rIxL K) (tVar 2) (tC (.int 0))) (tVar 4)) tNil)) σ H6 (.int ((t.tabs.getD n []).length : Int)) := fun l h1 h2 => (e_lenT (ds := (t.tabs.getD n []).map eP) (e_ixT (l.e_tables (at_var h1)) (e_var h2 (.int _)) tabAt)).is (by rw [List.length_map])
      refine s_ifQ (t_and (t_test ((e_eqI (e_var rfl (.int (d1 : Int))) e_int))) fun _ => t_test (e_gt (lenT lt5 rfl rfl) e_int)) (fun hb H6 s6 => ?_) fun _ H6 s6 => ?_
      · have hpos : 1 ≤ (t.tabs.getD n []).length := by
          have := of_decide_eq_true ((Bool.and_eq_true _ _).mp hb).2
          omega
        have hfew := (ht.ok n hn).few
        have lt6 := lt5.same s6
        refine ret_tup (ca_s (ca_v rfl (ca_row (l := t.tabs.getD n []) (e_ixT (lt6.e_tables (at_var rfl)) (e_var rfl (.int _)) tabAt) (st5.same s6) (fun H7 s7 Y hY => nx_go (m := (t.tabs.getD n []).length) (at_var rfl) (lenT (lt6.same s7) rfl rfl) ((st5.same s6).same s7) hpos (by omega) hY) fun v p H8 hp fr8 st8 f8 => ca_n ?_)))
        exact done _ (.rem n p.1) _ H8 rfl ⟨hn, (ht.ok n hn).row p hp⟩ (fr04.trans ((Fr.same (s5.trans s6)).trans fr8)) st8 (.cons (.str _) (.cons (.int _) (.cons f8 .nil)))
      have s46 := s5.trans s6
      have st6 := st4.same s46
      refine s_ifQ (t_and (t_test (e_lt (e_var rfl (.int (d1 : Int))) e_int)) fun _ => t_test (e_gt (e_var rfl (.int (t.way.length : Int))) e_int)) (fun hb H7 s7 => ?_) fun _ H7 s7 => ?_
      · have hpos : 1 ≤ t.way.length := by
          have := (Bool.and_eq_true _ _).mp hb
          have := of_decide_eq_true this.2
          omega
        refine ret_tup (ca_s (ca_c (nx_go (m := t.way.length) (at_var rfl) (e_var rfl (.int _)) (st6.same s7) hpos (by omega) fun d H8 hd fr8 st8 => ca_n ?_)))
        exact done _ (.dlv d) _ H8 rfl (by show d ≤ 39; omega) (fr04.trans ((Fr.same (s46.trans s7)).trans fr8)) st8 (.cons (.str _) (.cons (.int _) .nil))
      have s47 := s46.trans s7
      have st7 := st4.same s47
      refine s_ifQ (t_test (e_eqI (e_var rfl (.int (d1 : Int))) e_int)) (fun _ H8 s8 => ?_) fun _ H8 s8 => ?_
      · refine ret_tup (ca_two (st7.same s8) (fun H9 s9 Y hY => nx_go (m := 2) (at_var rfl) (EF.is e_int rfl) ((st7.same s8).same s9) (by decide) (by decide) hY) fun z H9 hz fr9 st9 => ca_c (nx_go (m := t.way.length + 1) (at_var rfl) ((e_add (e_var rfl (.int (t.way.length : Int))) e_int).is (by simp)) st9 (by omega) (by omega) fun d H10 hd fr10 st10 => ca_n ?_))
        have frA := fr04.trans ((Fr.same (s47.trans s8)).trans (fr9.trans fr10))
        rcases hz with rfl | rfl
        · exact done _ (.dbl d) _ H10 rfl (by show d ≤ 39; omega) frA st10 (.cons (.str _) (.cons (.int _) .nil))
        · exact done _ (.los d) _ H10 rfl (by show d ≤ 39; omega) frA st10 (.cons (.str _) (.cons (.int _) .nil))
      have s48 := s47.trans s8
      have st8 := st4.same s48
      refine s_ifQ (t_test (e_eqI (e_var rfl (.int (d1 : Int))) e_int)) (fun _ H9 s9 => ?_) fun _ H9 s9 => ?_
      · refine ret_tup (ca_s (ca_v rfl (ca_c (nx_go (m := g.n) (at_var rfl) (lenG rfl (fx4.same (s48.trans s9))) (st8.same s9) hn4.1 (by omega) fun d H10 hd fr10 st10 => ca_n ?_))))
        exact done _ (.res n d) _ H10 rfl ⟨hn, hd⟩ (fr04.trans ((Fr.same (s48.trans s9)).trans fr10)) st10 (.cons (.str _) (.cons (.int _) (.cons (.int _) .nil)))
      have s49 := s48.trans s9
      have st9 := st4.same s49
      refine s_ifAN (m := 3) (t_test (e_eqI (e_var rfl (.int (d1 : Int))) e_int)) (at_var rfl) (EF.is e_int rfl) st9 (by decide) (by decide) fun c H10 fr10 st10 => ?_
      have fr410 : Fr [sa] H4 H10 := (Fr.same s49).trans fr10
      cases c with
      | true => exact ret_tup (ca_s (ca_n (done _ .stl _ H10 rfl trivial (fr04.trans fr410) st10 (.cons (.str _) .nil))))
      | false => exact five _ H10 _ rfl rfl rfl (.inr fr410) st10
end
end Tt

/-! sorted(a list of pairs of numbers). -/
namespace Tt
open PySem PySem.Spec PyProof.Rows L2 RZ
theorem k_srtPO {X : Cx} {K : PySem.W.Frag} (hK : X.K = K := by rfl) : CallR X (.builtin "sorted") (rSortedPO K) := by subst hK; exact cr_sortedPO
def ltE (a b : Nat × Nat) : Bool := SrtO.lexB ((a.1 : Int), (a.2 : Int)) ((b.1 : Int), (b.2 : Int))
theorem ordE : Ord ltE := ⟨fun a b h => by
  have := SrtO.lexB_iff.mp h
  refine SrtO.lexB_no.mpr ?_
  simp only at *
  omega, fun a b c h k => by
  have h1 := SrtO.lexB_no.mp h
  have h2 := SrtO.lexB_no.mp k
  refine SrtO.lexB_no.mpr ?_
  simp only at *
  omega⟩
def srtE (l : List (Nat × Nat)) : List (Nat × Nat) := isort ltE l
/-- the pair that a value is -/
def kE (H : Hp) : V → Int × Int
  | .ref t => match H t with
    | some (.tup [.int i, .int j]) => (i, j)
    | _ => (0, 0)
  | _ => (0, 0)
def PE2 (H : Hp) (x : V) (e : Nat × Nat) : Prop := ∃ t, x = .ref t ∧ H t = some (.tup [.int (e.1 : Int), .int (e.2 : Int)])
theorem PE2.k {H : Hp} {x : V} {e : Nat × Nat} (h : PE2 H x e) : kE H x = ((e.1 : Int), (e.2 : Int)) := by
  obtain ⟨t, rfl, h⟩ := h
  unfold kE
  simp only [h]
theorem pe2_of {H : Hp} : ∀ {xs : List V} {l : List (Nat × Nat)}, FzAll H xs (l.map eE) → Paired (PE2 H) xs l
  | _, [], h => by
    cases h
    exact .nil
  | _, e :: l, h => by
    cases h with
    | cons f t =>
      refine .cons ?_ (pe2_of t)
      obtain ⟨a, xs, rfl, ea, fa⟩ := f.tupI
      obtain ⟨u, v, rfl, f1, f2⟩ := fa.I2
      cases f1
      cases f2
      exact ⟨a, rfl, ea⟩
theorem pe2_fz {H : Hp} : ∀ {xs : List V} {l : List (Nat × Nat)}, Paired (PE2 H) xs l → FzAll H xs (l.map eE)
  | _, _, .nil => .nil
  | _, _, .cons ⟨t, e, h⟩ p => by
    subst e
    exact .cons (.tup h (.cons (.int _) (.cons (.int _) .nil))) (pe2_fz p)
theorem paired_perm {α β : Type} {R : α → β → Prop} {xs ys : List α} (hp : ys.Perm xs) : ∀ {l : List β}, Paired R xs l → ∃ l', l'.Perm l ∧ Paired R ys l' := by
  induction hp with
  | nil => exact fun p => ⟨_, .refl _, p⟩
  | cons x _ ih =>
    intro l p
    cases p with
    | cons r t =>
      obtain ⟨l', h1, h2⟩ := ih t
      exact ⟨_, .cons _ h1, .cons r h2⟩
  | swap x y l0 =>
    intro l p
    cases p with
    | cons r t =>
      cases t with
      | cons r2 t => exact ⟨_, .swap _ _ _, .cons r2 (.cons r t)⟩
  | trans _ _ ih1 ih2 =>
    intro l p
    obtain ⟨l1, h1, p1⟩ := ih2 p
    obtain ⟨l2, h2, p2⟩ := ih1 p1
    exact ⟨l2, h2.trans h1, p2⟩
theorem el_sortedE {K : PySem.W.Frag} {σ : L2.St} {H : Hp} {te : TE} {l : List (Nat × Nat)} (h : EF te σ H (.list (l.map eE))) : EL (tCB (rSortedPO K) (tCons te tNil)) σ H ((srtE l).map eE) := el_cb (ea_cons h ea_nil) fun vs H1 s f Q q => by
  obtain ⟨v, rfl, fv⟩ := f.oneI
  obtain ⟨p, xs, rfl, e, fa⟩ := fv.lstI
  have pr := pe2_of fa
  have hx : ∀ x ∈ xs, ∃ t, x = V.ref t ∧ H1 t = some (.tup [.int (kE H1 x).1, .int (kE H1 x).2]) := fun x hx => by
    obtain ⟨i, hi, rfl⟩ := List.mem_iff_getElem.mp hx
    obtain ⟨b, _, hb⟩ := paired_get pr (List.getElem?_eq_getElem hi)
    obtain ⟨t, et, ht⟩ := hb
    refine ⟨t, et, ?_⟩
    rw [PE2.k ⟨t, et, ht⟩]
    exact ht
  refine ⟨p, xs, kE H1, rfl, SqL.of e, hx, fun ys p' hs hb n => ?_⟩
  obtain ⟨l', hp, pr'⟩ := paired_perm hb.perm pr
  have hup : Up ltE l' := by
    have key : ∀ {ys : List V} {l' : List (Nat × Nat)}, Paired (PE2 H1) ys l' → ys.Pairwise (fun a b => L2.ltP (kE H1) b a = false) → Up ltE l' := by
      intro ys l' p
      induction p with
      | nil => exact fun _ => .nil
      | @cons a b as bs r t ih =>
        intro hpw
        obtain ⟨h1, h2⟩ := List.pairwise_cons.mp hpw
        refine List.pairwise_cons.mpr ⟨fun c hc => ?_, ih h2⟩
        obtain ⟨i, hi, rfl⟩ := List.mem_iff_getElem.mp hc
        obtain ⟨u, hu, ru⟩ := paired_getR t (List.getElem?_eq_getElem hi)
        have := h1 u (List.mem_of_getElem? hu)
        unfold L2.ltP at this
        rw [r.k, ru.k] at this
        exact this
    exact key pr' hs
  have hl : l' = srtE l := up_uniq ordE hp hup fun a _ b _ h1 h2 => by
    have h1 := SrtO.lexB_no.mp h1
    have h2 := SrtO.lexB_no.mp h2
    simp only at h1 h2
    exact Prod.ext (by omega) (by omega)
  rw [hl] at pr'
  exact q p' ys _ n (same_new n) upd_same ((pe2_fz pr').same (same_new n))
end Tt

/-! Loops over ranges whose ends are drawn from a stream. -/
namespace Tt
open PySem PySem.Spec L2 RZ
theorem s_forG2 {ta : TA} {gt : TG} {tb w : TS} {D : Ends} {σ : L2.St} {H : Hp} {lo : Nat} (Ok : Nat → Hp → Prop) (h : ∀ Q : List V → Hp → Prop, (∀ (n : Nat) H1, Ok n H1 → Q [.int (lo : Int), .int (n : Int)] H1) → ta σ H Q) (hb : ∀ n H1, Ok n H1 → n ≤ 1000000) (hlo : lo ≤ 1000000)
    (k : ∀ n H1, Ok n H1 → ∃ Pv : Nat → L2.St → Hp → Prop, Pv 0 σ H1 ∧ (∀ i σ' H', i < n - lo → Pv i σ' H' → gt (.int ((lo + i : Nat) : Int)) σ' H' fun σ2 H3 => tb { D with nx := Pv (i + 1), ct := Pv (i + 1), bk := w D } σ2 H3) ∧ (∀ σ' H', Pv (n - lo) σ' H' → w D σ' H')) : tSeq (tFor (iRng2 ta) gt tb) w D σ H := by
  refine h _ fun n H1 ok => ?_
  have hn := hb n H1 ok
  obtain ⟨Pv, h0, hs, hd⟩ := k n H1 ok
  refine ⟨(lo : Int), (n : Int), rfl, ⟨by omega, by omega, by omega, by omega⟩, ?_⟩
  have e : ((n : Int) - (lo : Int)).toNat = n - lo := by omega
  rw [e]
  refine for_it (D := { D with nx := w D }) (walk_range (lo := (lo : Int)) (n := n - lo)) Pv h0 (fun _ _ _ _ _ => trivial) ?_ hd
  rintro i x σ' H' H2 hi p ⟨rfl, rfl⟩
  have := hs i σ' H2 hi p
  rw [Int.natCast_add] at this
  exact this
theorem s_forG1 {ta : TA} {gt : TG} {tb w : TS} {D : Ends} {σ : L2.St} {H : Hp} (Ok : Nat → Hp → Prop) (h : ∀ Q : List V → Hp → Prop, (∀ (n : Nat) H1, Ok n H1 → Q [.int (n : Int)] H1) → ta σ H Q) (hb : ∀ n H1, Ok n H1 → n ≤ 1000000)
    (k : ∀ n H1, Ok n H1 → ∃ Pv : Nat → L2.St → Hp → Prop, Pv 0 σ H1 ∧ (∀ i σ' H', i < n → Pv i σ' H' → gt (.int (i : Int)) σ' H' fun σ2 H3 => tb { D with nx := Pv (i + 1), ct := Pv (i + 1), bk := w D } σ2 H3) ∧ (∀ σ' H', Pv n σ' H' → w D σ' H')) : tSeq (tFor (iRng1 ta) gt tb) w D σ H := by
  refine h _ fun n H1 ok => ?_
  have hn := hb n H1 ok
  obtain ⟨Pv, h0, hs, hd⟩ := k n H1 ok
  refine ⟨(n : Int), rfl, by omega, by omega, ?_⟩
  rw [Int.toNat_natCast]
  refine for_it (D := { D with nx := w D }) (walk_range (lo := 0) (n := n)) Pv h0 (fun _ _ _ _ _ => trivial) ?_ hd
  rintro i x σ' H' H2 hi p ⟨rfl, rfl⟩
  have := hs i σ' H2 hi p
  show gt (.int (0 + (i : Int))) σ' H2 _
  rw [Int.zero_add]
  exact this
end Tt

/-! What graphs the law makes. -/
namespace Tt
open PySem
structure GI (scs : List Row) (eds : List (Nat × Nat)) (fr : Nat) : Prop where
  asc : ∀ s ∈ scs, s.Pairwise (· < ·)
  rng : ∀ s ∈ scs, ∀ v ∈ s, 0 ≤ v ∧ v < (fr : Int)
  few : ∀ s ∈ scs, s.length ≤ 3
  len : scs.length = eds.length + 1
  ed : ∀ i e, eds[i]? = some e → e.2 = i + 1 ∧ e.1 ≤ i
  f3 : 3 ≤ fr ∧ fr ≤ 6
  run : ∀ n v, n < scs.length → v ∈ scs.getD n [] → (∀ m, m < n → v ∉ scs.getD m []) ∨ ∃ p, (p, n) ∈ eds ∧ v ∈ scs.getD p []
theorem GI.start {s : Row} (h1 : s.Pairwise (· < ·)) (h2 : ∀ v ∈ s, 0 ≤ v ∧ v < 3) (h3 : s.length ≤ 3) : GI [s] [] 3 where
  asc := fun x hx => by rw [List.mem_singleton.mp hx]; exact h1
  rng := fun x hx => by rw [List.mem_singleton.mp hx]; exact h2
  few := fun x hx => by rw [List.mem_singleton.mp hx]; exact h3
  len := rfl
  ed := fun i e h => by simp at h
  f3 := by omega
  run := fun n v hn hv => .inl fun m hm => by
    simp at hn
    omega
theorem getD_app_lt {l : List Row} {x : Row} {n : Nat} (h : n < l.length) : (l ++ [x]).getD n [] = l.getD n [] := by
  simp [List.getD_eq_getElem?_getD, List.getElem?_append, h]
theorem getD_app_eq {l : List Row} {x : Row} : (l ++ [x]).getD l.length [] = x := by
  simp [List.getD_eq_getElem?_getD]
/-- one node more: a part of the parent's scope, and perhaps the fresh variable -/
theorem GI.step {scs : List Row} {eds : List (Nat × Nat)} {fr fr' p : Nat} {s t : Row} (h : GI scs eds fr) (hp : p < scs.length) (hs : s.Sublist (scs.getD p [])) (hl : s.length ≤ 2)
    (ht : (t = s ∧ fr' = fr) ∨ (t = s ++ [(fr : Int)] ∧ fr' = fr + 1 ∧ fr < 6)) : GI (scs ++ [t]) (eds ++ [(p, scs.length)]) fr' := by
  have hpm : scs.getD p [] ∈ scs := by
    rw [List.getD_eq_getElem?_getD, List.getElem?_eq_getElem hp]
    exact List.getElem_mem hp
  have hrs : ∀ v ∈ s, 0 ≤ v ∧ v < (fr : Int) := fun v hv => h.rng _ hpm v (hs.subset hv)
  have has : s.Pairwise (· < ·) := (h.asc _ hpm).sublist hs
  have hf : fr ≤ fr' := by rcases ht with ⟨_, e⟩ | ⟨_, e, _⟩ <;> omega
  have hta : t.Pairwise (· < ·) := by
    rcases ht with ⟨rfl, _⟩ | ⟨rfl, _⟩
    · exact has
    · refine List.pairwise_append.mpr ⟨has, List.pairwise_singleton _ _, fun a ha b hb => ?_⟩
      rw [List.mem_singleton.mp hb]
      exact (hrs a ha).2
  have htm : ∀ v ∈ t, v ∈ s ∨ (v = (fr : Int) ∧ fr' = fr + 1) := fun v hv => by
    rcases ht with ⟨rfl, _⟩ | ⟨rfl, e, _⟩
    · exact .inl hv
    · rcases List.mem_append.mp hv with h | h
      · exact .inl h
      · exact .inr ⟨List.mem_singleton.mp h, e⟩
  refine ⟨fun x hx => ?_, fun x hx v hv => ?_, fun x hx => ?_, ?_, fun i e he => ?_, ?_, fun n v hn hv => ?_⟩
  · rcases List.mem_append.mp hx with hx | hx
    · exact h.asc x hx
    · rw [List.mem_singleton.mp hx]
      exact hta
  · rcases List.mem_append.mp hx with hx | hx
    · have := h.rng x hx v hv
      omega
    · rw [List.mem_singleton.mp hx] at hv
      rcases htm v hv with h1 | ⟨h1, h2⟩
      · have := hrs v h1
        omega
      · omega
  · rcases List.mem_append.mp hx with hx | hx
    · exact h.few x hx
    · rw [List.mem_singleton.mp hx]
      rcases ht with ⟨rfl, _⟩ | ⟨rfl, _⟩
      · omega
      · rw [List.length_append, List.length_singleton]
        omega
  · rw [List.length_append, List.length_append, h.len]
    rfl
  · rw [List.getElem?_append] at he
    split at he
    · exact h.ed i e he
    · rename_i hi
      have hl := h.len
      have h0 : i - eds.length = 0 := by
        have := (List.getElem?_eq_some_iff.mp he).1
        simp at this
        omega
      rw [h0] at he
      simp at he
      rw [← he]
      exact ⟨by simp only; omega, by simp only; omega⟩
  · have := h.f3
    rcases ht with ⟨_, e⟩ | ⟨_, e, _⟩ <;> omega
  · rw [List.length_append, List.length_singleton] at hn
    by_cases hlt : n < scs.length
    · rw [getD_app_lt hlt] at hv
      rcases h.run n v hlt hv with h1 | ⟨q, h1, h2⟩
      · exact .inl fun m hm => by
          rw [getD_app_lt (by omega)]
          exact h1 m hm
      · refine .inr ⟨q, List.mem_append_left _ h1, ?_⟩
        have hq : q < scs.length := by
          obtain ⟨i, hi, he⟩ := List.mem_iff_getElem.mp h1
          have := h.ed i (q, n) (by rw [List.getElem?_eq_getElem hi, he])
          have hl := h.len
          simp only at this
          omega
        rw [getD_app_lt hq]
        exact h2
    · have hn' : n = scs.length := by omega
      subst hn'
      rw [getD_app_eq] at hv
      rcases htm v hv with h1 | ⟨h1, h2⟩
      · refine .inr ⟨p, List.mem_append_right _ (by simp), ?_⟩
        rw [getD_app_lt hp]
        exact hs.subset h1
      · refine .inl fun m hm hmem => ?_
        rw [getD_app_lt hm] at hmem
        have hmm : scs.getD m [] ∈ scs := by
          rw [List.getD_eq_getElem?_getD, List.getElem?_eq_getElem hm]
          exact List.getElem_mem hm
        have := h.rng _ hmm v hmem
        omega
theorem GI.gok {scs : List Row} {eds : List (Nat × Nat)} {fr : Nat} {vals : Int} (h : GI scs eds fr) (hn : scs.length ≤ 4) (hv : vals = 2 ∨ vals = 3) : GOK ⟨vals, scs, srtE eds⟩ := by
  have hf := h.f3
  refine ⟨hv, h.asc, fun s hs v hv => ?_, h.few, ?_, fun n v hn hv => ?_⟩
  · have := h.rng s hs v hv
    omega
  · have hl := h.len
    show (scs.length, srtE eds) ∈ shapes
    rw [hl]
    have hel : eds.length ≤ 3 := by omega
    match eds, h.ed, hel with
    | [], _, _ => decide
    | [a], he, _ =>
      have h0 := he 0 a rfl
      obtain ⟨a1, a2⟩ := a
      simp only at h0
      obtain ⟨rfl, h0⟩ := h0
      obtain rfl : a1 = 0 := by omega
      decide
    | [a, b], he, _ =>
      have h0 := he 0 a rfl
      have h1 := he 1 b rfl
      obtain ⟨a1, a2⟩ := a
      obtain ⟨b1, b2⟩ := b
      simp only at h0 h1
      obtain ⟨rfl, h0⟩ := h0
      obtain ⟨rfl, h1⟩ := h1
      obtain rfl : a1 = 0 := by omega
      rcases (show b1 = 0 ∨ b1 = 1 by omega) with rfl | rfl <;> decide
    | [a, b, c], he, _ =>
      have h0 := he 0 a rfl
      have h1 := he 1 b rfl
      have h2 := he 2 c rfl
      obtain ⟨a1, a2⟩ := a
      obtain ⟨b1, b2⟩ := b
      obtain ⟨c1, c2⟩ := c
      simp only at h0 h1 h2
      obtain ⟨rfl, h0⟩ := h0
      obtain ⟨rfl, h1⟩ := h1
      obtain ⟨rfl, h2⟩ := h2
      obtain rfl : a1 = 0 := by omega
      rcases (show b1 = 0 ∨ b1 = 1 by omega) with rfl | rfl <;> rcases (show c1 = 0 ∨ c1 = 1 ∨ c1 = 2 by omega) with rfl | rfl | rfl <;> decide
  · rcases h.run n v hn hv with h1 | ⟨p, h1, h2⟩
    · exact .inl h1
    · exact .inr ⟨p, (isort_perm ltE eds).mem_iff.mpr h1, h2⟩
end Tt

/-! What the talk's steps keep: weights on the way, and that each node sent last what it must. -/
namespace Tt
open PySem
section
variable {α : Type} {f k : α → Nat}
theorem sum_sub : ∀ {l m : List α}, l.Sublist m → (l.map f).sum ≤ (m.map f).sum
  | _, _, .slnil => Nat.le_refl _
  | _, _, .cons a h => by
    have := sum_sub h
    simp only [List.map_cons, List.sum_cons]
    omega
  | _, _, .cons_cons a h => by
    have := sum_sub h
    simp only [List.map_cons, List.sum_cons]
    omega
theorem sum_le : ∀ {l : List α}, (∀ x ∈ l, f x ≤ k x) → (l.map f).sum ≤ (l.map k).sum
  | [], _ => Nat.le_refl _
  | a :: l, h => by
    have h1 := h a List.mem_cons_self
    have h2 := sum_le fun x hx => h x (List.mem_cons_of_mem _ hx)
    simp only [List.map_cons, List.sum_cons]
    omega
theorem sum_add : ∀ (l : List α), (l.map fun x => f x + k x).sum = (l.map f).sum + (l.map k).sum
  | [] => rfl
  | a :: l => by
    have h2 := sum_add l
    simp only [List.map_cons, List.sum_cons]
    omega
theorem sum_drop {d : α} {c : Nat} : ∀ {l : List α}, (∀ x ∈ l, f x ≤ k x) → d ∈ l → f d + c ≤ k d → (l.map f).sum + c ≤ (l.map k).sum
  | [], _, hd, _ => nomatch hd
  | a :: l, h, hd, e => by
    simp only [List.map_cons, List.sum_cons]
    rcases List.mem_cons.mp hd with rfl | hd
    · have h2 := sum_le fun x hx => h x (List.mem_cons_of_mem _ hx)
      omega
    · have h1 := h a List.mem_cons_self
      have h2 := sum_drop (fun x hx => h x (List.mem_cons_of_mem _ hx)) hd e
      omega
theorem sum_one : ∀ {l : List α} {x : α}, x ∈ l → f x ≤ (l.map f).sum
  | [], _, h => nomatch h
  | a :: l, x, h => by
    simp only [List.map_cons, List.sum_cons]
    rcases List.mem_cons.mp h with rfl | h
    · omega
    · have := sum_one h
      omega
theorem len_sum : ∀ {l : List α}, (∀ x ∈ l, 1 ≤ f x) → l.length ≤ (l.map f).sum
  | [], _ => Nat.le_refl _
  | a :: l, h => by
    have h1 := h a List.mem_cons_self
    have h2 := len_sum fun x hx => h x (List.mem_cons_of_mem _ hx)
    simp only [List.map_cons, List.sum_cons, List.length_cons]
    omega
end
/-! ### weights of the directions -/
def wN (eds : List (Nat × Nat)) : Nat → Nat → Nat → Nat
  | 0, _, _ => 1
  | f + 1, a, b => max 1 ((othE eds b a).map (wN eds f b)).sum
def vN (eds : List (Nat × Nat)) : Nat → Nat → Nat → Nat
  | 0, _, _ => 1
  | f + 1, a, b => 1 + 2 * ((othE eds b a).map (vN eds f b)).sum
theorem wN_all : ∀ p ∈ shapes, (∀ d ∈ dirsE p.2, 1 ≤ wN p.2 4 d.1 d.2 ∧ wN p.2 4 d.1 d.2 ≤ 2 ∧ ((othE p.2 d.2 d.1).map (wN p.2 4 d.2)).sum ≤ wN p.2 4 d.1 d.2) ∧ ∀ n ∈ List.range p.1, ((nbE p.2 n).map (wN p.2 4 n)).sum ≤ 3 := by decide +kernel
theorem vN_all : ∀ p ∈ shapes, (∀ d ∈ dirsE p.2, vN p.2 4 d.1 d.2 ≤ 7 ∧ 1 + 2 * ((othE p.2 d.2 d.1).map (vN p.2 4 d.2)).sum ≤ vN p.2 4 d.1 d.2) ∧ ∀ n ∈ List.range p.1, 2 * ((nbE p.2 n).map (vN p.2 4 n)).sum ≤ 14 := by decide +kernel
theorem vS_all : ∀ p ∈ shapes, ∀ n ∈ List.range p.1, ∀ S ∈ subs (nbE p.2 n), ((dirsE p.2).map fun d => if d.1 = n ∧ d.2 ∈ S then vN p.2 4 d.1 d.2 else 0).sum ≤ (S.map (vN p.2 4 n)).sum := by decide +kernel
theorem nb_nodup : ∀ p ∈ shapes, ∀ n ∈ List.range p.1, (nbE p.2 n).Nodup := by decide +kernel
theorem dix_get {g : Gr} {a b : Nat} (h : (a, b) ∈ dirs g) : (dirs g).getD (dix g a b) (0, 0) = (a, b) := by
  have hi := dix_lt h
  have e : (dirs g)[dix g a b] = (a, b) := List.getElem_idxOf hi
  rw [List.getD_eq_getElem?_getD, List.getElem?_eq_getElem hi, e]
  rfl
theorem dix_inj {g : Gr} {a b c d : Nat} (h : (a, b) ∈ dirs g) (k : (c, d) ∈ dirs g) (e : dix g a b = dix g c d) : a = c ∧ b = d := by
  have h1 := dix_get h
  rw [e, dix_get k] at h1
  cases h1
  exact ⟨rfl, rfl⟩
/-! ### what a message asks -/
theorem foldL_congr {g : Gr} {ms ms' : List Msg} {a : Nat} {row : Row} : ∀ (l : List Nat) (acc : Int × Int), (∀ o ∈ l, ms.getD (dix g o a) [] = ms'.getD (dix g o a) []) → l.foldl (stepL g ms a row) acc = l.foldl (stepL g ms' a row) acc
  | [], _, _ => rfl
  | o :: l, acc, h => by
    rw [List.foldl_cons, List.foldl_cons]
    have e : stepL g ms a row acc o = stepL g ms' a row acc o := by
      unfold stepL
      rw [h o List.mem_cons_self]
    rw [e]
    exact foldL_congr l _ fun o ho => h o (List.mem_cons_of_mem _ ho)
theorem req_congr {g : Gr} {tabs tabs' : List Tab} {ms ms' : List Msg} {a b : Nat} (ht : tabs.getD a [] = tabs'.getD a []) (hm : ∀ o ∈ oths g a b, ms.getD (dix g o a) [] = ms'.getD (dix g o a) []) : required g tabs ms a b = required g tabs' ms' a b := by
  have e : leftRows g tabs ms a (oths g a b) = leftRows g tabs' ms' a (oths g a b) := by
    unfold leftRows
    rw [ht]
    congr 1
    funext p
    unfold leftRow
    rw [foldL_congr _ _ hm]
  unfold required
  show gather ((leftRows g tabs ms a (oths g a b)).map _) = gather ((leftRows g tabs' ms' a (oths g a b)).map _)
  rw [e]
def Fix (g : Gr) (t : Tk) : Prop := ∀ a b, (a, b) ∈ dirs g → lastM (t.snt (dix g a b)) = required g t.tabs t.km a b
abbrev chg (g : Gr) (ms : List Msg) (node : Nat) (t : Tk) (o : Nat) : Bool := !decide (required g t.tabs ms node o = lastM (t.snt (dix g node o)))
structure UF (g : Gr) (ms : List Msg) (node : Nat) (l : List Nat) (t t' : Tk) : Prop where
  tabs : t'.tabs = t.tabs
  kept : t'.kept = t.kept
  sl : t'.sent.length = t.sent.length
  way : t'.way = t.way ++ (l.filter (chg g ms node t)).map fun o => (dix g node o, (t.snt (dix g node o)).length)
  at_ : ∀ o ∈ l, t'.snt (dix g node o) = if chg g ms node t o = true then t.snt (dix g node o) ++ [required g t.tabs ms node o] else t.snt (dix g node o)
  out : ∀ j, (∀ o ∈ l, dix g node o ≠ j) → t'.snt j = t.snt j
theorem foldU_form (g : Gr) (ms : List Msg) (node : Nat) : ∀ (l : List Nat) (st : Tk × Nat), l.Nodup → (∀ o ∈ l, (node, o) ∈ dirs g) → st.1.sent.length = (dirs g).length → UF g ms node l st.1 (l.foldl (stepU g ms node) st).1
  | [], st, _, _, _ => ⟨rfl, rfl, rfl, by simp, fun _ h => (nomatch h), fun _ _ => rfl⟩
  | o :: l, st, hn, hd, hs => by
    obtain ⟨hn1, hn2⟩ := List.nodup_cons.mp hn
    have hdo := hd o List.mem_cons_self
    have hdl : ∀ o2 ∈ l, (node, o2) ∈ dirs g := fun o2 h2 => hd o2 (List.mem_cons_of_mem _ h2)
    have hne : ∀ o2 ∈ l, dix g node o2 ≠ dix g node o := fun o2 h2 e2 => hn1 ((dix_inj (hdl o2 h2) hdo e2).2 ▸ h2)
    have hix : dix g node o < st.1.sent.length := by
      rw [hs]
      exact dix_lt hdo
    rw [List.foldl_cons]
    by_cases e : required g st.1.tabs ms node o = lastM (st.1.snt (dix g node o))
    · have e1 : stepU g ms node st o = st := by
        unfold stepU
        rw [if_pos e]
      have ec : chg g ms node st.1 o = false := by
        show (!decide _) = false
        rw [decide_eq_true e]
        rfl
      rw [e1]
      have ih := foldU_form g ms node l st hn2 hdl hs
      refine ⟨ih.tabs, ih.kept, ih.sl, ?_, fun o' ho' => ?_, fun j hj => ih.out j fun o2 h2 => hj o2 (List.mem_cons_of_mem _ h2)⟩
      · rw [ih.way, List.filter_cons_of_neg (by rw [ec]; decide)]
      · rcases List.mem_cons.mp ho' with rfl | h
        · rw [ec, if_neg (by decide)]
          exact ih.out _ hne
        · exact ih.at_ o' h
    · have e1 : stepU g ms node st o = (Tk.mk st.1.tabs (st.1.sent.set (dix g node o) (st.1.snt (dix g node o) ++ [required g st.1.tabs ms node o])) st.1.kept (st.1.way ++ [(dix g node o, (st.1.snt (dix g node o)).length)]), st.2 + 1) := by
        unfold stepU
        rw [if_neg e]
      have ec : chg g ms node st.1 o = true := by
        show (!decide _) = true
        rw [decide_eq_false e]
        rfl
      rw [e1]
      have hsn : ∀ j, (Tk.mk st.1.tabs (st.1.sent.set (dix g node o) (st.1.snt (dix g node o) ++ [required g st.1.tabs ms node o])) st.1.kept (st.1.way ++ [(dix g node o, (st.1.snt (dix g node o)).length)])).snt j = if dix g node o = j then st.1.snt (dix g node o) ++ [required g st.1.tabs ms node o] else st.1.snt j := fun j => snt_put hix
      have ih := foldU_form g ms node l (Tk.mk st.1.tabs (st.1.sent.set (dix g node o) (st.1.snt (dix g node o) ++ [required g st.1.tabs ms node o])) st.1.kept (st.1.way ++ [(dix g node o, (st.1.snt (dix g node o)).length)]), st.2 + 1) hn2 hdl (by
        show (List.set _ _ _).length = _
        rw [List.length_set, hs])
      have hsl : ∀ o2 ∈ l, (Tk.mk st.1.tabs (st.1.sent.set (dix g node o) (st.1.snt (dix g node o) ++ [required g st.1.tabs ms node o])) st.1.kept (st.1.way ++ [(dix g node o, (st.1.snt (dix g node o)).length)])).snt (dix g node o2) = st.1.snt (dix g node o2) := fun o2 h2 => by
        rw [hsn, if_neg (Ne.symm (hne o2 h2))]
      generalize ht1 : Tk.mk st.1.tabs (st.1.sent.set (dix g node o) (st.1.snt (dix g node o) ++ [required g st.1.tabs ms node o])) st.1.kept (st.1.way ++ [(dix g node o, (st.1.snt (dix g node o)).length)]) = t1 at ih hsn hsl ⊢
      have htb : t1.tabs = st.1.tabs := by rw [← ht1]
      have hwy : t1.way = st.1.way ++ [(dix g node o, (st.1.snt (dix g node o)).length)] := by rw [← ht1]
      have hkp : t1.kept = st.1.kept := by rw [← ht1]
      have hln : t1.sent.length = st.1.sent.length := by
        rw [← ht1]
        exact List.length_set ..
      have hchg : ∀ o2 ∈ l, chg g ms node t1 o2 = chg g ms node st.1 o2 := fun o2 h2 => by
        show (!decide (required g t1.tabs ms node o2 = lastM (t1.snt (dix g node o2)))) = _
        rw [htb, hsl o2 h2]
      refine ⟨ih.tabs.trans htb, ih.kept.trans hkp, ih.sl.trans hln, ?_, fun o' ho' => ?_, fun j hj => ?_⟩
      · rw [ih.way, List.filter_cons_of_pos (by rw [ec]), hwy, List.append_assoc, List.filter_congr hchg]
        show st.1.way ++ ([_] ++ _) = st.1.way ++ (_ :: _)
        rw [List.singleton_append]
        congr 2
        refine List.map_congr_left fun o2 h2 => ?_
        rw [hsl o2 (List.mem_filter.mp h2).1]
      · rcases List.mem_cons.mp ho' with rfl | h
        · rw [ec, if_pos rfl, ih.out _ hne, hsn, if_pos rfl]
        · rw [ih.at_ o' h, hchg o' h, hsl o' h, htb]
      · rw [ih.out j fun o2 h2 => hj o2 (List.mem_cons_of_mem _ h2), hsn, if_neg (hj o List.mem_cons_self)]
theorem lastM_snoc (l : List Msg) (x : Msg) : lastM (l ++ [x]) = x := by
  unfold lastM
  rw [List.length_append, List.length_singleton, Nat.add_sub_cancel, List.getD_eq_getElem?_getD]
  simp
/-! ### the weights of a talk -/
def wI (g : Gr) (i : Nat) : Nat := wN g.eds 4 ((dirs g).getD i (0, 0)).1 ((dirs g).getD i (0, 0)).2
def vI (g : Gr) (i : Nat) : Nat := vN g.eds 4 ((dirs g).getD i (0, 0)).1 ((dirs g).getD i (0, 0)).2
def uns (g : Gr) (t : Tk) : Nat := ((dirs g).map fun d => if t.kpt (dix g d.1 d.2) + 1 < (t.snt (dix g d.1 d.2)).length then vN g.eds 4 d.1 d.2 else 0).sum
def Phi (g : Gr) (t : Tk) : Nat := (t.way.map fun p => wI g p.1).sum
def Psi (g : Gr) (t : Tk) : Nat := (t.way.map fun p => vI g p.1).sum + uns g t
theorem wI_dix {g : Gr} {a b : Nat} (h : (a, b) ∈ dirs g) : wI g (dix g a b) = wN g.eds 4 a b := by
  unfold wI
  rw [dix_get h]
theorem vI_dix {g : Gr} {a b : Nat} (h : (a, b) ∈ dirs g) : vI g (dix g a b) = vN g.eds 4 a b := by
  unfold vI
  rw [dix_get h]
theorem dir_at {g : Gr} {i : Nat} (hi : i < (dirs g).length) : (((dirs g).getD i (0, 0)).1, ((dirs g).getD i (0, 0)).2) ∈ dirs g := by
  rw [List.getD_eq_getElem?_getD, List.getElem?_eq_getElem hi]
  exact List.getElem_mem hi
theorem dix_at {g : Gr} (G : GOK g) {i : Nat} (hi : i < (dirs g).length) : dix g ((dirs g).getD i (0, 0)).1 ((dirs g).getD i (0, 0)).2 = i := by
  have := idx_getD G hi
  rw [List.getD_eq_getElem?_getD, List.getElem?_eq_getElem hi]
  exact this
theorem wI_bd {g : Gr} (G : GOK g) {i : Nat} (hi : i < (dirs g).length) : 1 ≤ wI g i ∧ wI g i ≤ 2 := by
  have := (wN_all _ G.shape).1 _ (dir_at hi)
  exact ⟨this.1, this.2.1⟩
theorem vI_bd {g : Gr} (G : GOK g) {i : Nat} (hi : i < (dirs g).length) : 1 ≤ vI g i ∧ vI g i ≤ 7 := by
  have h := (vN_all _ G.shape).1 _ (dir_at hi)
  simp only at h
  unfold vI
  omega
theorem way_phi {g : Gr} {t : Tk} (G : GOK g) (gd : Good g t) : t.way.length ≤ Phi g t := len_sum fun p hp => (wI_bd G (gd.wb p hp).1).1
theorem uns_kept {g : Gr} {t t' : Tk} (h : ∀ d ∈ dirs g, (t'.snt (dix g d.1 d.2)).length = (t.snt (dix g d.1 d.2)).length) (k : ∀ d ∈ dirs g, t.kpt (dix g d.1 d.2) ≤ t'.kpt (dix g d.1 d.2)) : uns g t' ≤ uns g t := sum_le fun d hd => by
  have h1 := h d hd
  have h2 := k d hd
  split
  · rw [if_pos (by omega)]
    exact Nat.le_refl _
  · exact Nat.zero_le _
theorem lt_range {g : Gr} {n : Nat} (h : n < g.n) : n ∈ List.range g.n := List.mem_range.mpr h
theorem upd_all {g : Gr} {t : Tk} {node : Nat} (G : GOK g) (gd : Good g t) (hn : node < g.n) (hb : ∀ i, (t.snt i).length ≤ 89999) (hf : ∀ a b, (a, b) ∈ dirs g → a ≠ node → lastM (t.snt (dix g a b)) = required g t.tabs t.km a b) :
    Good g (updT g t node).1 ∧ Fix g (updT g t node).1 ∧ (updT g t node).1.tabs = t.tabs ∧ (∀ i, ((updT g t node).1.snt i).length ≤ (t.snt i).length + 1) ∧
    Phi g (updT g t node).1 = Phi g t + (((nbrs g node).filter (chg g t.km node t)).map (wN g.eds 4 node)).sum ∧
    Psi g (updT g t node).1 ≤ Psi g t + 2 * (((nbrs g node).filter (chg g t.km node t)).map (vN g.eds 4 node)).sum := by
  have hnd : (nbrs g node).Nodup := nb_nodup _ G.shape node (lt_range hn)
  have hdir : ∀ o ∈ nbrs g node, (node, o) ∈ dirs g := fun o ho => (nbr_dir ho).2
  have u := foldU_form g t.km node (nbrs g node) (t, 0) hnd hdir gd.fit.sl
  have eu : ((nbrs g node).foldl (stepU g t.km node) (t, 0)).1 = (updT g t node).1 := rfl
  rw [eu] at u
  simp only at u
  generalize (updT g t node).1 = t' at u ⊢
  have hkpt : ∀ i, t'.kpt i = t.kpt i := fun i => by
    unfold Tk.kpt
    rw [u.kept]
  have hother : ∀ a b, (a, b) ∈ dirs g → a ≠ node → t'.snt (dix g a b) = t.snt (dix g a b) := fun a b hd hne => u.out _ fun o ho e => hne (dix_inj (hdir o ho) hd e).1.symm
  have hgrow : ∀ i, t'.snt i = t.snt i ∨ ∃ m, t'.snt i = t.snt i ++ [m] := fun i => by
    by_cases h : ∃ o ∈ nbrs g node, dix g node o = i
    · obtain ⟨o, ho, rfl⟩ := h
      rw [u.at_ o ho]
      split
      · exact .inr ⟨_, rfl⟩
      · exact .inl rfl
    · exact .inl (u.out i fun o ho e => h ⟨o, ho, e⟩)
  have hlen : ∀ i, (t.snt i).length ≤ (t'.snt i).length ∧ (t'.snt i).length ≤ (t.snt i).length + 1 := fun i => by
    rcases hgrow i with e | ⟨m, e⟩
    · rw [e]
      omega
    · rw [e, List.length_append, List.length_singleton]
      omega
  have gd' : Good g t' := by
    refine ⟨by rw [u.tabs]; exact gd.tabs, ⟨u.sl.trans gd.fit.sl, by rw [u.kept]; exact gd.fit.kl, fun i hi => ?_, fun i => ?_⟩, fun a b hd m hm => ?_, fun p hp => ?_⟩
    · rw [hkpt]
      exact Nat.lt_of_lt_of_le (gd.fit.kb i hi) (hlen i).1
    · have h1 := (hlen i).2
      have h2 := hb i
      omega
    · by_cases e : a = node
      · subst e
        rw [u.at_ b (dir_nbr hd)] at hm
        split at hm
        · rcases List.mem_append.mp hm with h | h
          · exact gd.mb a b hd m h
          · rw [List.mem_singleton.mp h]
            exact req_bd G hd gd.tabs gd.km
        · exact gd.mb a b hd m hm
      · rw [hother a b hd e] at hm
        exact gd.mb a b hd m hm
    · rw [u.way] at hp
      rcases List.mem_append.mp hp with h | h
      · have := gd.wb p h
        exact ⟨this.1, Nat.lt_of_lt_of_le this.2 (hlen _).1⟩
      · obtain ⟨o, ho, rfl⟩ := List.mem_map.mp h
        obtain ⟨ho1, ho2⟩ := List.mem_filter.mp ho
        refine ⟨dix_lt (hdir o ho1), ?_⟩
        show (t.snt (dix g node o)).length < (t'.snt (dix g node o)).length
        rw [u.at_ o ho1, if_pos ho2, List.length_append, List.length_singleton]
        omega
  have hkm : ∀ i, i < (dirs g).length → t.km.getD i [] = t'.km.getD i [] := fun i hi => by
    rw [km_at gd.fit hi, km_at gd'.fit hi, hkpt]
    have h1 := gd.fit.kb i hi
    rcases hgrow i with e | ⟨m, e⟩
    · rw [e]
    · rw [e, List.getD_eq_getElem?_getD, List.getD_eq_getElem?_getD, List.getElem?_append_left h1]
  have hreq : ∀ a b, (a, b) ∈ dirs g → required g t.tabs t.km a b = required g t'.tabs t'.km a b := fun a b hd => req_congr (by rw [u.tabs]) fun o ho => hkm _ (dix_lt (nbr_dir (List.mem_filter.mp ho).1).1)
  refine ⟨gd', fun a b hd => ?_, u.tabs, fun i => (hlen i).2, ?_, ?_⟩
  · rw [← hreq a b hd]
    by_cases e : a = node
    · subst e
      rw [u.at_ b (dir_nbr hd)]
      split
      · rw [lastM_snoc]
      · rename_i h
        have h' : decide (required g t.tabs t.km a b = lastM (t.snt (dix g a b))) = true := by simpa using h
        exact (of_decide_eq_true h').symm
    · rw [hother a b hd e]
      exact hf a b hd e
  · unfold Phi
    rw [u.way, List.map_append, List.sum_append, List.map_map]
    congr 2
    refine List.map_congr_left fun o ho => ?_
    exact wI_dix (hdir o (List.mem_filter.mp ho).1)
  · unfold Psi
    rw [u.way, List.map_append, List.sum_append, List.map_map]
    have e1 : (((nbrs g node).filter (chg g t.km node t)).map ((fun p : Nat × Nat => vI g p.1) ∘ fun o => (dix g node o, (t.snt (dix g node o)).length))).sum = (((nbrs g node).filter (chg g t.km node t)).map (vN g.eds 4 node)).sum := by
      congr 1
      refine List.map_congr_left fun o ho => ?_
      exact vI_dix (hdir o (List.mem_filter.mp ho).1)
    rw [e1]
    have e2 : uns g t' ≤ uns g t + (((nbrs g node).filter (chg g t.km node t)).map (vN g.eds 4 node)).sum := by
      have h1 := vS_all _ G.shape node (lt_range hn) _ (mem_subs (List.filter_sublist (p := chg g t.km node t) (l := nbrs g node)))
      have h2 : uns g t' ≤ ((dirs g).map fun d => (if t.kpt (dix g d.1 d.2) + 1 < (t.snt (dix g d.1 d.2)).length then vN g.eds 4 d.1 d.2 else 0) + (if d.1 = node ∧ d.2 ∈ (nbrs g node).filter (chg g t.km node t) then vN g.eds 4 d.1 d.2 else 0)).sum := sum_le fun d hd => by
        have hd' : (d.1, d.2) ∈ dirs g := hd
        rw [hkpt]
        by_cases hS : d.1 = node ∧ d.2 ∈ (nbrs g node).filter (chg g t.km node t)
        · rw [if_pos hS]
          split <;> omega
        · rw [if_neg hS]
          have e : t'.snt (dix g d.1 d.2) = t.snt (dix g d.1 d.2) := by
            by_cases e : d.1 = node
            · rw [e] at hd' ⊢
              have hb := dir_nbr hd'
              rw [u.at_ _ hb, if_neg fun hc => hS ⟨e, List.mem_filter.mpr ⟨hb, hc⟩⟩]
            · exact hother _ _ hd' e
          rw [e]
          omega
      rw [sum_add] at h2
      have h3 : ((dirs g).map fun d => if d.1 = node ∧ d.2 ∈ (nbrs g node).filter (chg g t.km node t) then vN g.eds 4 d.1 d.2 else 0).sum ≤ (((nbrs g node).filter (chg g t.km node t)).map (vN g.eds 4 node)).sum := h1
      have h4 : ((dirs g).map fun d => if t.kpt (dix g d.1 d.2) + 1 < (t.snt (dix g d.1 d.2)).length then vN g.eds 4 d.1 d.2 else 0).sum = uns g t := rfl
      omega
    omega
theorem arr_all {g : Gr} {t : Tk} {i n : Nat} (G : GOK g) (gd : Good g t) (fx : Fix g t) (hi : i < (dirs g).length) (hn : n < (t.snt i).length) (hb : ∀ i, (t.snt i).length ≤ 89999) :
    Good g (arrT g t i n).1 ∧ Fix g (arrT g t i n).1 ∧ (arrT g t i n).1.tabs = t.tabs ∧ (∀ j, ((arrT g t i n).1.snt j).length ≤ (t.snt j).length + 1) ∧
    Phi g (arrT g t i n).1 ≤ Phi g t + wI g i ∧ Psi g (arrT g t i n).1 + 1 ≤ Psi g t + vI g i ∧ (t.kpt i < n → n + 1 = (t.snt i).length → Psi g (arrT g t i n).1 + 1 ≤ Psi g t) := by
  have hv := (vI_bd G hi).1
  unfold arrT
  split
  · rename_i hle
    exact ⟨gd, fx, rfl, fun j => Nat.le_succ _, Nat.le_add_right _ _, by show Psi g t + 1 ≤ _; omega, fun h => absurd h (by omega)⟩
  · rename_i hgt
    have hdir := dir_at hi
    have hix := dix_at G hi
    have hvi : vI g i = vN g.eds 4 ((dirs g).getD i (0, 0)).1 ((dirs g).getD i (0, 0)).2 := rfl
    have hwi : wI g i = wN g.eds 4 ((dirs g).getD i (0, 0)).1 ((dirs g).getD i (0, 0)).2 := rfl
    generalize ((dirs g).getD i (0, 0)).1 = x at hdir hix hvi hwi ⊢
    generalize ((dirs g).getD i (0, 0)).2 = y at hdir hix hvi hwi ⊢
    have hik : i < t.kept.length := by
      rw [gd.fit.kl]
      exact hi
    have gd1 := gd.kept hi hn
    have hkp : ∀ j, ({ t with kept := t.kept.set i n } : Tk).kpt j = if i = j then n else t.kpt j := fun j => kpt_set hik
    have hsn : ∀ j, ({ t with kept := t.kept.set i n } : Tk).snt j = t.snt j := fun j => rfl
    have htb : ({ t with kept := t.kept.set i n } : Tk).tabs = t.tabs := rfl
    have hph : Phi g { t with kept := t.kept.set i n } = Phi g t := rfl
    have hwy : ({ t with kept := t.kept.set i n } : Tk).way = t.way := rfl
    have hyx : (y, x) ∈ dirs g := (nbr_dir (dir_nbr hdir)).1
    have hxy := G.dlt hdir
    generalize ({ t with kept := t.kept.set i n } : Tk) = t1 at gd1 hkp hsn htb hph hwy ⊢
    have hkm : ∀ j, j < (dirs g).length → j ≠ i → t.km.getD j [] = t1.km.getD j [] := fun j hj hne => by
      rw [km_at gd.fit hj, km_at gd1.fit hj, hkp, if_neg (Ne.symm hne), hsn]
    have hreq : ∀ a b, (a, b) ∈ dirs g → (∀ o ∈ oths g a b, dix g o a ≠ i) → required g t.tabs t.km a b = required g t1.tabs t1.km a b := fun a b hd hne => req_congr (by rw [htb]) fun o ho => hkm _ (dix_lt (nbr_dir (List.mem_filter.mp ho).1).1) (hne o ho)
    have u := upd_all (node := y) G gd1 hxy.2 (fun j => by rw [hsn]; exact hb j) (fun a b hd hne => by
      rw [hsn, fx a b hd]
      refine hreq a b hd fun o ho e => hne ?_
      rw [← hix] at e
      exact (dix_inj (nbr_dir (List.mem_filter.mp ho).1).1 hdir e).2)
    have hx : chg g t1.km y t1 x = false := by
      have h1 := fx y x hyx
      rw [hreq y x hyx fun o ho e => by
        rw [← hix] at e
        have h2 := (dix_inj (nbr_dir (List.mem_filter.mp ho).1).1 hdir e).1
        have h3 := (List.mem_filter.mp ho).2
        rw [h2] at h3
        simp at h3] at h1
      show (!decide _) = false
      rw [hsn, h1, decide_eq_true rfl]
      rfl
    have hsub : ((nbrs g y).filter (chg g t1.km y t1)).Sublist (othE g.eds y x) := by
      have e : (nbrs g y).filter (chg g t1.km y t1) = ((nbrs g y).filter (chg g t1.km y t1)).filter fun z => !decide (z = x) := by
        refine (List.filter_eq_self.mpr fun z hz => ?_).symm
        have hz2 := (List.mem_filter.mp hz).2
        have hne : z ≠ x := fun e => by
          rw [e, hx] at hz2
          cases hz2
        simp [hne]
      rw [e]
      exact List.Sublist.filter _ List.filter_sublist
    have hw := sum_sub (f := wN g.eds 4 y) hsub
    have hvv := sum_sub (f := vN g.eds 4 y) hsub
    have hwa := ((wN_all _ G.shape).1 _ hdir).2.2
    have hva := ((vN_all _ G.shape).1 _ hdir).2
    simp only at hwa hva
    obtain ⟨u1, u2, u3, u4, u5, u6⟩ := u
    have hle : ∀ d ∈ dirs g, (if t1.kpt (dix g d.1 d.2) + 1 < (t1.snt (dix g d.1 d.2)).length then vN g.eds 4 d.1 d.2 else 0) ≤ if t.kpt (dix g d.1 d.2) + 1 < (t.snt (dix g d.1 d.2)).length then vN g.eds 4 d.1 d.2 else 0 := fun d hd => by
      rw [hkp, hsn]
      by_cases e : i = dix g d.1 d.2
      · rw [if_pos e, ← e]
        split
        · rw [if_pos (by omega)]
          exact Nat.le_refl _
        · exact Nat.zero_le _
      · rw [if_neg e]
        exact Nat.le_refl _
    have hun : uns g t1 ≤ uns g t := sum_le hle
    have hps : Psi g t1 + uns g t = Psi g t + uns g t1 := by
      unfold Psi
      rw [hwy]
      omega
    refine ⟨u1, u2, u3.trans htb, fun j => by rw [← hsn]; exact u4 j, by omega, by omega, fun h1 h2 => ?_⟩
    have hun2 : uns g t1 + vN g.eds 4 x y ≤ uns g t := sum_drop hle hdir (by
      show (if t1.kpt (dix g x y) + 1 < (t1.snt (dix g x y)).length then vN g.eds 4 x y else 0) + vN g.eds 4 x y ≤ if t.kpt (dix g x y) + 1 < (t.snt (dix g x y)).length then vN g.eds 4 x y else 0
      rw [hkp, hsn, hix, if_pos rfl, if_neg (by omega), if_pos (by omega)]
      omega)
    omega
end Tt

/-! Settling ends; commands; records. -/
namespace Tt
open PySem
theorem sum_zero {α : Type} {f : α → Nat} {l : List α} (h : ∀ x ∈ l, f x = 0) : (l.map f).sum = 0 := by
  have h1 : (l.map f).sum ≤ (l.map fun _ => 0).sum := sum_le fun x hx => Nat.le_of_eq (h x hx)
  have h2 : (l.map fun _ => 0).sum = 0 := by
    induction l with
    | nil => rfl
    | cons a l ih =>
      rw [List.map_cons, List.sum_cons, ih (fun x hx => h x (List.mem_cons_of_mem _ hx)) (sum_le fun x hx => Nat.le_of_eq (h x (List.mem_cons_of_mem _ hx)))]
  omega
theorem done_zero {g : Gr} {t : Tk} (gd : Good g t) (h : doneT t = true) : Phi g t = 0 ∧ Psi g t = 0 := by
  unfold doneT at h
  rw [Bool.and_eq_true] at h
  have hw : t.way = [] := List.isEmpty_iff.mp h.1
  have hs := (settled_iff gd.fit).mp h.2
  have hu : uns g t = 0 := sum_zero fun d hd => by
    have := hs _ (dix_lt (show (d.1, d.2) ∈ dirs g from hd))
    rw [if_neg (by omega)]
  unfold Phi Psi
  rw [hw, hu]
  exact ⟨rfl, rfl⟩
theorem zero_done {g : Gr} {t : Tk} (G : GOK g) (gd : Good g t) (h : Psi g t = 0) : doneT t = true := by
  have hv : ∀ i, i < (dirs g).length → 1 ≤ vI g i := fun i hi => (vI_bd G hi).1
  unfold Psi at h
  have hw : t.way = [] := by
    cases e : t.way with
    | nil => rfl
    | cons p l =>
      have h1 := hv p.1 (gd.wb p (by rw [e]; exact List.mem_cons_self)).1
      rw [e, List.map_cons, List.sum_cons] at h
      omega
  unfold doneT
  rw [hw]
  show (true && settledB t) = true
  rw [Bool.true_and]
  refine (settled_iff gd.fit).mpr fun i hi => ?_
  have h1 := gd.fit.kb i hi
  have hd := dir_at hi
  have hx := dix_at G hi
  have h2 := sum_one (f := fun d => if t.kpt (dix g d.1 d.2) + 1 < (t.snt (dix g d.1 d.2)).length then vN g.eds 4 d.1 d.2 else 0) hd
  have h3 : (if t.kpt (dix g ((dirs g).getD i (0, 0)).1 ((dirs g).getD i (0, 0)).2) + 1 < (t.snt (dix g ((dirs g).getD i (0, 0)).1 ((dirs g).getD i (0, 0)).2)).length then vN g.eds 4 ((dirs g).getD i (0, 0)).1 ((dirs g).getD i (0, 0)).2 else 0) ≤ uns g t := h2
  rw [hx] at h3
  have h4 := hv i hi
  unfold vI at h4
  split at h3
  · omega
  · omega
theorem way_split {g : Gr} {t : Tk} {l : List (Nat × Nat)} (gd : Good g t) (hs : l.Sublist t.way) : Good g { t with way := l } ∧ Phi g { t with way := l } ≤ Phi g t ∧ Psi g { t with way := l } ≤ Psi g t :=
  ⟨gd.way fun p hp => gd.wb p (hs.subset hp), sum_sub hs, by
    have h1 : (l.map fun p => vI g p.1).sum ≤ (t.way.map fun p => vI g p.1).sum := sum_sub hs
    have h2 : uns g { t with way := l } = uns g t := rfl
    have e1 : Psi g { t with way := l } = (l.map fun p => vI g p.1).sum + uns g { t with way := l } := rfl
    have e2 : Psi g t = (t.way.map fun p => vI g p.1).sum + uns g t := rfl
    omega⟩
theorem settle_all {g : Gr} (G : GOK g) : ∀ (f : Nat) (t : Tk) (c L : Nat), Good g t → Fix g t → Phi g t ≤ 39 → Psi g t ≤ f → (∀ i, (t.snt i).length ≤ L) → L + f ≤ 89999 →
    RunOK g f t ∧ Good g (settleF g f (t, c)).1 ∧ Fix g (settleF g f (t, c)).1 ∧ (settleF g f (t, c)).1.tabs = t.tabs ∧ doneT (settleF g f (t, c)).1 = true ∧ ∀ i, ((settleF g f (t, c)).1.snt i).length ≤ L + f
  | 0, t, c, L, gd, fx, hp, hs, hl, hL => by
    have hd := zero_done G gd (Nat.le_zero.mp hs)
    have hw := way_phi G gd
    exact ⟨⟨gd, by omega, hd⟩, gd, fx, rfl, hd, hl⟩
  | f + 1, t, c, L, gd, fx, hp, hs, hl, hL => by
    have hw := way_phi G gd
    cases hd : doneT t with
    | true =>
      rw [settleF_done (s := (t, c)) hd]
      exact ⟨⟨gd, by omega, .inl hd⟩, gd, fx, rfl, hd, fun i => Nat.le_trans (hl i) (by omega)⟩
    | false =>
      rw [settleF_step (s := (t, c)) hd]
      have key : Good g (set1 g t) ∧ Fix g (set1 g t) ∧ (set1 g t).tabs = t.tabs ∧ (∀ j, ((set1 g t).snt j).length ≤ (t.snt j).length + 1) ∧ Phi g (set1 g t) ≤ 39 ∧ Psi g (set1 g t) + 1 ≤ Psi g t := by
        have hb : ∀ i, (t.snt i).length ≤ 89999 := fun i => Nat.le_trans (hl i) (by omega)
        cases e : t.way with
        | cons p l =>
          have ef : fill1 t = t := by
            unfold fill1
            rw [e]
            rfl
          have es : set1 g t = (arrT g { t with way := l } p.1 p.2).1 := by
            unfold set1
            rw [ef, e]
            rfl
          rw [es]
          have hp0 := gd.wb p (by rw [e]; exact List.mem_cons_self)
          have gd0 : Good g { t with way := l } := gd.way fun q hq => gd.wb q (by rw [e]; exact List.mem_cons_of_mem _ hq)
          have e1 : Phi g t = wI g p.1 + Phi g { t with way := l } := by
            unfold Phi
            rw [e]
            rfl
          have e2 : Psi g t = vI g p.1 + Psi g { t with way := l } := by
            unfold Psi
            rw [e, List.map_cons, List.sum_cons, Nat.add_assoc]
            rfl
          obtain ⟨a1, a2, a3, a4, a5, a6, _⟩ := arr_all G gd0 (t := { t with way := l }) fx hp0.1 hp0.2 hb
          exact ⟨a1, a2, a3, a4, by omega, by omega⟩
        | nil =>
          have hst : settledB t = false := by
            unfold doneT at hd
            rw [e] at hd
            simpa using hd
          obtain ⟨ll, hl1, hl2, hl3⟩ := late_ok gd.fit hst
          have es : set1 g t = (arrT g { t with way := [] } (lateT t) ((t.snt (lateT t)).length - 1)).1 := by
            unfold set1 fill1
            rw [e]
            rfl
          rw [es]
          have gd0 : Good g { t with way := [] } := gd.way fun q hq => nomatch hq
          have e1 : Phi g { t with way := [] } = 0 := rfl
          have e2 : Psi g { t with way := [] } = Psi g t := by
            unfold Psi
            rw [e]
            rfl
          have hwb := wI_bd G hl2
          obtain ⟨a1, a2, a3, a4, a5, a6, a7⟩ := arr_all G gd0 (t := { t with way := [] }) fx hl2 (show (t.snt (lateT t)).length - 1 < (t.snt (lateT t)).length by omega) hb
          have a8 := a7 (show t.kpt (lateT t) < (t.snt (lateT t)).length - 1 by omega) (show (t.snt (lateT t)).length - 1 + 1 = (t.snt (lateT t)).length by omega)
          exact ⟨a1, a2, a3, a4, by omega, by omega⟩
      obtain ⟨k1, k2, k3, k4, k5, k6⟩ := key
      obtain ⟨r1, r2, r3, r4, r5, r6⟩ := settle_all G f (set1 g t) (c + 1) (L + 1) k1 k2 k5 (by omega) (fun i => Nat.le_trans (k4 i) (Nat.succ_le_succ (hl i))) (by omega)
      exact ⟨⟨gd, by omega, .inr r1⟩, r2, r3, r4.trans k3, r5, fun i => Nat.le_trans (r6 i) (by omega)⟩
/-! ### behind c commands -/
structure Iv (g : Gr) (c : Nat) (t : Tk) : Prop where
  good : Good g t
  fix : Fix g t
  phi : Phi g t ≤ 3 * c
  psi : Psi g t ≤ 14 * c
  tl : ∀ n, (t.tabs.getD n []).length ≤ c
  sl : ∀ i, (t.snt i).length ≤ 1 + 401 * c
theorem node_upd {g : Gr} {t : Tk} {node c : Nat} (G : GOK g) (gd : Good g t) (hn : node < g.n) (hf : ∀ a b, (a, b) ∈ dirs g → a ≠ node → lastM (t.snt (dix g a b)) = required g t.tabs t.km a b)
    (h1 : Phi g t ≤ 3 * c) (h2 : Psi g t ≤ 14 * c) (h3 : ∀ n, (t.tabs.getD n []).length ≤ c + 1) (h4 : ∀ i, (t.snt i).length ≤ 1 + 401 * c) (hc : c ≤ 12) : Iv g (c + 1) (updT g t node).1 := by
  obtain ⟨u1, u2, u3, u4, u5, u6⟩ := upd_all G gd hn (fun i => Nat.le_trans (h4 i) (by omega)) hf
  have hS := List.filter_sublist (p := chg g t.km node t) (l := nbrs g node)
  have hw := sum_sub (f := wN g.eds 4 node) hS
  have hv := sum_sub (f := vN g.eds 4 node) hS
  have ha := (wN_all _ G.shape).2 node (lt_range hn)
  have hb := (vN_all _ G.shape).2 node (lt_range hn)
  have e : nbE g.eds node = nbrs g node := rfl
  simp only [e] at ha hb
  exact ⟨u1, u2, by omega, by omega, fun n => by rw [u3]; exact h3 n, fun i => by
    have := u4 i
    have := h4 i
    omega⟩
theorem set_iv {g : Gr} {t : Tk} {c n : Nat} {r : Row} {x : Option Int} (G : GOK g) (iv : Iv g c t) (hc : c ≤ 12) (hn : n < g.n) (hr : RowOK g.vals (g.sc n) r) : Iv g (c + 1) (setT g t n r x).1 := by
  have ht := iv.good.tabs
  have htl := iv.tl n
  obtain ⟨k1, k2⟩ := tabT_ok (c := x) (ht.ok n hn) (by omega) hr
  have gd1 := iv.good.setTabs (tabs_set ht hn k1)
  have hg : ∀ m, m ≠ n → (t.tabs.set n (tabT (t.tabs.getD n []) r x)).getD m [] = t.tabs.getD m [] := fun m hm => by
    rw [List.getD_eq_getElem?_getD, List.getElem?_set_ne (Ne.symm hm), ← List.getD_eq_getElem?_getD]
  unfold setT
  refine node_upd G gd1 hn (fun a b hd hne => ?_) iv.phi iv.psi (fun m => ?_) iv.sl hc
  · have := iv.fix a b hd
    refine Eq.trans this (req_congr (hg a hne).symm fun _ _ => rfl)
  · show ((t.tabs.set n _).getD m []).length ≤ c + 1
    by_cases e : m = n
    · subst e
      have hlt : m < t.tabs.length := by
        rw [ht.len]
        exact hn
      rw [List.getD_eq_getElem?_getD, List.getElem?_set_self hlt]
      show (tabT _ _ _).length ≤ _
      omega
    · rw [hg m e]
      have := iv.tl m
      omega
theorem way_at {t : Tk} {i : Nat} (h : i < t.way.length) : t.way.getD i (0, 0) ∈ t.way := by
  rw [List.getD_eq_getElem?_getD, List.getElem?_eq_getElem h]
  exact List.getElem_mem h
theorem sum_erase {α : Type} {f : α → Nat} {d : α} : ∀ {l : List α} {i : Nat}, i < l.length → ((l.eraseIdx i).map f).sum + f (l.getD i d) = (l.map f).sum
  | [], _, h => absurd h (Nat.not_lt_zero _)
  | a :: l, 0, _ => by
    show (l.map f).sum + f a = ((a :: l).map f).sum
    rw [List.map_cons, List.sum_cons]
    omega
  | a :: l, i + 1, h => by
    have := sum_erase (f := f) (d := d) (l := l) (i := i) (by simpa using h)
    rw [List.eraseIdx_cons_succ, List.map_cons, List.sum_cons, List.map_cons, List.sum_cons]
    show f a + ((l.eraseIdx i).map f).sum + f (l.getD i d) = _
    omega
theorem perf_iv {g : Gr} {t : Tk} {c : Nat} {cmd : Cmd} (G : GOK g) (iv : Iv g c t) (hc : c ≤ 12) (ok : CmdOK g cmd) (hw : whyB g t cmd = true) : Iv g (c + 1) (perfT g t cmd).1 := by
  have h1 := iv.phi
  have h2 := iv.psi
  have hb : ∀ i, (t.snt i).length ≤ 89999 := fun i => Nat.le_trans (iv.sl i) (by omega)
  have hsl : ∀ {t' : Tk}, (∀ j, (t'.snt j).length ≤ (t.snt j).length + 1) → ∀ j, (t'.snt j).length ≤ 1 + 401 * (c + 1) := fun h j => by
    have := h j
    have := iv.sl j
    omega
  have htl : ∀ {t' : Tk}, t'.tabs = t.tabs → ∀ n, (t'.tabs.getD n []).length ≤ c + 1 := fun h n => by
    rw [h]
    exact Nat.le_succ_of_le (iv.tl n)
  cases cmd with
  | set n r x => exact set_iv G iv hc ok.1 ok.2.1
  | rem n r => exact set_iv G iv hc ok.1 ok.2
  | dlv i =>
    have hi : i < t.way.length := of_decide_eq_true hw
    have hp := iv.good.wb _ (way_at hi)
    have gd0 := off_way iv.good i
    have e1 : Phi g (offW t i) + wI g (t.way.getD i (0, 0)).1 = Phi g t := sum_erase (f := fun p : Nat × Nat => wI g p.1) hi
    have e2 : Psi g (offW t i) + vI g (t.way.getD i (0, 0)).1 = Psi g t := by
      have := sum_erase (f := fun p : Nat × Nat => vI g p.1) (d := (0, 0)) hi
      have q1 : Psi g (offW t i) = ((t.way.eraseIdx i).map fun p : Nat × Nat => vI g p.1).sum + uns g t := rfl
      have q2 : Psi g t = (t.way.map fun p : Nat × Nat => vI g p.1).sum + uns g t := rfl
      omega
    obtain ⟨a1, a2, a3, a4, a5, a6, _⟩ := arr_all G gd0 (t := offW t i) iv.fix hp.1 hp.2 hb
    exact ⟨a1, a2, by show Phi g (arrT g (offW t i) _ _).1 ≤ _; omega, by show Psi g (arrT g (offW t i) _ _).1 ≤ _; omega, htl a3, hsl a4⟩
  | dbl i =>
    have hi : i < t.way.length := of_decide_eq_true hw
    have hp := iv.good.wb _ (way_at hi)
    have b1 := wI_bd G hp.1
    have b2 := vI_bd G hp.1
    obtain ⟨a1, a2, a3, a4, a5, a6, _⟩ := arr_all G iv.good iv.fix hp.1 hp.2 hb
    exact ⟨a1, a2, by show Phi g (arrT g t _ _).1 ≤ _; omega, by show Psi g (arrT g t _ _).1 ≤ _; omega, htl a3, hsl a4⟩
  | los i =>
    have hs : (t.way.eraseIdx i).Sublist t.way := List.eraseIdx_sublist _ _
    obtain ⟨q1, q2, q3⟩ := way_split iv.good hs
    exact ⟨q1, iv.fix, by show Phi g { t with way := t.way.eraseIdx i } ≤ _; omega, by show Psi g { t with way := t.way.eraseIdx i } ≤ _; omega, htl rfl, hsl fun j => Nat.le_succ _⟩
  | res a b =>
    have hd : (a, b) ∈ dirs g := (nbr_dir (of_decide_eq_true hw)).2
    have hi := dix_lt hd
    have b1 := wI_bd G hi
    have b2 := vI_bd G hi
    show Iv g (c + 1) (resT g t a b).1
    unfold resT
    split
    · exact ⟨iv.good, iv.fix, by show Phi g t ≤ _; omega, by show Psi g t ≤ _; omega, htl rfl, hsl fun j => Nat.le_succ _⟩
    · rename_i hlen
      have gd1 : Good g { t with way := t.way ++ [(dix g a b, (t.snt (dix g a b)).length - 1)] } := iv.good.way fun p hp => by
        rcases List.mem_append.mp hp with h | h
        · exact iv.good.wb p h
        · rw [List.mem_singleton.mp h]
          exact ⟨hi, by show (t.snt (dix g a b)).length - 1 < (t.snt (dix g a b)).length; omega⟩
      have e1 : Phi g { t with way := t.way ++ [(dix g a b, (t.snt (dix g a b)).length - 1)] } = Phi g t + wI g (dix g a b) := by
        unfold Phi
        rw [List.map_append, List.sum_append]
        simp
      have e2 : Psi g { t with way := t.way ++ [(dix g a b, (t.snt (dix g a b)).length - 1)] } = Psi g t + vI g (dix g a b) := by
        have q1 : Psi g { t with way := t.way ++ [(dix g a b, (t.snt (dix g a b)).length - 1)] } = ((t.way ++ [(dix g a b, (t.snt (dix g a b)).length - 1)]).map fun p : Nat × Nat => vI g p.1).sum + uns g t := rfl
        have q2 : Psi g t = (t.way.map fun p : Nat × Nat => vI g p.1).sum + uns g t := rfl
        rw [List.map_append, List.sum_append] at q1
        simp at q1
        omega
      exact ⟨gd1, iv.fix, by show Phi g { t with way := _ } ≤ _; omega, by show Psi g { t with way := _ } ≤ _; omega, htl rfl, hsl fun j => Nat.le_succ _⟩
  | stl =>
    obtain ⟨r1, r2, r3, r4, r5, r6⟩ := settle_all G 400 t 0 (1 + 401 * c) iv.good iv.fix (by omega) (by omega) iv.sl (by omega)
    obtain ⟨z1, z2⟩ := done_zero r2 r5
    exact ⟨r2, r3, by show Phi g (settleF g 400 (t, 0)).1 ≤ _; omega, by show Psi g (settleF g 400 (t, 0)).1 ≤ _; omega, htl r4, fun j => by
      have := r6 j
      show ((settleF g 400 (t, 0)).1.snt j).length ≤ _
      omega⟩
theorem perf_ok {g : Gr} {t : Tk} {c : Nat} {cmd : Cmd} (G : GOK g) (iv : Iv g c t) (hc : c ≤ 12) (ok : CmdOK g cmd) : PerfOK g t cmd where
  G := G
  gd := iv.good
  wl := by
    have := way_phi G iv.good
    have := iv.phi
    omega
  cok := ok
  tl := fun n => Nat.le_trans (iv.tl n) (by omega)
  fl := fun hw => by
    have h := perf_iv G iv hc ok hw
    have := way_phi G h.good
    have := h.phi
    omega
  run := fun _ => by
    have h1 := iv.phi
    have h2 := iv.psi
    exact (settle_all G 400 t 0 (1 + 401 * c) iv.good iv.fix (by omega) (by omega) iv.sl (by omega)).1
/-! ### at the begin -/
theorem req_nil {g : Gr} {tabs : List Tab} {ms : List Msg} {a b : Nat} (h : tabs.getD a [] = []) : required g tabs ms a b = [] := by
  unfold required leftRows
  rw [h]
  rfl
theorem noTabs_at (g : Gr) (a : Nat) : (noTabs g).getD a [] = [] := by
  unfold noTabs
  rw [List.getD_eq_getElem?_getD, List.getElem?_map]
  cases g.scs[a]? <;> rfl
theorem round_nil (g : Gr) (ms : List Msg) : round1 g (noTabs g) ms = ms0 g := by
  unfold round1 ms0
  exact List.map_congr_left fun d _ => req_nil (noTabs_at g d.1)
theorem iter_fix {α : Type} {f : α → α} {x : α} (h : f x = x) : ∀ n, iter f n x = x
  | 0 => rfl
  | n + 1 => by
    show iter f n (f x) = x
    rw [h]
    exact iter_fix h n
theorem comp_nil (g : Gr) : computed g (noTabs g) = ms0 g := by
  rw [computed_eq]
  exact iter_fix (round_nil g _) _
theorem emp_snt (g : Gr) (i : Nat) : (emptyT g).snt i = if i < (dirs g).length then [[]] else [] := by
  unfold emptyT newT Tk.snt
  rw [comp_nil]
  unfold ms0
  rw [List.map_map, List.getD_eq_getElem?_getD, List.getElem?_map]
  split
  · rename_i h
    rw [List.getElem?_eq_getElem h]
    rfl
  · rename_i h
    rw [List.getElem?_eq_none (by omega)]
    rfl
theorem emp_kpt (g : Gr) (i : Nat) : (emptyT g).kpt i = 0 := by
  unfold emptyT newT Tk.kpt
  rw [List.getD_eq_getElem?_getD, List.getElem?_replicate]
  split <;> rfl
theorem emp_iv {g : Gr} (G : GOK g) : Iv g 0 (emptyT g) := by
  have hc : (computed g (noTabs g)).length = (dirs g).length := by
    rw [comp_nil]
    exact List.length_map ..
  have gd : Good g (emptyT g) := by
    refine ⟨noTabs_ok g, ⟨?_, ?_, fun i hi => ?_, fun i => ?_⟩, fun a b hd m hm => ?_, fun p hp => nomatch hp⟩
    · show ((computed g (noTabs g)).map _).length = _
      rw [List.length_map, hc]
    · show (List.replicate _ 0).length = _
      rw [List.length_replicate, hc]
    · rw [emp_kpt, emp_snt, if_pos hi]
      decide
    · rw [emp_snt]
      split <;> simp
    · rw [emp_snt, if_pos (dix_lt hd)] at hm
      rw [List.mem_singleton.mp hm]
      exact ⟨List.nodup_nil, by simp, fun _ z => nomatch z⟩
  refine ⟨gd, fun a b hd => ?_, Nat.le_of_eq rfl, ?_, fun n => ?_, fun i => ?_⟩
  · rw [emp_snt, if_pos (dix_lt hd)]
    exact (req_nil (noTabs_at g a)).symm
  · have hu : uns g (emptyT g) = 0 := sum_zero fun d hd => by
      rw [emp_kpt, emp_snt, if_pos (dix_lt (show (d.1, d.2) ∈ dirs g from hd))]
      rfl
    show (List.map _ []).sum + uns g (emptyT g) ≤ _
    rw [hu]
    exact Nat.le_refl 0
  · show ((noTabs g).getD n []).length ≤ 0
    rw [noTabs_at]
    decide
  · rw [emp_snt]
    split <;> simp
/-! ### records -/
def RecS (g : Gr) : Rec → Prop
  | .ok c e => CmdOK g c ∧ effD e = true
  | .bad d => BadR d
theorem runs_ok {g : Gr} (G : GOK g) : ∀ (rs : List Rec) (t : Tk) (c : Nat), Iv g c t → c + rs.length ≤ 11 → (∀ r ∈ rs, RecS g r) → RunsOK g t rs ∧ RunsW g t rs
  | [], _, _, _, _, _ => ⟨trivial, trivial⟩
  | r :: rs, t, c, iv, hl, hr => by
    rw [List.length_cons] at hl
    have hw : t.way.length ≤ 30 := by
      have := way_phi G iv.good
      have := iv.phi
      omega
    have h0 := hr r List.mem_cons_self
    have h1 : ∀ r' ∈ rs, RecS g r' := fun r' h => hr r' (List.mem_cons_of_mem _ h)
    cases r with
    | bad d => exact ⟨⟨h0, fun t' h => nomatch h⟩, ⟨hw, fun t' h => nomatch h⟩⟩
    | ok cmd e =>
      have hp := perf_ok G iv (by omega) h0.1
      have key : ∀ t', recT g t (.ok cmd e) = some t' → RunsOK g t' rs ∧ RunsW g t' rs := fun t' h => by
        rw [recT_ok] at h
        split at h
        · rename_i hb
          cases h
          exact runs_ok G rs _ (c + 1) (perf_iv G iv (by omega) h0.1 ((Bool.and_eq_true _ _).mp hb).1) (by omega) h1
        · cases h
      exact ⟨⟨⟨hp, h0.2⟩, fun t' h => (key t' h).1⟩, ⟨hw, fun t' h => (key t' h).2⟩⟩
/-- what the law's history has done -/
inductive Hist (g : Gr) : List Cmd → List Nat → Tk → Prop
  | nil : Hist g [] [] (emptyT g)
  | snoc {cs : List Cmd} {es : List Nat} {t : Tk} {c : Cmd} : Hist g cs es t → CmdOK g c → whyB g t c = true → Hist g (cs ++ [c]) (es ++ [(perfT g t c).2]) (perfT g t c).1
theorem Hist.len {g : Gr} {cs : List Cmd} {es : List Nat} {t : Tk} (h : Hist g cs es t) : es.length = cs.length := by
  induction h with
  | nil => rfl
  | snoc _ _ _ ih => rw [List.length_append, List.length_append, ih]; rfl
theorem Hist.ok {g : Gr} {cs : List Cmd} {es : List Nat} {t : Tk} (h : Hist g cs es t) : ∀ c ∈ cs, CmdOK g c := by
  induction h with
  | nil => exact fun c hc => nomatch hc
  | snoc _ h _ ih =>
    intro c hc
    rcases List.mem_append.mp hc with hc | hc
    · exact ih c hc
    · rw [List.mem_singleton.mp hc]
      exact h
theorem Hist.iv {g : Gr} {cs : List Cmd} {es : List Nat} {t : Tk} (G : GOK g) (h : Hist g cs es t) : cs.length ≤ 12 → Iv g cs.length t := by
  induction h with
  | nil => exact fun _ => emp_iv G
  | snoc _ h1 h2 ih =>
    intro hl
    rw [List.length_append, List.length_singleton] at hl ⊢
    exact perf_iv G (ih (by omega)) (by omega) h1 h2
/-- the state behind records -/
def runS (g : Gr) : Tk → List Rec → Option Tk
  | t, [] => some t
  | t, r :: rs => match recT g t r with
    | some t' => runS g t' rs
    | none => none
theorem runR_S (g : Gr) : ∀ (rs : List Rec) (t : Tk), runR g t rs = (runS g t rs).isSome
  | [], _ => rfl
  | r :: rs, t => by
    unfold runR runS
    cases recT g t r with
    | none => rfl
    | some t' => exact runR_S g rs t'
theorem runS_snoc (g : Gr) : ∀ (rs : List Rec) (t t1 t2 : Tk) (r : Rec), runS g t rs = some t1 → recT g t1 r = some t2 → runS g t (rs ++ [r]) = some t2
  | [], t, t1, t2, r, h, k => by
    cases h
    show (match recT g t r with
      | some t' => some t'
      | none => none) = some t2
    rw [k]
  | r' :: rs, t, t1, t2, r, h, k => by
    rw [List.cons_append]
    unfold runS at h ⊢
    cases e : recT g t r' with
    | none => rw [e] at h; cases h
    | some t' =>
      rw [e] at h
      exact runS_snoc g rs t' t1 t2 r h k
def recsOf (cs : List Cmd) (es : List Nat) : List Rec := (cs.zip es).map fun p => .ok p.1 (.int (p.2 : Nat))
theorem Hist.run {g : Gr} {cs : List Cmd} {es : List Nat} {t : Tk} (h : Hist g cs es t) : runS g (emptyT g) (recsOf cs es) = some t := by
  induction h with
  | nil => rfl
  | @snoc cs es t c h0 h1 h2 ih =>
    have e : recsOf (cs ++ [c]) (es ++ [(perfT g t c).2]) = recsOf cs es ++ [.ok c (.int ((perfT g t c).2 : Nat))] := by
      unfold recsOf
      rw [List.zip_append h0.len.symm, List.map_append]
      rfl
    rw [e]
    refine runS_snoc g _ _ _ _ _ ih ?_
    rw [recT_ok, h2]
    show (if (true && decide (((perfT g t c).2 : Int) = ((perfT g t c).2 : Int))) = true then _ else _) = _
    rw [decide_eq_true rfl]
    rfl
theorem recs_len {cs : List Cmd} {es : List Nat} (h : es.length = cs.length) : (recsOf cs es).length = cs.length := by
  unfold recsOf
  rw [List.length_map, List.length_zip, h, Nat.min_self]
theorem recs_s {g : Gr} {cs : List Cmd} {es : List Nat} (h : ∀ c ∈ cs, CmdOK g c) : ∀ r ∈ recsOf cs es, RecS g r := fun r hr => by
  obtain ⟨p, hp, rfl⟩ := List.mem_map.mp hr
  exact ⟨h _ (List.of_mem_zip (show (p.1, p.2) ∈ _ from hp)).1, rfl⟩
/-- records of the right length: what both readings ask -/
def ValS (g : Gr) : Val → Prop
  | .recs rs => rs.length ≤ 11 ∧ ∀ r ∈ rs, RecS g r
  | _ => True
theorem ValS.ok {g : Gr} (G : GOK g) {v : Val} (h : ValS g v) : ValOK g v ∧ LawOK g v := by
  cases v with
  | recs rs =>
    obtain ⟨h1, h2⟩ := runs_ok G rs _ 0 (emp_iv G) (by have := h.1; omega) h.2
    have := h.1
    exact ⟨⟨by omega, h1⟩, ⟨by omega, h1, h2⟩⟩
  | non => exact ⟨trivial, trivial⟩
  | lst ds => exact ⟨trivial, trivial⟩
end Tt

/-! The law's graph. -/
namespace Tt
open PySem PySem.Spec PyProof.Rows L2 RZ
open C8 (Cal Met Mak pe_c pe_mk pe_mt pe_mt0 pe_gc)
section
variable {P : Program} {w : World} {K : PySem.W.Frag} {mg : Str → Option Value} {base : Heap}
theorem e_val {σ : L2.St} {H : Hp} {v : V} {d : PyData} (f : Fz H v d) : EF (tC v) σ H d := fun H1 a Q q => q v H1 (Same.refl _) (f.same a)
theorem sort_asc {l l' : List Int} (hp : l'.Perm l) (hs : l'.Pairwise (· ≤ ·)) (ha : l.Pairwise (· < ·)) : l' = l :=
  List.Perm.eq_of_pairwise (le := (· ≤ ·)) (fun _ _ _ _ h1 h2 => Int.le_antisymm h1 h2) hs (ha.imp fun h => Int.le_of_lt h) hp
/-- sorted(numbers that ascend) -/
theorem el_srtA {σ : L2.St} {H : Hp} {te : TE} {l : List Int} (ha : l.Pairwise (· < ·)) (h : EF te σ H (.list (l.map .int))) : EL (tCB (rSortedI K) (tCons te tNil)) σ H (l.map .int) := el_cb (ea_cons h ea_nil) fun vs H1 s f Q q => by
  obtain ⟨v, rfl, fv⟩ := f.oneI
  obtain ⟨p, xs, rfl, e, fa⟩ := fv.lstI
  obtain rfl := fz_ints fa
  refine ⟨p, _, rfl, SqL.of e, fun ns' p' hp hs n => ?_⟩
  obtain rfl := sort_asc hp hs ha
  exact q p' _ _ n (same_new n) upd_same (fz_of_ints _)
abbrev rInt1 : List V → Hp → VK → Prop := fun xs H Q => (∃ i, xs = [.int i] ∧ Q (.int i) H) ∨ ∃ k, xs = [.bl k] ∧ Q (.int (if k then 1 else 0)) H
theorem g_vals {E : XK} {ta : TA} {σ : L2.St} {H : Hp} {Q : VK} {r1 r2 : R2} {r3 : List V → Hp → VK → Prop} {a b : V} (h : tCall spNext [] E ta σ H fun v H1 => r2 v a H1 fun y H2 => r3 [y] H2 fun z H3 => r1 b z H3 Q) :
    tOp r1 (tC b) (tCB r3 (tCons (tOp r2 (tCall spNext [] E ta) (tC a)) tNil)) σ H Q := h
theorem g_scs {E E2 : XK} {ta ta2 : TA} {σ : L2.St} {H : Hp} {Q : VK} {r1 r2 : List V → Hp → VK → Prop} {r3 : V → Option Int → Option Int → Hp → VK → Prop} {a : V}
    (h : tCall spNext [] E ta σ H fun v H1 => tCB r1 (tCons (tCB r2 (tCons (tLst (tCons (tC v) (tCons (tC a) tNil))) tNil)) tNil) σ H1 fun x H2 => tCall spNext [] E2 ta2 σ H2 fun y H3 => tLst (tCons (tSl r3 (tC x) (tPart (tC y)) tNoPart) tNil) σ H3 Q) :
    tLst (tCons (tSl r3 (tCB r1 (tCons (tCB r2 (tCons (tLst (tCons (tCall spNext [] E ta) (tCons (tC a) tNil))) tNil)) tNil)) (tPart (tCall spNext [] E2 ta2)) tNoPart) tNil) σ H Q := h
theorem g_end {E : XK} {ta : TA} {σ : L2.St} {H : Hp} {Q : List V → Hp → Prop} {a b : V} {r : R2} (h : tCall spNext [] E ta σ H fun v H1 => r b v H1 fun y H2 => Q [a, y] H2) : tCons (tC a) (tCons (tOp r (tC b) (tCall spNext [] E ta)) tNil) σ H Q := h
theorem g_slc {r : V → Option Int → Option Int → Hp → VK → Prop} {wi : TI} {gt : TG} {tt : TT} {te : TE} {vs : List Nat} {th : TO} {σ : L2.St} {H : Hp} {Q : VK} (h : tLc wi gt tt te vs σ H fun x H1 => tSl r (tC x) tNoPart th σ H1 Q) : tSl r (tLc wi gt tt te vs) tNoPart th σ H Q := h
theorem g_gt {E : XK} {ta : TA} {σ : L2.St} {H : Hp} {r : R2} {a : V} {F : Bool → Hp → Prop} (h : tCall spNext [] E ta σ H fun v H1 => r v a H1 fun x H2 => ∃ k, x = .bl k ∧ F k H2) : tTest (tOp r (tCall spNext [] E ta) (tC a)) σ H F := h
theorem s_ifM {t : TT} {tu w : TS} {D : Ends} {σ : L2.St} {H : Hp} (M : L2.St → Hp → Prop) (h : ∀ W : L2.St → Hp → Prop, (∀ σ2 H2, M σ2 H2 → W σ2 H2) → t σ H fun b H1 => if b = true then tu { D with nx := W } σ H1 else W σ H1) (k : ∀ σ2 H2, M σ2 H2 → w D σ2 H2) : tSeq (tIfS t tu tNext) w D σ H := h _ k
theorem an_go {t u : TT} {σ : L2.St} {H : Hp} {b : Bool} {F : Bool → Hp → Prop} (h : ET t σ H b) (k1 : b = true → ∀ H1, Same H H1 → u σ H1 F) (k2 : b = false → ∀ H1, Same H H1 → F false H1) : tAnd t u σ H F := h.go fun H1 s => by
  cases b with
  | true => exact k1 rfl H1 s
  | false => exact k2 rfl H1 s
def spGraph : Sp := fun vs H Q E => ∃ sa sc, vs = [.ref sa, .int ((4 : Nat) : Int)] ∧ ST H sa sc ∧ ∀ v g H', GOK g → Fr [sa] H H' → ST H' sa sc → Fz H' v (eG g) → Q v H'
theorem fr_new {fp : List Addr} {H H' : Hp} {p : Addr} {o : HO} (k : Fr fp H H') (n : H p = none) : Fr fp H (upd H' p o) := fun b u nb e => by
  rw [upd_ne (ne_of_none e n)]
  exact k b u nb e
theorem ST.new {H : Hp} {sa sc p : Addr} {o : HO} (h : ST H sa sc) (n1 : p ≠ sa) (n2 : p ≠ sc) : ST (upd H p o) sa sc := h.fr (fp := [p]) (fr_upd (by simp)) (by simpa using Ne.symm n1) (by simpa using Ne.symm n2)
theorem eR_nat (l : List Nat) : (.tuple (eNs l) : PyData) = eR (l.map fun (n : Nat) => (n : Int)) := by
  rw [eNs_int]
  rfl
theorem first_scope {d1 d2 : Nat} (h1 : d1 < 2) (h2 : d2 < 2) : ((eNs (srtN [d1, 2])).drop d2) = (((srtN [d1, 2]).drop d2).map fun (n : Nat) => (n : Int)).map PyData.int ∧ (((srtN [d1, 2]).drop d2).map fun (n : Nat) => (n : Int)).Pairwise (· < ·) ∧ (∀ v ∈ (((srtN [d1, 2]).drop d2).map fun (n : Nat) => (n : Int)), 0 ≤ v ∧ v < 3) ∧ (((srtN [d1, 2]).drop d2).map fun (n : Nat) => (n : Int)).length ≤ 3 := by
  refine ⟨by rw [eNs_int, List.map_drop, List.map_drop], ?_⟩
  rcases (show d1 = 0 ∨ d1 = 1 by omega) with rfl | rfl <;> rcases (show d2 = 0 ∨ d2 = 1 by omega) with rfl | rfl <;> decide
theorem sc__law_graph : FnScope ["_law_stream_here", "_law_most", "_law_values", "_law_scopes", "_law_edges", "_law_fresh", "_law_node", "_law_parent", "_law_scope", "_law_variable"] ["_law_stream_here", "_law_most"] (defScope s__law_graph) := ⟨rfl, rfl, rfl, by decide +kernel, rfl, by decide +kernel, by decide +kernel⟩
theorem cal__law_graph (T : Tx K mg) : Cal P w K mg base 2 "_law_graph" spGraph [] :=
  T.cal 40 40 rfl rfl sc__law_graph (fun _ _ _ _ _ _ us hl => match us, hl with | [_, _], _ => rfl) (fun vs H Q E ⟨_, _, e, _⟩ => by rw [e]; rfl) fun f cdv A' outer s H vs Q E hr h => by
    obtain ⟨sa, sc, rfl, st, k⟩ := h
    refine ⟨_, (pss_cons (ps_set (i := 2) sc__law_graph.nd rfl (Or.inl rfl) (pe_op op_add pe_int (pe_callTy call_int1 (by rfl) T.n_int (by decide +kernel) (pa_cons (pe_cmpR op_eq (pe_c (cal__law_next T) hr (by decide) rfl (pa_cons (pv 0) (pa_cons pe_int pa_nil))) pe_int (nomark _)) pa_nil))))
      (pss_cons (ps_set (i := 3) sc__law_graph.nd rfl (Or.inl rfl) (pe_lst (pa_cons (pe_slice (k_slA (K := K)) (pe_callTy (k_tupOf (K := K)) (by rfl) T.n_tuple (by decide +kernel) (pa_cons (pe_callB (k_srtI (K := K)) (by rfl) T.n_sorted (by decide +kernel) (pa_cons (pe_lst (pa_cons (pe_c (cal__law_next T) hr (by decide) rfl (pa_cons (pv 0) (pa_cons pe_int pa_nil))) (pa_cons pe_int pa_nil))) pa_nil)) pa_nil)) (po_some (pe_c (cal__law_next T) hr (by decide) rfl (pa_cons (pv 0) (pa_cons pe_int pa_nil)))) po_none) pa_nil)))
      (pss_cons (ps_set (i := 4) sc__law_graph.nd rfl (Or.inl rfl) (pe_lst pa_nil))
      (pss_cons (ps_set (i := 5) sc__law_graph.nd rfl (Or.inl rfl) pe_int)
      (pss_cons (ps_for PassesOwn.never rfl (pi_range2 (by rfl) T.n_range (pa_cons pe_int (pa_cons (pe_op op_add pe_int (pe_c (cal__law_next T) hr (by decide) rfl (pa_cons (pv 0) (pa_cons (pv 1) pa_nil)))) pa_nil))) (pg_name (i := 6) sc__law_graph.nd rfl (Or.inl rfl))
        (pss_cons (ps_set (i := 7) sc__law_graph.nd rfl (Or.inl rfl) (pe_c (cal__law_next T) hr (by decide) rfl (pa_cons (pv 0) (pa_cons (pv 6) pa_nil))))
        (pss_cons (ps_set (i := 8) sc__law_graph.nd rfl (Or.inl rfl) (pe_slice (k_slL (K := K)) (pe_lc (own := [("_law_variable", 9)]) (g := gName 9) rfl sc__law_graph.nd (k_piT (K := K) (pe_ix (k_ixL (K := K)) (pv 3) (pv 7) (fun _ _ => rfl))) (blkOk_by (N := ["_law_stream_here", "_law_most", "_law_values", "_law_scopes", "_law_edges", "_law_fresh", "_law_node", "_law_parent", "_law_scope", "_law_variable"]) (sc := defScope s__law_graph) (by decide +kernel)) (fun _ _ _ _ _ => (pg_name (i := 9) sc__law_graph.nd rfl (Or.inl rfl))) (fun _ _ _ _ _ => (pts_one (pt_cmpR op_gt (pe_c (cal__law_next T) hr (by decide) rfl (pa_cons (pv 0) (pa_cons pe_int pa_nil))) pe_int (nomark _)))) (fun _ _ _ _ _ => (pv 9))) po_none (po_some pe_int)))
        (pss_cons (ps_if (PW.pt (pw_and (pt_cmpR op_lt (pv 5) pe_int (nomark _)) (pw_and1 (pt_cmpR op_gt (pe_c (cal__law_next T) hr (by decide) rfl (pa_cons (pv 0) (pa_cons pe_int pa_nil))) pe_int (nomark _))))) (pss_cons (ps_expr (k_bm (K := K) PySem.F.plainAttrs_list PySem.F.slot_list_append PySem.F.type_list_append mt_append (pv 8) (pa_cons (pv 5) pa_nil)))
          (pss_one (ps_set (i := 5) sc__law_graph.nd rfl (Or.inl rfl) (pe_op op_add (pv 5) pe_int)))) pss_nil)
        (pss_cons (ps_expr (k_bm (K := K) PySem.F.plainAttrs_list PySem.F.slot_list_append PySem.F.type_list_append mt_append (pv 3) (pa_cons (pe_callTy (k_tupOf (K := K)) (by rfl) T.n_tuple (by decide +kernel) (pa_cons (pe_callB (k_srtI (K := K)) (by rfl) T.n_sorted (by decide +kernel) (pa_cons (pv 8) pa_nil)) pa_nil)) pa_nil)))
        (pss_one (ps_expr (k_bm (K := K) PySem.F.plainAttrs_list PySem.F.slot_list_append PySem.F.type_list_append mt_append (pv 4) (pa_cons (pe_tup (pa_cons (pv 7) (pa_cons (pv 6) pa_nil))) pa_nil)))))))))
      (pss_one (ps_ret (pe_tup (pa_cons (pv 2) (pa_cons (pe_callTy (k_tupOf (K := K)) (by rfl) T.n_tuple (by decide +kernel) (pa_cons (pv 3) pa_nil)) (pa_cons (pe_callTy (k_tupOf (K := K)) (by rfl) T.n_tuple (by decide +kernel) (pa_cons (pe_callB (k_srtPO (K := K)) (by rfl) T.n_sorted (by decide +kernel) (pa_cons (pv 4) pa_nil)) pa_nil)) pa_nil))))))))))), ?_⟩
    refine s_asgK (g_vals (nx_go (m := 5) (at_var rfl) (EF.is e_int rfl) st (by decide) (by decide) fun d1 H1 hd1 fr1 st1 => ?_))
    refine ⟨rfl, .inr ⟨_, rfl, 2, _, rfl, rfl, ?_⟩⟩
    obtain ⟨vals, hvals, hv23⟩ : ∃ vals : Int, (2 + if decide (V.int ((d1 : Nat) : Int) = V.int 0) = true then 1 else 0) = vals ∧ (vals = 2 ∨ vals = 3) := ⟨_, rfl, by split <;> simp⟩
    show tSeq _ _ _ [some (.ref sa), some (.int ((4 : Nat) : Int)), some (.int (2 + if decide (V.int ((d1 : Nat) : Int) = V.int 0) = true then 1 else 0)), none, none, none, none, none, none, none] H1
    rw [hvals]
    refine s_asgK (g_scs (nx_go (m := 2) (at_var rfl) (EF.is e_int rfl) st1 (by decide) (by decide) fun d2 H2 hd2 fr2 st2 => ?_))
    refine (e_tupL (EL.ef (el_srtN (l := [d2, 2]) (EL.ef (el_lst (ea_cons (e_val (.int _)) (ea_cons e_int ea_nil))))))).go fun x3 H3 s3 f3 => ?_
    refine nx_go (m := 2) (at_var rfl) (EF.is e_int rfl) (st2.same s3) (by decide) (by decide) fun d4 H4 hd4 fr4 st4 => ?_
    obtain ⟨q1, q2, q3, q4⟩ := first_scope hd2 hd4
    generalize (((srtN [d2, 2]).drop d4).map fun (n : Nat) => (n : Int)) = r0 at q1 q2 q3 q4
    have f4 : Fz H4 x3 (.tuple (eNs (srtN [d2, 2]))) := f3.tk ((st2.same s3).tk fr4) (tbN _)
    have fr04 : Fr [sa] H H4 := ((fr1.trans fr2).trans (Fr.same s3)).trans fr4
    refine (el_lst (ds := [eR r0]) (ea_cons (EF.is (e_slFrom (n := d4) (e_val f4) (e_val (.int _))) (by rw [q1]; rfl)) ea_nil)).go fun ls xs5 H5 n5 s5 e5 f5 => ?_
    have st5 := st4.same s5
    have fr05 := fr04.trans (Fr.same (fp := [sa]) s5)
    have nls := st4.out n5
    refine s_asgL (el_lst ea_nil) fun le ys6 H6 n6 s6 e6 f6 => ?_
    cases f6
    have st6 := st5.same s6
    have nle := st5.out n6
    have hne : ls ≠ le := fun e => by
      rw [e, n6] at e5
      cases e5
    refine s_asg e_int fun v7 H7 s7 f7 => ?_
    obtain rfl := f7.intI
    have st7 := st6.same s7
    have fr07 : Fr [sa] H H7 := (fr05.trans (Fr.same s6)).trans (Fr.same s7)
    have freeH : ∀ {H' : Hp} {p : Addr}, Fr [sa] H H' → H' p = none → p ≠ sa → H p = none := fun {H' p} fr n ns => by
      cases e : H p with
      | none => rfl
      | some o =>
        have := fr p o (by simpa using ns) e
        rw [n] at this
        cases this
    have n0ls := freeH fr04 n5 nls.1
    have n0le := freeH fr05 n6 nle.1
    refine s_forG2 (lo := 1) (fun n H8 => n ≤ 4 ∧ Fr [sa] H7 H8 ∧ ST H8 sa sc) (fun Q8 k8 => g_end (nx_go (m := 4) (at_var rfl) (e_var rfl (.int _)) st7 (by decide) (by decide) fun d8 H8 hd8 fr8 st8 => ⟨1, _, rfl, rfl, ?_⟩)) (fun n H8 h => by have := h.1; omega) (by decide) ?_
    · have := k8 (1 + d8) H8 ⟨by omega, fr8, st8⟩
      rw [Int.natCast_add] at this
      exact this
    rintro n8 H8 ⟨hn8, fr8, st8⟩
    have e5' : H8 ls = some (.lst xs5) := fr8 _ _ (by simpa using nls.1) (s7 _ _ (s6 _ _ e5))
    have f5' : FzAll H8 xs5 [eR r0] := FzAll.tk (st7.tk fr8) ((f5.same s6).same s7) (by show (tupB (eR r0) && true) = true; rw [tb_eR]; rfl)
    have e6' : H8 le = some (.lst []) := fr8 _ _ (by simpa using nle.1) (s7 _ _ e6)
    refine ⟨fun i σ' H' => ∃ scs eds fr o6 o7 o8 xs ys, σ' = [some (.ref sa), some (.int ((4 : Nat) : Int)), some (.int vals), some (.ref ls), some (.ref le), some (.int ((fr : Nat) : Int)), o6, o7, o8, none] ∧ Fr [sa] H H' ∧ ST H' sa sc ∧ H' ls = some (.lst xs) ∧ FzAll H' xs (scs.map eR) ∧ H' le = some (.lst ys) ∧ FzAll H' ys (eds.map eE) ∧ GI scs eds fr ∧ scs.length = i + 1,
      ⟨[r0], [], 3, _, _, _, _, _, rfl, fr07.trans fr8, st8, e5', f5', e6', .nil, GI.start q2 q3 q4, rfl⟩, ?_, ?_⟩
    · rintro i σ' H' hi ⟨scs, eds, fr, o6, o7, o8, xs, ys, rfl, frH, stH, els, fls, ele, fle, gi, hlen⟩
      show tSeq _ _ _ [some (.ref sa), some (.int ((4 : Nat) : Int)), some (.int vals), some (.ref ls), some (.ref le), some (.int ((fr : Nat) : Int)), some (.int ((1 + i : Nat) : Int)), o7, o8, none] H'
      have hf3 := gi.f3
      refine s_asgK (nx_go (m := 1 + i) (at_var rfl) (e_var rfl (.int _)) stH (by omega) (by omega) fun p H9 hp fr9 st9 => ?_)
      have hpl : p < scs.length := by omega
      have tbs : tupsB (scs.map eR) = true := tupsB_map tb_eR
      have tbe : tupsB (eds.map eE) = true := tupsB_map tb_eE
      have els9 : H9 ls = some (.lst xs) := fr9 _ _ (by simpa using nls.1) els
      have fls9 : FzAll H9 xs (scs.map eR) := FzAll.tk (stH.tk fr9) fls tbs
      have ele9 : H9 le = some (.lst ys) := fr9 _ _ (by simpa using nle.1) ele
      have fle9 : FzAll H9 ys (eds.map eE) := FzAll.tk (stH.tk fr9) fle tbe
      have frH9 := frH.trans fr9
      have hps : scs.getD p [] ∈ scs := by
        rw [List.getD_eq_getElem?_getD, List.getElem?_eq_getElem hpl]
        exact List.getElem_mem hpl
      refine s_asgK (g_slc (lcM (xs := scs.getD p []) (enc := PyData.int) (sa := sa) (sc := sc) (P := fun x σ2 _ => σ2 = [some (.ref sa), some (.int ((4 : Nat) : Int)), some (.int vals), some (.ref ls), some (.ref le), some (.int ((fr : Nat) : Int)), some (.int ((1 + i : Nat) : Int)), some (.int ((p : Nat) : Int)), o8, some (.int x)]) (fun pre acc => acc.Sublist pre) .slnil
        (wt_tup (e_ixL (e_var rfl (Fz.lst els9 fls9)) (e_var rfl (.int _)) (map_at (f := eR) [] hpl)) (tupsB_map fun _ => rfl)) st9 rfl (by have := gi.few _ hps; omega) (fun x hx y H10 fy S kk => by
          obtain rfl := fy.intI
          exact kk _ rfl rfl) (fun j x hj acc hR σ2 H10 hP fr10 st10 Y N kY kN => ?_) fun q0 acc H10 hR n10 fr10 st10 e10 => ?_))
      · subst hP
        refine g_gt (nx_go (m := 3) (at_var rfl) (EF.is e_int rfl) st10 (by decide) (by decide) fun d11 H11 hd11 fr11 st11 => ⟨_, 0, rfl, rfl, _, rfl, ?_⟩)
        have et : (scs.getD p []).take (j + 1) = (scs.getD p []).take j ++ [x] := by
          rw [List.take_add_one, hj]
          rfl
        rw [et] at kY kN
        split
        · exact ⟨_, rfl, kY x H11 (hR.append (List.Sublist.refl _)) fr11 st11⟩
        · exact kN H11 (hR.trans (List.sublist_append_left _ _)) fr11 st11
      · have els10 : H10 ls = some (.lst xs) := fr10 _ _ (by simpa using nls.1) els9
        have fls10 : FzAll H10 xs (scs.map eR) := FzAll.tk (st9.tk fr10) fls9 tbs
        have ele10 : H10 le = some (.lst ys) := fr10 _ _ (by simpa using nle.1) ele9
        have fle10 : FzAll H10 ys (eds.map eE) := FzAll.tk (st9.tk fr10) fle9 tbe
        have frH10 := frH9.trans fr10
        refine (el_slTo (n := 2) (ds := acc.map .int) (e_val (Fz.lst e10 (fz_of_ints acc))) (e_val (.int _))).go fun q zs H11 n11 s11 e11 f11 => ?_
        have hsub : (acc.take 2).Sublist (scs.getD p []) := (List.take_sublist _ _).trans hR
        have hl2 : (acc.take 2).length ≤ 2 := by
          rw [List.length_take]
          omega
        rw [← List.map_take] at f11
        obtain rfl := fz_ints f11
        have st11 := st10.same s11
        have nq := st10.out n11
        have n0q := freeH frH10 n11 nq.1
        have hqls : q ≠ ls := fun e => by
          rw [e, els10] at n11
          cases n11
        have hqle : q ≠ le := fun e => by
          rw [e, ele10] at n11
          cases n11
        have frH11 := frH10.trans (Fr.same (fp := [sa]) s11)
        have els11 := s11 _ _ els10
        have fls11 := fls10.same s11
        have ele11 := s11 _ _ ele10
        have fle11 := fle10.same s11
        generalize acc.take 2 = sl at hsub hl2 e11
        refine s_ifM (fun σ2 H2 => ∃ t fr', ((t = sl ∧ fr' = fr) ∨ (t = sl ++ [(fr : Int)] ∧ fr' = fr + 1 ∧ fr < 6)) ∧ σ2 = [some (.ref sa), some (.int ((4 : Nat) : Int)), some (.int vals), some (.ref ls), some (.ref le), some (.int ((fr' : Nat) : Int)), some (.int ((1 + i : Nat) : Int)), some (.int ((p : Nat) : Int)), some (.ref q), none] ∧ Fr [sa] H H2 ∧ ST H2 sa sc ∧ H2 ls = some (.lst xs) ∧ FzAll H2 xs (scs.map eR) ∧ H2 le = some (.lst ys) ∧ FzAll H2 ys (eds.map eE) ∧ H2 q = some (.lst (t.map V.int))) (fun W hW => ?_) ?_
        · refine an_go (t_test (e_lt (e_var rfl (.int ((fr : Nat) : Int))) e_int)) (fun hlt H12 s12 => ?_) fun _ H12 s12 => ?_
          · have hlt' : fr < 6 := by
              have := of_decide_eq_true hlt
              omega
            refine g_gt (nx_go (m := 3) (at_var rfl) (EF.is e_int rfl) (st11.same s12) (by decide) (by decide) fun d13 H13 hd13 fr13 st13 => ⟨_, 0, rfl, rfl, _, rfl, ?_⟩)
            have fr1113 : Fr [sa] H11 H13 := (Fr.same s12).trans fr13
            have e13 : H13 q = some (.lst (sl.map V.int)) := fr1113 _ _ (by simpa using nq.1) e11
            have els13 : H13 ls = some (.lst xs) := fr1113 _ _ (by simpa using nls.1) els11
            have fls13 : FzAll H13 xs (scs.map eR) := FzAll.tk (st11.tk fr1113) fls11 tbs
            have ele13 : H13 le = some (.lst ys) := fr1113 _ _ (by simpa using nle.1) ele11
            have fle13 : FzAll H13 ys (eds.map eE) := FzAll.tk (st11.tk fr1113) fle11 tbe
            split
            · refine s_appVS e13 (at_var rfl) (e_var rfl (.int ((fr : Nat) : Int))) (by rw [List.length_map]; omega) fun v14 H14 s14 f14 => ?_
              obtain rfl := f14.intI
              have tk14 : TK H14 (upd H14 q (.lst (sl.map V.int ++ [V.int (fr : Int)]))) := tk_upd (s14 _ _ e13) (fun xs z => by cases z)
              have st14 : ST (upd H14 q (.lst (sl.map V.int ++ [V.int (fr : Int)]))) sa sc := (st13.same s14).new nq.1 nq.2
              have fr14 : Fr [sa] H (upd H14 q (.lst (sl.map V.int ++ [V.int (fr : Int)]))) := fr_new ((frH11.trans fr1113).trans (Fr.same s14)) n0q
              have els14 : (upd H14 q (.lst (sl.map V.int ++ [V.int (fr : Int)]))) ls = some (.lst xs) := by rw [upd_ne (Ne.symm hqls)]; exact s14 _ _ els13
              have ele14 : (upd H14 q (.lst (sl.map V.int ++ [V.int (fr : Int)]))) le = some (.lst ys) := by rw [upd_ne (Ne.symm hqle)]; exact s14 _ _ ele13
              have eq14 : (upd H14 q (.lst (sl.map V.int ++ [V.int (fr : Int)]))) q = some (.lst ((sl ++ [(fr : Int)]).map V.int)) := by rw [upd_same, List.map_append]; rfl
              have fls14 := FzAll.tk tk14 (fls13.same s14) tbs
              have fle14 := FzAll.tk tk14 (fle13.same s14) tbe
              generalize upd H14 q (.lst (sl.map V.int ++ [V.int (fr : Int)])) = H15 at *
              refine s_asg1 (d := .int ((fr + 1 : Nat) : Int)) ((e_add (e_var rfl (.int ((fr : Nat) : Int))) e_int).is (by simp)) fun v16 H16 s16 f16 => ?_
              obtain rfl := f16.intI
              exact hW _ _ ⟨_, _, .inr ⟨rfl, rfl, hlt'⟩, rfl, fr14.trans (Fr.same s16), st14.same s16, s16 _ _ els14, fls14.same s16, s16 _ _ ele14, fle14.same s16, s16 _ _ eq14⟩
            · exact hW _ _ ⟨_, _, .inl ⟨rfl, rfl⟩, rfl, frH11.trans fr1113, st13, els13, fls13, ele13, fle13, e13⟩
          · exact hW _ _ ⟨_, _, .inl ⟨rfl, rfl⟩, rfl, frH11.trans (Fr.same s12), st11.same s12, s12 _ _ els11, fls11.same s12, s12 _ _ ele11, fle11.same s12, s12 _ _ e11⟩
        · rintro σ2 H12 ⟨t, fr', hfr', rfl, frH12, st12, els12, fls12, ele12, fle12, e12⟩
          have gi' := gi.step hpl hsub hl2 hfr'
          have hta : t.Pairwise (· < ·) := gi'.asc t (by simp)
          have htl : t.length ≤ 3 := gi'.few t (by simp)
          refine s_appVS els12 (at_var rfl) (e_tupL (EL.ef (el_srtA hta (e_var rfl (Fz.lst e12 (fz_of_ints t)))))) (by rw [fls12.len, List.length_map]; omega) fun v13 H13 s13 f13 => ?_
          have tk13 : TK H13 (upd H13 ls (.lst (xs ++ [v13]))) := tk_upd (s13 _ _ els12) (fun xs z => by cases z)
          have st13 : ST (upd H13 ls (.lst (xs ++ [v13]))) sa sc := (st12.same s13).new nls.1 nls.2
          have fr13 : Fr [sa] H (upd H13 ls (.lst (xs ++ [v13]))) := fr_new (frH12.trans (Fr.same s13)) n0ls
          have ele13 : (upd H13 ls (.lst (xs ++ [v13]))) le = some (.lst ys) := by rw [upd_ne (Ne.symm hne)]; exact s13 _ _ ele12
          have els13 : (upd H13 ls (.lst (xs ++ [v13]))) ls = some (.lst (xs ++ [v13])) := upd_same
          have fls13 : FzAll (upd H13 ls (.lst (xs ++ [v13]))) (xs ++ [v13]) ((scs ++ [t]).map eR) := by
            rw [List.map_append]
            exact (FzAll.tk tk13 (fls12.same s13) tbs).snoc (f13.tk tk13 (tb_eR t))
          have fle13 := FzAll.tk tk13 (fle12.same s13) tbe
          generalize upd H13 ls (.lst (xs ++ [v13])) = H14 at *
          have hsl : scs.length = 1 + i := by omega
          refine s_appV (Q := fun _ _ => True) (d := eE (p, scs.length)) ele13 (at_var rfl) (EF.is (e_tup (ea_cons (e_var rfl (.int ((p : Nat) : Int))) (ea_cons (e_var rfl (.int ((1 + i : Nat) : Int))) ea_nil))) (by rw [hsl]; rfl)) (by
            have := gi.len
            rw [fle12.len, List.length_map]
            omega) fun v15 H15 s15 f15 => ?_
          have tk15 : TK H15 (upd H15 le (.lst (ys ++ [v15]))) := tk_upd (s15 _ _ ele13) (fun xs z => by cases z)
          refine ⟨scs ++ [t], eds ++ [(p, scs.length)], fr', _, _, _, xs ++ [v13], ys ++ [v15], rfl, fr_new (fr13.trans (Fr.same s15)) n0le, (st13.same s15).new nle.1 nle.2, by rw [upd_ne hne]; exact s15 _ _ els13, FzAll.tk tk15 (fls13.same s15) (tupsB_map tb_eR), upd_same, ?_, gi', by rw [List.length_append, hlen]; rfl⟩
          rw [List.map_append]
          exact (FzAll.tk tk15 (fle13.same s15) tbe).snoc (f15.tk tk15 (tb_eE _))
    · rintro σ' H' ⟨scs, eds, fr, o6, o7, o8, xs, ys, rfl, frH, stH, els, fls, ele, fle, gi, hlen⟩
      refine EF.ret (d := eG ⟨vals, scs, srtE eds⟩) (e_tup (ea_cons (e_var rfl (.int _)) (ea_cons (e_tupL (e_var rfl (Fz.lst els fls))) (ea_cons (e_tupL (EL.ef (el_sortedE (e_var rfl (Fz.lst ele fle))))) ea_nil)))) fun v9 H9 s9 f9 => ?_
      exact k v9 _ H9 (gi.gok (by omega) hv23) (frH.trans (Fr.same s9)) (stH.same s9) f9
end
end Tt

/-! The law's history of commands. -/
namespace Tt
open PySem PySem.Spec PyProof.Rows L2 RZ
open C8 (Cal Met Mak pe_c pe_mk pe_mt pe_mt0 pe_gc)
section
variable {P : Program} {w : World} {K : PySem.W.Frag} {mg : Str → Option Value} {base : Heap}
theorem s_appR {ta te : TE} {w : TS} {D : Ends} {σ : L2.St} {H : Hp} {l : Addr} {xs : List V} (hl : H l = some (.lst xs)) (ha : AtD ta σ H l) (h : te σ H fun v H1 => rAppend (.ref l) [v] H1 fun _ H2 => w D σ H2) : tSeq (tDrop (tBM K "list" rAppend ta (tCons te tNil))) w D σ H :=
  ha H (Same.refl H) _ ⟨Or.inl ⟨rfl, _, SqL.of hl⟩, h⟩
theorem l3v_go {t1 t2 t3 : TE} {σ : L2.St} {H : Hp} {Q : VK} (h : t1 σ H fun x H1 => t2 σ H1 fun y H2 => t3 σ H2 fun z H3 => (3 ≤ sizeLine ∧ ∀ p, H3 p = none → Q (.ref p) (upd H3 p (.lst [x, y, z])))) : tLst (tCons t1 (tCons t2 (tCons t3 tNil))) σ H Q := h
theorem k_tgL {X : Cx} {K : PySem.W.Frag} {pos : Pos} {es : List Expr} {k : Nat} {t : TGs} {n : Nat} (h : PGs X es t) (hc : X.calm = true := by rfl) (hK : X.K = K := by rfl)
    (hn : (assignEach es X.env).length = n := by rfl) (hst : (assignEach es X.env).findIdx? (·.1) = none := by rfl) : PG X (.Tuple es k pos) (gLst K n t) := by subst hK; exact pg_lst hc h hn hst
theorem fr_in {fp : List Addr} {H0 H H' : Hp} (k0 : Fr fp H0 H) {fq : List Addr} (k : Fr fq H H') (n : ∀ b ∈ fq, b ∉ fp → H0 b = none) : Fr fp H0 H' := fun b o nb e => k b o (fun hb => by
  rw [n b hb nb] at e
  cases e) (k0 b o nb e)
def spHist : Sp := fun vs H Q E => ∃ sa sc gv tv g, vs = [.ref sa, gv, tv, .int ((10 : Nat) : Int)] ∧ ST H sa sc ∧ Fz H gv (eG g) ∧ GOK g ∧ Fz H tv (eTabs (noTabs g)) ∧
  ∀ p H' jv ev a A cs es t, Fr [sa] H H' → ST H' sa sc → H' p = some (.lst [jv, ev, .ref a]) → Fz H' jv (.tuple (cs.map Cmd.enc)) → Fz H' ev (.tuple (eNs es)) → LT H' a A t → Hist g cs es t → cs.length ≤ 10 → sa ∉ a :: A.fp → Q (.ref p) H'
theorem sc__law_history : FnScope ["_law_stream_here", "_law_graph_here", "_law_tables", "_law_most", "_law_talk", "_law_actions", "_law_numbers", "_law_turn", "_law_action_here", "_law_room"] ["_law_stream_here", "_law_graph_here", "_law_tables", "_law_most"] (defScope s__law_history) := ⟨rfl, rfl, rfl, by decide +kernel, rfl, by decide +kernel, by decide +kernel⟩
theorem cal__law_history (T : Tx K mg) : Cal P w K mg base 8 "_law_history" spHist [] :=
  T.cal 57 57 rfl rfl sc__law_history (fun _ _ _ _ _ _ us hl => match us, hl with | [_, _, _, _], _ => rfl) (fun vs H Q E ⟨_, _, _, _, _, e, _⟩ => by rw [e]; rfl) fun f cdv A' outer s H vs Q E hr h => by
    obtain ⟨sa, sc, gv, tv, g, rfl, st, fg, G, ft, k⟩ := h
    refine ⟨_, (pss_cons (ps_set (i := 4) sc__law_history.nd rfl (Or.inl rfl) (pe_c (cal__law_begin T) hr (by decide) rfl (pa_cons (pv 1) (pa_cons (pv 2) pa_nil))))
      (pss_cons (ps_set (i := 5) sc__law_history.nd rfl (Or.inl rfl) (pe_lst pa_nil))
      (pss_cons (ps_set (i := 6) sc__law_history.nd rfl (Or.inl rfl) (pe_lst pa_nil))
      (pss_cons (ps_for PassesOwn.never rfl (pi_range1 (by rfl) T.n_range (pa_cons (pe_c (cal__law_next T) hr (by decide) rfl (pa_cons (pv 0) (pa_cons (pe_op op_add (pv 3) pe_int) pa_nil))) pa_nil)) (pg_name (i := 7) sc__law_history.nd rfl (Or.inl rfl))
        (pss_cons (ps_set (i := 8) sc__law_history.nd rfl (Or.inl rfl) (pe_c (cal__law_action T) hr (by decide) rfl (pa_cons (pv 0) (pa_cons (pv 1) (pa_cons (pv 4) pa_nil)))))
        (pss_cons (ps_set (i := 9) sc__law_history.nd rfl (Or.inl rfl) (pe_or (pe_cmpR op_lt (pe_callB (k_len (K := K)) (by rfl) T.n_len (by decide +kernel) (pa_cons (pe_ix (k_ixL (K := K)) (pv 4) pe_int (fun _ _ => rfl)) pa_nil)) pe_int (nomark _)) (pe_one (pe_cmpR (k_in (K := K)) (pe_ix (k_ixT (K := K)) (pv 8) pe_int (fun _ _ => rfl)) (pe_lst (pa_cons pe_str (pa_cons pe_str (pa_cons pe_str pa_nil)))) (by rfl)))))
        (pss_one (ps_if (PW.pt (pw_and (pt_val (pv 9)) (pw_and1 (pt_cmpR op_eq (pe_c (cal__law_why_not T) hr (by decide) rfl (pa_cons (pv 1) (pa_cons (pv 4) (pa_cons (pv 8) pa_nil)))) pe_str (nomark _))))) (pss_cons (ps_expr (k_bm (K := K) PySem.F.plainAttrs_list PySem.F.slot_list_append PySem.F.type_list_append mt_append (pv 6) (pa_cons (pe_c (cal__law_perform T) hr (by decide) rfl (pa_cons (pv 1) (pa_cons (pv 4) (pa_cons (pv 8) pa_nil)))) pa_nil)))
          (pss_one (ps_expr (k_bm (K := K) PySem.F.plainAttrs_list PySem.F.slot_list_append PySem.F.type_list_append mt_append (pv 5) (pa_cons (pv 8) pa_nil))))) pss_nil)))))
      (pss_one (ps_ret (pe_lst (pa_cons (pe_callTy (k_tupOf (K := K)) (by rfl) T.n_tuple (by decide +kernel) (pa_cons (pv 5) pa_nil)) (pa_cons (pe_callTy (k_tupOf (K := K)) (by rfl) T.n_tuple (by decide +kernel) (pa_cons (pv 6) pa_nil)) (pa_cons (pv 4) pa_nil)))))))))), ?_⟩
    refine s_asgK ?_
    show tCall spLBegin [] _ (tCons _ (tCons _ tNil)) _ _ _
    refine ca_e (Q := fun vs H2 => spLBegin (vs ++ []) H2 _ _) (e_var rfl fg) fun gv2 H2 s2 fg2 => ca_e (e_var rfl (ft.same s2)) fun tv3 H3 s3 ft3 => ca_n ⟨gv2, tv3, g, noTabs g, rfl, fg2.same s3, ft3, G, noTabs_ok g, fun a A H4 s4 nA lt4 => ?_⟩
    have s04 := (s2.trans s3).trans s4
    have st4 := st.same s04
    have hfree : ∀ b ∈ a :: A.fp, H b = none := fun b hb => (s2.trans s3).free (nA b hb)
    obtain ⟨hsa, hsc⟩ : sa ∉ a :: A.fp ∧ sc ∉ a :: A.fp := by
      obtain ⟨c, kk, ns, h0, hn, e1, e2⟩ := st
      exact ⟨fun hb => (by rw [hfree _ hb] at e1; cases e1), fun hb => (by rw [hfree _ hb] at e2; cases e2)⟩
    refine s_asgL (el_lst ea_nil) fun la xs5 H5 n5 s5 e5 f5 => ?_
    cases f5
    refine s_asgL (el_lst ea_nil) fun ln ys6 H6 n6 s6 e6 f6 => ?_
    cases f6
    have hlt4 : ∀ b ∈ a :: A.fp, ∃ o, H4 b = some o := fun b hb => by
      rcases List.mem_cons.mp hb with rfl | hb
      · obtain ⟨tv, e, _⟩ := lt4.i
        exact ⟨_, e⟩
      · obtain ⟨ys, e⟩ := lt4.r.lst hb
        exact ⟨_, e⟩
    have hla : la ∉ a :: A.fp := fun hb => by
      obtain ⟨o, e⟩ := hlt4 _ hb
      rw [e] at n5
      cases n5
    have hln : ln ∉ a :: A.fp := fun hb => by
      obtain ⟨o, e⟩ := hlt4 _ hb
      rw [s5 _ _ e] at n6
      cases n6
    have hne : la ≠ ln := fun e => by
      rw [e, n6] at e5
      cases e5
    have nla := st4.out n5
    have nln := (st4.same s5).out n6
    have n0la : H la = none := s04.free n5
    have n0ln : H ln = none := (s04.trans s5).free n6
    have s06 := (s04.trans s5).trans s6
    have st6 := st.same s06
    have lt6 := (lt4.same s5).same s6
    refine s_forG1 (fun n H7 => n ≤ 10 ∧ Fr [sa] H6 H7 ∧ ST H7 sa sc) (fun Q7 k7 => ca_c (nx_go (m := 11) (at_var rfl) ((e_add (e_var rfl (.int ((10 : Nat) : Int))) e_int).is rfl) st6 (by decide) (by decide) fun d7 H7 hd7 fr7 st7 => ca_n (k7 d7 H7 ⟨by omega, fr7, st7⟩))) (fun n H7 h => by have := h.1; omega) ?_
    rintro n7 H7 ⟨hn7, fr7, st7⟩
    have fr07 : Fr [sa] H H7 := (Fr.same s06).trans fr7
    refine ⟨fun i σ' H' => ∃ cs es t o7 o8 o9 xs ys, σ' = [some (.ref sa), some gv, some tv, some (.int ((10 : Nat) : Int)), some (.ref a), some (.ref la), some (.ref ln), o7, o8, o9] ∧ Fr [sa] H H' ∧ ST H' sa sc ∧ LT H' a A t ∧ H' la = some (.lst xs) ∧ FzAll H' xs (cs.map Cmd.enc) ∧ H' ln = some (.lst ys) ∧ FzAll H' ys (eNs es) ∧ Hist g cs es t ∧ cs.length ≤ i,
      ⟨[], [], emptyT g, _, _, _, _, _, rfl, fr07, st7, lt6.frS st6 fr7 hsa, fr7 _ _ (by simpa using nla.1) (s6 _ _ e5), .nil, fr7 _ _ (by simpa using nln.1) e6, .nil, .nil, Nat.zero_le _⟩, ?_, ?_⟩
    · rintro i σ' H' hi ⟨cs, es, t, o7, o8, o9, xs, ys, rfl, frH, stH, ltH, ela, fla, eln, fln, hist, hcs⟩
      show tSeq _ _ _ [some (.ref sa), some gv, some tv, some (.int ((10 : Nat) : Int)), some (.ref a), some (.ref la), some (.ref ln), some (.int ((i : Nat) : Int)), o8, o9] H'
      have iv := hist.iv G (by omega)
      have hphi := iv.phi
      have hway := way_phi G iv.good
      have tbc : tupsB (cs.map Cmd.enc) = true := tupsB_map tb_cmd
      have tbn : tupsB (eNs es) = true := tupsB_map tb_eN
      have hlen := hist.len
      refine s_asgK ?_
      show tCall spLAct [] _ (tCons (tVar 0) (tCons (tVar 1) (tCons (tVar 4) tNil))) _ _ _
      refine ca_v (Q := fun vs H2 => spLAct (vs ++ []) H2 _ _) rfl (ca_v rfl (ca_v rfl (ca_n ⟨sa, sc, gv, a, A, g, t, rfl, stH, fg.tk (st.tk frH) (tb_eG _), ltH, G, iv.good.tabs, by omega, hsa, fun cv c H8 cok fr8 st8 fc => ?_⟩)))
      have fr08 := frH.trans fr8
      have lt8 := ltH.frS stH fr8 hsa
      have ela8 : H8 la = some (.lst xs) := fr8 _ _ (by simpa using nla.1) ela
      have fla8 : FzAll H8 xs (cs.map Cmd.enc) := FzAll.tk (stH.tk fr8) fla tbc
      have eln8 : H8 ln = some (.lst ys) := fr8 _ _ (by simpa using nln.1) eln
      have fln8 : FzAll H8 ys (eNs es) := FzAll.tk (stH.tk fr8) fln tbn
      have fg8 : Fz H8 gv (eG g) := fg.tk (st.tk fr08) (tb_eG _)
      obtain ⟨z, ds, hez, hz⟩ := enc_head c
      have fz : Fz H8 cv (.tuple (.str z :: ds)) := hez ▸ fc
      refine s_asg (e_orV (e_lt (e_lenL (lt8.e_way (at_var rfl))) e_int) fun _ => e_inS (neg := false) (ys := [Str.ofString "deliver", Str.ofString "lose", Str.ofString "settle"]) (e_hd fz rfl) (EL.ef (el_lst (ea_cons e_str (ea_cons e_str (ea_cons e_str ea_nil))))) (.inr rfl)) fun v9 H9 s9 f9 => ?_
      obtain rfl := f9.blI
      have lt9 := lt8.same s9
      have fc9 := fc.same s9
      have fr09 := fr08.trans (Fr.same (fp := [sa]) s9)
      have st9 := st8.same s9
      generalize (decide (((t.way.map eE).length : Int) < 8) || (if false = true then !decide (z ∈ [Str.ofString "deliver", Str.ofString "lose", Str.ofString "settle"]) else decide (z ∈ [Str.ofString "deliver", Str.ofString "lose", Str.ofString "settle"]))) = room
      refine s_if (b := room && whyB g t c) ((t_and (t_B (e_var rfl (.bl room))) fun _ => t_test (e_eqS (e_lwhy (e_var rfl (fg8.same s9)) (at_var rfl) (e_var rfl fc9) lt9 G iv.good cok) e_str)).is (by rw [whyS_iff])) (fun hb H10 s10 => ?_) fun hb H10 s10 => ?_
      · have hw : whyB g t c = true := ((Bool.and_eq_true _ _).mp hb).2
        have pok := perf_ok G iv (by omega) cok
        have s810 := s9.trans s10
        have lt10 := lt8.same s810
        have fc10 := fc.same s810
        refine s_appR (s810 _ _ eln8) (at_var rfl) ?_
        refine lc3_go (e_var rfl (fg8.same s810)) (at_var rfl) (e_var rfl fc10) fun x11 y11 H11 s11 g11 h11 => ?_
        refine ⟨x11, a, A, g, t, c, y11, rfl, g11, lt10.same s11, h11, pok, hw, fun H12 fr12 lt12 => ?_⟩
        have s811 := s810.trans s11
        have tk12 : TK H11 H12 := (lt10.same s11).tkA fr12
        have eln12 : H12 ln = some (.lst ys) := fr12 _ _ hln (s811 _ _ eln8)
        have ela12 : H12 la = some (.lst xs) := fr12 _ _ hla (s811 _ _ ela8)
        have fr012 : Fr [sa] H H12 := fr_in (fr08.trans (Fr.same (fp := [sa]) s811)) fr12 fun b hb _ => hfree b hb
        have st12 : ST H12 sa sc := (st8.same s811).fr fr12 hsa hsc
        have fla12 : FzAll H12 xs (cs.map Cmd.enc) := FzAll.tk tk12 (fla8.same s811) tbc
        have fln12 : FzAll H12 ys (eNs es) := FzAll.tk tk12 (fln8.same s811) tbn
        have fc12 : Fz H12 cv c.enc := (fc.same s811).tk tk12 (tb_cmd c)
        have hyl : ys.length ≤ 1000 := by
          rw [fln12.len, List.length_map]
          omega
        have hxl : xs.length ≤ 1000 := by
          rw [fla12.len, List.length_map]
          omega
        refine ⟨ln, ys, _, rfl, rfl, eln12, Nat.lt_of_le_of_lt hyl (by decide), ?_⟩
        show tDrop _ _ _ (upd H12 ln (.lst (ys ++ [V.int ((perfT g t c).2 : Nat)])))
        have tk13 : TK H12 (upd H12 ln (.lst (ys ++ [V.int ((perfT g t c).2 : Nat)]))) := tk_upd eln12 (fun xs z => by cases z)
        have st13 : ST (upd H12 ln (.lst (ys ++ [V.int ((perfT g t c).2 : Nat)]))) sa sc := st12.new nln.1 nln.2
        have fr13 : Fr [sa] H (upd H12 ln (.lst (ys ++ [V.int ((perfT g t c).2 : Nat)]))) := fr_new fr012 n0ln
        have lt13 : LT (upd H12 ln (.lst (ys ++ [V.int ((perfT g t c).2 : Nat)]))) a A (perfT g t c).1 := lt12.move tk13 fun b hb => upd_ne fun e => hln (e ▸ hb)
        have ela13 : (upd H12 ln (.lst (ys ++ [V.int ((perfT g t c).2 : Nat)]))) la = some (.lst xs) := by rw [upd_ne hne]; exact ela12
        have eln13 : (upd H12 ln (.lst (ys ++ [V.int ((perfT g t c).2 : Nat)]))) ln = some (.lst (ys ++ [V.int ((perfT g t c).2 : Nat)])) := upd_same
        have fla13 := FzAll.tk tk13 fla12 tbc
        have fln13 : FzAll (upd H12 ln (.lst (ys ++ [V.int ((perfT g t c).2 : Nat)]))) (ys ++ [V.int ((perfT g t c).2 : Nat)]) (eNs (es ++ [(perfT g t c).2])) := by
          show FzAll _ _ ((es ++ [(perfT g t c).2]).map eN)
          rw [List.map_append]
          exact (FzAll.tk tk13 fln12 tbn).snoc (.int _)
        have fc13 := fc12.tk tk13 (tb_cmd c)
        generalize upd H12 ln (.lst (ys ++ [V.int ((perfT g t c).2 : Nat)])) = H13 at *
        refine s_appV (Q := fun _ _ => True) ela13 (at_var rfl) (e_var rfl fc13) (by omega) fun v14 H14 s14 f14 => ?_
        have tk14 : TK H14 (upd H14 la (.lst (xs ++ [v14]))) := tk_upd (s14 _ _ ela13) (fun xs z => by cases z)
        refine ⟨cs ++ [c], es ++ [(perfT g t c).2], (perfT g t c).1, _, _, _, xs ++ [v14], _, rfl, fr_new (fr13.trans (Fr.same s14)) n0la, (st13.same s14).new nla.1 nla.2, (lt13.same s14).move tk14 fun b hb => upd_ne fun e => hla (e ▸ hb), upd_same, ?_, by rw [upd_ne (Ne.symm hne)]; exact s14 _ _ eln13, FzAll.tk tk14 (fln13.same s14) (tupsB_map tb_eN), hist.snoc cok hw, by rw [List.length_append, List.length_singleton]; omega⟩
        rw [List.map_append]
        exact (FzAll.tk tk14 (fla13.same s14) tbc).snoc (f14.tk tk14 (tb_cmd c))
      · have s810 := s9.trans s10
        exact ⟨cs, es, t, _, _, _, xs, ys, rfl, fr08.trans (Fr.same s810), st8.same s810, lt8.same s810, s810 _ _ ela8, fla8.same s810, s810 _ _ eln8, fln8.same s810, hist, by omega⟩
    · rintro σ' H' ⟨cs, es, t, o7, o8, o9, xs, ys, rfl, frH, stH, ltH, ela, fla, eln, fln, hist, hcs⟩
      show tLst (tCons _ (tCons _ (tCons (tVar 4) tNil))) _ _ _
      refine l3v_go ((e_tupL (e_var rfl (Fz.lst ela fla))).go fun v8 H8 s8 f8 => (e_tupL (e_var rfl ((Fz.lst eln fln).same s8))).go fun v9 H9 s9 f9 => ⟨_, rfl, by decide, fun p hp => ?_⟩)
      have sN := same_new (o := .lst [v8, v9, .ref a]) hp
      have s8N := (s8.trans s9).trans sN
      exact k p _ v8 v9 a A cs es t (frH.trans (Fr.same s8N)) (stH.same s8N) upd_same (f8.same (s9.trans sN)) (f9.same sN) (ltH.same s8N) hist (by omega) hsa
end
end Tt

/-! tuple(zip(t, u)): the pairs collected. -/
namespace TZ
open PySem PySem.W PySem.Calls PyProof.Rows
theorem nolen_zip : typeLookup (.type "zip") "__len__" = pure none := by rw [typeLookup_type, builtinLookup_eq_fast]; kernel_rfl
theorem nohint_zip : typeLookup (.type "zip") "__length_hint__" = pure none := by rw [typeLookup_type, builtinLookup_eq_fast]; kernel_rfl
/-- a zip of the tuples at l1, l2, k pairs given out, all of them still there -/
structure ZSt (h : Heap) (z TI TO i1 i2 l1 l2 S : Addr) (xs ys : Array Value) (k : Nat) : Prop where
  TIp : IsPair h TI (.ref i1) (.ref i2)
  it1 : h.IsTupleIter i1 l1 k
  it2 : h.IsTupleIter i2 l2 k
  t1 : h.IsTuple l1 xs
  t2 : h.IsTuple l2 ys
  zz : (IsZip h z TI TO .none ∧ ∃ a b, IsPair h TO a b) ∨ ∃ T f oT, IsZipHeld h z TI TO T f ∧ h.get? T = some oT ∧ S < T
section
variable {prog : Program} {w : World} {A : Around} {E : Value → Shared → Prop} {s : Shared} {z TI TO i1 i2 l1 l2 S : Addr} {xs ys : Array Value} {k : Nat}
abbrev Low (z TI TO i1 i2 l1 l2 S : Addr) : Prop := z < S ∧ TI < S ∧ TO < S ∧ i1 < S ∧ i2 < S ∧ l1 < S ∧ l2 < S
theorem ZSt.type {h : Heap} (st : ZSt h z TI TO i1 i2 l1 l2 S xs ys k) : ∃ o, h.get? z = some o ∧ o.cls = .type "zip" := by
  rcases st.zz with ⟨hz, _⟩ | ⟨T, f, oT, hz, _⟩
  · exact ⟨_, hz, rfl⟩
  · exact ⟨_, hz, rfl⟩
theorem ZSt.keep {h h' : Heap} (st : ZSt h z TI TO i1 i2 l1 l2 S xs ys k) (L : Low z TI TO i1 i2 l1 l2 S) (hk : ∀ b o, b ≠ S → h.get? b = some o → h'.get? b = some o) : ZSt h' z TI TO i1 i2 l1 l2 S xs ys k := by
  obtain ⟨n1, n2, n3, n4, n5, n6, n7⟩ := L
  refine ⟨hk _ _ (Nat.ne_of_lt n2) st.TIp, st.it1.at fun o e => hk _ o (Nat.ne_of_lt n4) e, st.it2.at fun o e => hk _ o (Nat.ne_of_lt n5) e, st.t1.at fun o e => hk _ o (Nat.ne_of_lt n6) e, st.t2.at fun o e => hk _ o (Nat.ne_of_lt n7) e, ?_⟩
  rcases st.zz with ⟨hz, a, b, hTO⟩ | ⟨T, f, oT, hz, hT, r⟩
  · exact .inl ⟨hk _ _ (Nat.ne_of_lt n1) hz, a, b, hk _ _ (Nat.ne_of_lt n3) hTO⟩
  · exact .inr ⟨T, f, oT, hk _ _ (Nat.ne_of_lt n1) hz, hk _ _ (Nat.ne_of_gt r) hT, r⟩
theorem next_item {x y : Value} {Q : Option Value → Shared → Prop} (D : ZipApart z TI TO i1 i2 l1 l2) (L : Low z TI TO i1 i2 l1 l2 S) (hS : S < s.heap.objs.size) (st : ZSt s.heap z TI TO i1 i2 l1 l2 S xs ys k) (hx : xs[k]? = some x) (hy : ys[k]? = some y)
    (hQ : ∀ h', ZSt h' z TI TO i1 i2 l1 l2 S xs ys (k + 1) → IsPair h' s.heap.objs.size x y → h'.objs.size = s.heap.objs.size + 1 → (∀ c o, S ≤ c → s.heap.get? c = some o → h'.get? c = some o) → (∀ c o, c ≠ z → c ≠ TO → c ≠ i1 → c ≠ i2 → s.heap.get? c = some o → h'.get? c = some o) → Q (some (.ref s.heap.objs.size)) { s with heap := h' }) :
    wpAny (model prog w) A (pyNext (.ref z)) Q E s := by
  obtain ⟨n1, n2, n3, n4, n5, n6, n7⟩ := L
  have up : ∀ {h' : Heap}, (∀ c o, c ≠ z → c ≠ TO → c ≠ i1 → c ≠ i2 → s.heap.get? c = some o → h'.get? c = some o) → ∀ c o, S ≤ c → s.heap.get? c = some o → h'.get? c = some o := fun hk c o hc e =>
    hk c o (Nat.ne_of_gt (Nat.lt_of_lt_of_le n1 hc)) (Nat.ne_of_gt (Nat.lt_of_lt_of_le n3 hc)) (Nat.ne_of_gt (Nat.lt_of_lt_of_le n4 hc)) (Nat.ne_of_gt (Nat.lt_of_lt_of_le n5 hc)) e
  rcases st.zz with ⟨hz, a, b, hTO⟩ | ⟨T, f, oT, hz, hT, r⟩
  · refine RZ.pyNext_zipT_item D hz st.TIp hTO st.it1 st.it2 st.t1 st.t2 hx hy fun h' a1 a2 a3 a4 a5 a6 hk => ?_
    exact hQ h' ⟨hk _ _ D.TIz D.TITO D.TIi1 D.TIi2 st.TIp, a3, a4, st.t1.at fun o e => hk _ o D.l1z D.l1TO D.l1i1 D.l1i2 e, st.t2.at fun o e => hk _ o D.l2z D.l2TO D.l2i1 D.l2i2 e, .inr ⟨s.heap.objs.size, false, _, a1, a5, hS⟩⟩ a5 a6 (up hk) hk
  · refine wpAny_pyNext_zip_item_held D hz hT st.TIp st.it1 st.it2 st.t1 st.t2 hx hy fun h' a1 a3 a4 a5 a6 hk => ?_
    have hk' : ∀ c o, c ≠ z → c ≠ TO → c ≠ i1 → c ≠ i2 → s.heap.get? c = some o → h'.get? c = some o := fun c o c1 _ c3 c4 e => hk c o c1 c3 c4 e
    exact hQ h' ⟨hk _ _ D.TIz D.TIi1 D.TIi2 st.TIp, a3, a4, st.t1.at fun o e => hk _ o D.l1z D.l1i1 D.l1i2 e, st.t2.at fun o e => hk _ o D.l2z D.l2i1 D.l2i2 e, .inr ⟨T, true, oT, a1, up hk' T oT (Nat.le_of_lt r) hT, r⟩⟩ a5 a6 (up hk') hk'
theorem next_end {Q : Option Value → Shared → Prop} (hh : A.handled = none) (D : ZipApart z TI TO i1 i2 l1 l2) (st : ZSt s.heap z TI TO i1 i2 l1 l2 S xs ys k) (hend : xs[k]? = none ∨ ys[k]? = none)
    (hQ : ∀ h', (∀ c o, c ≠ z → c ≠ TO → c ≠ i1 → c ≠ i2 → s.heap.get? c = some o → h'.get? c = some o) → Q none { s with heap := h' }) : wpAny (model prog w) A (pyNext (.ref z)) Q E s := by
  rcases st.zz with ⟨hz, a, b, hTO⟩ | ⟨T, f, oT, hz, hT, r⟩
  · exact RZ.pyNext_zipT_end hh D hz st.TIp hTO st.it1 st.it2 st.t1 st.t2 hend hQ
  · exact wpAny_pyNext_zip_end_held hh D hz hT st.TIp st.it1 st.it2 st.t1 st.t2 hend fun h' hk => hQ h' fun c o c1 _ c3 c4 e => hk c o c1 c3 c4 e
structure Made (xs ys : Array Value) (S : Addr) (h : Heap) (as : List Addr) : Prop where
  above : ∀ a ∈ as, S < a
  nd : as.Nodup
  pairs : ∀ (j : Nat) (a : Addr), as[j]? = some a → ∃ x y, xs[j]? = some x ∧ ys[j]? = some y ∧ IsPair h a x y
theorem Made.up {h h' : Heap} {as : List Addr} (g : Made xs ys S h as) (hk : ∀ c o, S < c → h.get? c = some o → h'.get? c = some o) : Made xs ys S h' as :=
  ⟨g.above, g.nd, fun j a hj => by
    obtain ⟨x, y, h1, h2, h3⟩ := g.pairs j a hj
    exact ⟨x, y, h1, h2, hk a _ (g.above a (List.mem_of_getElem? hj)) h3⟩⟩
theorem loopZ {R : Result → Shared → Prop} {n : Nat} (hh : A.handled = none) (D : ZipApart z TI TO i1 i2 l1 l2) (L : Low z TI TO i1 i2 l1 l2 S) (hn : n ≤ sizeLine) (hx : xs.size = n) (hy : ys.size = n) (res : Value) {h₁ : Heap}
    (hR : ∀ h' tk acc c as, (∀ b o, b ≠ S → b ≠ z → b ≠ TO → b ≠ i1 → b ≠ i2 → h₁.get? b = some o → h'.get? b = some o) → h'.get? S = some { cls := .type "list", dict := none, data := .seq acc c, slots := #[] } → as.length = n → Made xs ys S h' as →
      acc.toList = as.map Value.ref → R (.ok (.ret res)) { s with heap := h', toks := tk }) :
    ∀ (k i : Nat) (h : Heap) (tk c : Nat) (acc : Array Value) (as : List Addr), n - i = k → i ≤ n → ZSt h z TI TO i1 i2 l1 l2 S xs ys i → (∀ b o, b ≠ S → b ≠ z → b ≠ TO → b ≠ i1 → b ≠ i2 → h₁.get? b = some o → h.get? b = some o) →
      h.get? S = some { cls := .type "list", dict := none, data := .seq acc c, slots := #[] } → acc.toList = as.map Value.ref → as.length = i → Made xs ys S h as →
      codeAny (model prog w) A (.builtin "list.extend.loop" ⟨[.ref S, .ref z, res], []⟩) R { s with heap := h, toks := tk } := by
  obtain ⟨n1, n2, n3, n4, n5, n6, n7⟩ := id L
  intro k
  induction k with
  | zero =>
    intro i h tk c acc as hk hi hst hkeep hS hacc hal hG
    refine codeAny_builtin PySem.F.entry_extend_loop ?_
    rw [Around.under_plainId PySem.F.plain_extend_loop _]
    show wpAny _ A.in1 (pyNext (.ref z) >>= _) _ _ _
    refine wpAny_bind (next_end (s := { s with heap := h, toks := tk }) (A := A.in1) hh D hst (.inl (by rw [Array.getElem?_eq_none]; omega)) fun h' he => ?_)
    have hup : ∀ c o, S ≤ c → h.get? c = some o → h'.get? c = some o := fun c o hc e => he c o (Nat.ne_of_gt (Nat.lt_of_lt_of_le n1 hc)) (Nat.ne_of_gt (Nat.lt_of_lt_of_le n3 hc)) (Nat.ne_of_gt (Nat.lt_of_lt_of_le n4 hc)) (Nat.ne_of_gt (Nat.lt_of_lt_of_le n5 hc)) e
    exact wpAny_pure (hR h' tk acc c as (fun b o b1 b2 b3 b4 b5 e => he b o b2 b3 b4 b5 (hkeep b o b1 b2 b3 b4 b5 e)) (hup S _ (Nat.le_refl _) hS) (by omega) (hG.up fun c o hc e => hup c o (Nat.le_of_lt hc) e) hacc)
  | succ k ih =>
    intro i h tk c acc as hk hi hst hkeep hS hacc hal hG
    have hlt : i < n := by omega
    have hsz : acc.size = i := by rw [← Array.length_toList, hacc, List.length_map, hal]
    have ex : xs[i]? = some (xs[i]'(by omega)) := Array.getElem?_eq_getElem (by omega)
    have ey : ys[i]? = some (ys[i]'(by omega)) := Array.getElem?_eq_getElem (by omega)
    refine codeAny_builtin PySem.F.entry_extend_loop ?_
    rw [Around.under_plainId PySem.F.plain_extend_loop _]
    show wpAny _ A.in1 (pyNext (.ref z) >>= _) _ _ _
    refine wpAny_bind (next_item (s := { s with heap := h, toks := tk }) D L (Heap.lt_size hS) hst ex ey fun h' hst' ht hz hup hkp => ?_)
    dsimp only at ht hz hkp hup ⊢
    have hS' := hup S _ (Nat.le_refl _) hS
    have up : ∀ b o, b ≠ S → h'.get? b = some o → (h'.update S (Obj.mapSeq (·.push (Value.ref h.objs.size)))).get? b = some o := fun b o hb e => (Heap.get?_update_other _ _ (Ne.symm hb)).trans e
    have hSl : S < h.objs.size := Heap.lt_size hS
    show wpAny _ A.in1 (updateSeq S (·.push (Value.ref h.objs.size)) >>= _) _ _ _
    refine wpAny_bind ?_
    refine wpAny_updateSeq hS' rfl (wpAny_pure ⟨plainId_quiet PySem.F.plain_extend_loop _, ih (i + 1) _ tk _ (acc.push (Value.ref h.objs.size)) (as ++ [h.objs.size]) (by omega) hlt (hst'.keep L up)
      (fun b o b1 b2 b3 b4 b5 e => up b o b1 (hkp b o b2 b3 b4 b5 (hkeep b o b1 b2 b3 b4 b5 e))) (Heap.get?_update_self _ hS' rfl) (by rw [Array.toList_push, hacc, List.map_append]; rfl) (by rw [List.length_append, hal]; rfl) ⟨?_, ?_, ?_⟩⟩) (by rw [hsz]; omega) (by show (acc.push (Value.ref h.objs.size)).size ≤ sizeLine + 1; rw [Array.size_push, hsz]; omega)
    · intro a ha
      rcases List.mem_append.mp ha with ha | ha
      · exact hG.above a ha
      · rw [List.mem_singleton.mp ha]; exact hSl
    · refine List.nodup_append.mpr ⟨hG.nd, by simp, fun a ha b hb e => ?_⟩
      rw [List.mem_singleton.mp hb] at e
      obtain ⟨j, hj⟩ := List.mem_iff_getElem?.mp ha
      obtain ⟨_, _, _, _, h3⟩ := hG.pairs j a hj
      have := Heap.lt_size h3
      rw [e] at this
      exact Nat.lt_irrefl _ this
    · intro j b hj
      rcases Nat.lt_trichotomy j as.length with h1 | h1 | h1
      · rw [List.getElem?_append_left h1] at hj
        obtain ⟨x, y, e1, e2, e3⟩ := hG.pairs j b hj
        have hb := hG.above b (List.mem_of_getElem? hj)
        exact ⟨x, y, e1, e2, up b _ (Nat.ne_of_gt hb) (hup b _ (Nat.le_of_lt hb) e3)⟩
      · subst h1
        have hb : h.objs.size = b := by simpa using hj
        subst hb
        exact ⟨_, _, by rw [hal]; exact ex, by rw [hal]; exact ey, up _ _ (Nat.ne_of_gt hSl) ht⟩
      · have hnone : (as ++ [h.objs.size])[j]? = none := List.getElem?_eq_none (by rw [List.length_append, List.length_singleton]; omega)
        rw [hnone] at hj; cases hj
end
section
variable {prog : Program} {w : World} {A : Around} {E : Value → Shared → Prop} {s : Shared} {z TI TO i1 i2 l1 l2 : Addr} {xs ys : Array Value}
theorem collectZ {R : List Value → Shared → Prop} {n : Nat} (hh : A.handled = none) (D : ZipApart z TI TO i1 i2 l1 l2) (L : Low z TI TO i1 i2 l1 l2 s.heap.objs.size) (hn : n ≤ sizeLine) (hx : xs.size = n) (hy : ys.size = n)
    (hz : IsZip s.heap z TI TO .none) (hTI : IsPair s.heap TI (.ref i1) (.ref i2)) (hTO : ∃ a b, IsPair s.heap TO a b) (h1 : s.heap.IsTupleIter i1 l1 0) (h2 : s.heap.IsTupleIter i2 l2 0) (hl1 : s.heap.IsTuple l1 xs) (hl2 : s.heap.IsTuple l2 ys)
    (h : ∀ (h' : Heap) (tk : Nat) (as : List Addr), (∀ b o, b ≠ z → b ≠ TO → b ≠ i1 → b ≠ i2 → s.heap.get? b = some o → h'.get? b = some o) → as.length = n → Made xs ys s.heap.objs.size h' as → s.heap.objs.size ≤ h'.objs.size → R (as.map Value.ref) { s with heap := h', toks := tk }) :
    wpAny (model prog w) A (collect (.ref z)) R E s := by
  unfold collect
  refine wpAny_bind (wpAny_runValue (codeAny_builtin F.entry_proto_collect ?_))
  rw [Around.under_plainId F.plain_proto_collect _]
  show wpAny _ A.in1 (newList [] >>= fun l => again (.builtin "list.__iadd__" ⟨[l, .ref z], []⟩)) _ _ s
  refine wpAny_bind (wpAny_newObj_type ?_)
  refine wpAny_pure ⟨plainId_quiet F.plain_list_iadd _, codeAny_builtin F.entry_list_iadd ?_⟩
  rw [Around.under_plainId F.plain_list_iadd _]
  have st0 : ZSt (s.heap.push { cls := .type "list", data := .seq ([] : List Value).toArray }) z TI TO i1 i2 l1 l2 s.heap.objs.size xs ys 0 :=
    ⟨Heap.get?_push_of_some _ hTI, h1.at fun o e => Heap.get?_push_of_some _ e, h2.at fun o e => Heap.get?_push_of_some _ e, hl1.at fun o e => Heap.get?_push_of_some _ e, hl2.at fun o e => Heap.get?_push_of_some _ e, .inl ⟨Heap.get?_push_of_some _ hz, let ⟨a, b, e⟩ := hTO; ⟨a, b, Heap.get?_push_of_some _ e⟩⟩⟩
  have hT : ({ s with heap := s.heap.push { cls := .type "list", data := .seq ([] : List Value).toArray } } : Shared).TypeIs (.ref z) "zip" := let ⟨o, e, c⟩ := st0.type; ⟨o, e, c⟩
  have hSI : s.heap.objs.size ≠ z := Nat.ne_of_gt L.1
  show wpAny _ A.in1 (Builtin.List.listExtendWith (.ref s.heap.objs.size) (.ref z) (.ref s.heap.objs.size)) _ _ _
  unfold Builtin.List.listExtendWith
  refine wpAny_bind (wpAny_typeOf hT ?_)
  have e1 : Builtin.List.listSameRef (.ref s.heap.objs.size) (.ref z) = false := by simp [Builtin.List.listSameRef, hSI]
  have e2 : (Value.type "zip" == Value.type "list") = false := by decide
  have e3 : (Value.type "zip" == Value.type "tuple") = false := by decide
  simp only [e1, e2, e3, Bool.or_false, Bool.false_eq_true, if_false]
  refine wpAny_bind (wpAny_pyIter_zip (Heap.get?_push_of_some _ hz) ?_)
  refine wpAny_bind (wpAny_holding ?_)
  unfold Builtin.List.listLengthHint
  refine wpAny_bind (wpAny_specialOf hT nolen_zip ?_)
  show wpAny _ A.in1 (specialOf (Value.ref z) (Str.ofString "__length_hint__") >>= _) _ _ _
  refine wpAny_bind (wpAny_specialOf hT nohint_zip ?_)
  refine wpAny_pure ?_
  show wpAny _ A.in1 (rule "list.extend.makes-room" >>= fun _ => Builtin.List.listTouch (.ref s.heap.objs.size) >>= fun _ =>
    again (.builtin "list.extend.loop" ⟨[.ref s.heap.objs.size, .ref z, .ref s.heap.objs.size], []⟩)) _ _ _
  refine wpAny_bind (wpAny_rule ?_)
  have hS₁ : (s.heap.push { cls := .type "list", data := .seq ([] : List Value).toArray }).get? s.heap.objs.size = some { cls := .type "list", data := .seq ([] : List Value).toArray } := Heap.get?_push_size _ rfl
  refine wpAny_bind ?_
  show wpAny _ A.in1 (updateSeq s.heap.objs.size (·.push .none) >>= fun _ => updateSeq s.heap.objs.size (·.pop)) _ _ _
  refine wpAny_bind (wpAny_updateSeq hS₁ rfl ?_)
  have hS₂ := Heap.get?_update_self (Obj.mapSeq (·.push Value.none)) hS₁ rfl
  refine wpAny_updateSeq hS₂ rfl ?_
  have hS₃ := Heap.get?_update_self (Obj.mapSeq (·.pop)) hS₂ rfl
  have oth : ∀ b o, b ≠ s.heap.objs.size → (s.heap.push { cls := .type "list", data := .seq ([] : List Value).toArray }).get? b = some o →
      (((s.heap.push { cls := .type "list", data := .seq ([] : List Value).toArray }).update s.heap.objs.size (Obj.mapSeq (·.push Value.none))).update s.heap.objs.size (Obj.mapSeq (·.pop))).get? b = some o :=
    fun b o hb e => (Heap.get?_update_other _ _ (Ne.symm hb)).trans ((Heap.get?_update_other _ _ (Ne.symm hb)).trans e)
  refine wpAny_pure ⟨plainId_quiet F.plain_extend_loop _, loopZ (h₁ := s.heap) hh D L hn hx hy (.ref s.heap.objs.size) (fun h' tk acc c as hk hS' hl hG hacc => ?_) n 0 _ s.toks _ #[] [] (Nat.sub_zero _) (Nat.zero_le _) (st0.keep L oth) (fun b o b1 _ _ _ _ e => oth b o b1 (Heap.get?_push_of_some _ e)) hS₃ rfl rfl
    ⟨(fun _ ha => nomatch ha), List.nodup_nil, (fun j a hj => by simp at hj)⟩⟩
  show wpAny _ A (load s.heap.objs.size >>= _) _ _ _
  refine wpAny_bind (wpAny_load hS' ?_)
  refine wpAny_pure ?_
  show R acc.toList _
  rw [hacc]
  exact h h' tk as (fun b o b2 b3 b4 b5 e => hk b o (Nat.ne_of_lt (Heap.lt_size e)) b2 b3 b4 b5 e) hl hG (Nat.le_of_lt (Heap.lt_size hS'))
theorem code_tuple_zip {Q₁ : Value → Shared → Prop} {n : Nat} (hh : A.handled = none) (D : ZipApart z TI TO i1 i2 l1 l2) (L : Low z TI TO i1 i2 l1 l2 s.heap.objs.size) (hn : n ≤ sizeLine) (hx : xs.size = n) (hy : ys.size = n)
    (hz : IsZip s.heap z TI TO .none) (hTI : IsPair s.heap TI (.ref i1) (.ref i2)) (hTO : ∃ a b, IsPair s.heap TO a b) (h1 : s.heap.IsTupleIter i1 l1 0) (h2 : s.heap.IsTupleIter i2 l2 0) (hl1 : s.heap.IsTuple l1 xs) (hl2 : s.heap.IsTuple l2 ys)
    (h : ∀ (h' : Heap) (tk : Nat) (as : List Addr), (∀ b o, b ≠ z → b ≠ TO → b ≠ i1 → b ≠ i2 → s.heap.get? b = some o → h'.get? b = some o) → as.length = n → Made xs ys s.heap.objs.size h' as → s.heap.objs.size ≤ h'.objs.size →
      Q₁ (.ref h'.objs.size) { s with heap := h'.push { cls := .type "tuple", data := .seq (as.map Value.ref).toArray }, toks := tk }) :
    codeAny (model prog w) A (.call (.builtin "tuple.__new__") ⟨[.type "tuple", .ref z], []⟩) (wants Q₁ E) s := by
  refine codeAny_of_tree ?_
  show wpAny _ A.in1 (do checkBuiltinCall "tuple.__new__" ⟨[.type "tuple", .ref z], []⟩; again (.builtin "tuple.__new__" ⟨[.type "tuple", .ref z], []⟩)) _ _ s
  refine wpAny_bind (wpAny_of_eq (F.newCall_tuple_1 _) (wpAny_pure ⟨plainId_quiet F.plain_tuple_new _, codeAny_builtin F.entry_tuple_new ?_⟩))
  rw [Around.under_plainId F.plain_tuple_new _]
  have hsub := sub_tuple_self
  have hinit := init_tuple_lookup
  have hmh := madeHere_tuple
  have hTI' : s.TypeIs (.ref z) "zip" := ⟨_, hz, rfl⟩
  have hh1 : A.in1.handled = none := hh
  wp_walk using wpAny_typeOf hTI', collectZ (A := A.in1) hh1 D L hn hx hy hz hTI hTO h1 h2 hl1 hl2
  intro h' tk as hk hl hG hsz
  show wpAny _ _ (Builtin.Tuple.tupleExact (as.map Value.ref).toArray >>= fun v => ret v) _ _ _
  unfold Builtin.Tuple.tupleExact
  refine wpAny_bind (wpAny_newObj_type ?_ (by show (as.map Value.ref).toArray.size ≤ sizeLine; rw [List.size_toArray, List.length_map]; omega))
  exact wpAny_pure (h h' tk as hk hl hG hsz)
theorem call_tuple_zip {Q : Value → Shared → Prop} {n : Nat} (hh : A.handled = none) (D : ZipApart z TI TO i1 i2 l1 l2) (L : Low z TI TO i1 i2 l1 l2 s.heap.objs.size) (hn : n ≤ sizeLine) (hx : xs.size = n) (hy : ys.size = n)
    (hz : IsZip s.heap z TI TO .none) (hTI : IsPair s.heap TI (.ref i1) (.ref i2)) (hTO : ∃ a b, IsPair s.heap TO a b) (h1 : s.heap.IsTupleIter i1 l1 0) (h2 : s.heap.IsTupleIter i2 l2 0) (hl1 : s.heap.IsTuple l1 xs) (hl2 : s.heap.IsTuple l2 ys)
    (hQ : ∀ (h' : Heap) (tk : Nat) (as : List Addr), (∀ b o, b ≠ z → b ≠ TO → b ≠ i1 → b ≠ i2 → s.heap.get? b = some o → h'.get? b = some o) → as.length = n → Made xs ys s.heap.objs.size h' as → s.heap.objs.size ≤ h'.objs.size →
      Q (.ref h'.objs.size) { s with heap := h'.push { cls := .type "tuple", data := .seq (as.map Value.ref).toArray }, toks := tk }) :
    wpAny (model prog w) A (call (.type "tuple") [.ref z]) Q E s := by
  refine callType_codes (Q₁ := fun obj s₁ => s₁.TypeIs obj "tuple" ∧ Q obj s₁) F.called_tuple (F.typeCall_tuple_1 _) F.entry_object_init
    (code_tuple_zip (A := A.in1) hh D L hn hx hy hz hTI hTO h1 h2 hl1 hl2 fun h' tk as hk hl hG hsz => ⟨⟨_, Heap.get?_push_size _ rfl, rfl⟩, hQ h' tk as hk hl hG hsz⟩) fun obj s₁ h₁ => ?_
  exact ⟨h₁.1, F.args_object_init_2 obj _, object_init_meets F.called_tuple.init.lookup F.called_tuple.made (by decide) prog w A.in1 _ s₁ ⟨h₁.1, rfl, h₁.2⟩⟩
end
end TZ

/-! tuple(zip(t, u)) as a reading; the records of a network. -/
namespace Tt
open PySem PySem.Spec PyProof.Rows L2 RZ
open C8 (Cal Met Mak pe_c pe_mk pe_mt pe_mt0 pe_gc)
def layP (H : Hp) (as : List Addr) (xs ys : List V) : Hp := fun b => if b ∈ as then some (.tup [xs.getD (as.idxOf b) .non, ys.getD (as.idxOf b) .non]) else H b
theorem layP_out {H : Hp} {as : List Addr} {xs ys : List V} {b : Addr} (h : b ∉ as) : layP H as xs ys b = H b := if_neg h
theorem layP_in {H : Hp} {as : List Addr} {xs ys : List V} {b : Addr} (h : b ∈ as) : layP H as xs ys b = some (.tup [xs.getD (as.idxOf b) .non, ys.getD (as.idxOf b) .non]) := if_pos h
def tTupZip (K : PySem.W.Frag) (ta : TA) : TE := fun σ H Q => ta σ H fun vs H2 => ∃ (a b : Addr) (xs ys : List V), vs = [V.ref a, V.ref b] ∧ SqT K H2 a xs ∧ SqT K H2 b ys ∧ xs.length = ys.length ∧ xs.length ≤ 100000 ∧
  ∀ H3 (as : List Addr) p, Same H2 H3 → as.length = xs.length → (∀ (j : Nat) (c : Addr), as[j]? = some c → ∃ x y, xs[j]? = some x ∧ ys[j]? = some y ∧ H3 c = some (.tup [x, y])) → H3 p = none → Q (.ref p) (upd H3 p (.tup (as.map V.ref)))
section
variable {X : Cx}
theorem getD_at {l : List V} {j : Nat} {x : V} (h : l[j]? = some x) : l.getD j .non = x := by
  rw [List.getD_eq_getElem?_getD, h]
  rfl
theorem pe_tupZip {e e2 : Expr} {ta : TE} {tb : TE} {p q pos pos2 : Pos} {K : PySem.W.Frag} (hc : X.calm = true) (hg : Gl X "tuple") (hm : X.mg "tuple" = none) (hg2 : Gl X "zip") (hm2 : X.mg "zip" = none) (he : PE X e ta) (he2 : PE X e2 tb) (hK : X.K = K := by rfl)
    (na : starEach [.Call (.Name "zip" q) [e, e2] [] pos2] X.env = (false, eval (.Call (.Name "zip" q) [e, e2] [] pos2) X.env) :: starEach [] X.env := by rfl)
    (n1 : starEach [e, e2] X.env = (false, eval e X.env) :: starEach [e2] X.env := by rfl) (n2 : starEach [e2] X.env = (false, eval e2 X.env) :: starEach [] X.env := by rfl) (hpl : (backTo pos2 (starEach [e2] X.env)).any (·.1) = false := by rfl) :
    PE X (.Call (.Name "tuple" p) [.Call (.Name "zip" q) [e, e2] [] pos2] [] pos) (tTupZip K (tCons ta (tCons tb tNil))) := by
  subst hK
  have ha : PA X [e, e2] (tCons ta (tCons tb tNil)) := pa_cons he (pa_cons he2 pa_nil n2) n1
  refine ⟨fun pins s σ H Q I h => ?_⟩
  refine Call_ (ld_blt I hg hm boot_tuple (PyProof.Rows.callWith_type1 (args_cons (thn (Q := fun x s2 => ∃ (s1 : Shared) (H1 : Hp) (h' : Heap) (a b : Addr) (xs ys : List V) (its its2 : List Value), x = .ref (s1.heap.objs.size + 4) ∧ s2 = { s1 with heap := h' } ∧ Inv X pins σ H1 s1 ∧ Vals xs its ∧ Vals ys its2 ∧
      h'.IsTuple a its.toArray ∧ h'.IsTuple b its2.toArray ∧ a < s1.heap.objs.size ∧ b < s1.heap.objs.size ∧ IsZip h' (s1.heap.objs.size + 4) (s1.heap.objs.size + 2) (s1.heap.objs.size + 3) .none ∧ IsPair h' (s1.heap.objs.size + 2) (.ref s1.heap.objs.size) (.ref (s1.heap.objs.size + 1)) ∧
      IsPair h' (s1.heap.objs.size + 3) .none .none ∧ h'.IsTupleIter s1.heap.objs.size a 0 ∧ h'.IsTupleIter (s1.heap.objs.size + 1) b 0 ∧ h'.objs.size = s1.heap.objs.size + 5 ∧ (∀ c o, s1.heap.get? c = some o → h'.get? c = some o) ∧ xs.length = ys.length ∧ xs.length ≤ 100000 ∧
      ∀ H3 (as : List Addr) p, Same H1 H3 → as.length = xs.length → (∀ (j : Nat) (c : Addr), as[j]? = some c → ∃ x y, xs[j]? = some x ∧ ys[j]? = some y ∧ H3 c = some (.tup [x, y])) → H3 p = none → Q (.ref p) (upd H3 p (.tup (as.map V.ref)))) ?_ fun x s2 hx => args_nil ?_) na) na))
  · refine Call_ (ld_blt I hg2 hm2 PyProof.Rows.boot_zip (PyProof.Rows.callWith_type1 (thn (ha.run pos2 pins s σ H _ I h) fun us s1 ⟨vs, H1, I1, r1, q1⟩ => ?_) n1 hpl))
    obtain ⟨a, b, xs, ys, ex, hqx, hqy, hl, hz, q⟩ := q1
    subst ex
    cases r1 with
    | cons r rr =>
      cases rr with
      | cons r' rr =>
        cases rr
        cases r
        cases r'
        obtain ⟨its, rv, p1, _⟩ := I1.tuple hqx
        obtain ⟨its2, rv2, p2, _⟩ := I1.tuple hqy
        obtain ⟨o1, ho1, _⟩ := id p1
        obtain ⟨o2, ho2, _⟩ := id p2
        exact call_zipT (show s1.heap.IsTuple a its.toArray from p1) (show s1.heap.IsTuple b its2.toArray from p2) fun h' hz' hTI hTO h1 h2 hsz hk =>
          ⟨s1, H1, h', a, b, xs, ys, its, its2, rfl, rfl, I1, rv, rv2, Heap.IsTuple.at p1 fun o e => hk _ o e, Heap.IsTuple.at p2 fun o e => hk _ o e, Heap.lt_size ho1, Heap.lt_size ho2, hz', hTI, hTO, h1, h2, hsz, hk, hl, hz, q⟩
  · obtain ⟨s1, H1, h', a, b, xs, ys, its, its2, rfl, rfl, I1, rv, rv2, p1, p2, la, lb, hz', hTI, hTO, h1, h2, hsz, hk, hl, hz, q⟩ := hx
    have l1 := rv.length
    have l2 := rv2.length
    have low : TZ.Low (s1.heap.objs.size + 4) (s1.heap.objs.size + 2) (s1.heap.objs.size + 3) s1.heap.objs.size (s1.heap.objs.size + 1) a b h'.objs.size := by
      rw [hsz]
      unfold TZ.Low
      generalize s1.heap.objs.size = m at la lb
      have la' : (a : Nat) < m := la
      have lb' : (b : Nat) < m := lb
      refine ⟨?_, ?_, ?_, ?_, ?_, ?_, ?_⟩
      · exact Nat.lt_succ_self _
      · exact Nat.add_lt_add_left (by decide) _
      · exact Nat.add_lt_add_left (by decide) _
      · exact Nat.lt_add_of_pos_right (by decide)
      · exact Nat.add_lt_add_left (by decide) _
      · exact Nat.lt_of_lt_of_le la' (Nat.le_add_right _ _)
      · exact Nat.lt_of_lt_of_le lb' (Nat.le_add_right _ _)
    refine TZ.call_tuple_zip (s := { s1 with heap := h' }) (n := xs.length) (I1.ok.hd hc) (PySem.W.ktu_apart s1.heap.objs.size a b la lb) low (Nat.le_trans hz (by decide)) (by simp [l1]) (by simp [hl, l2]) hz' hTI ⟨_, _, hTO⟩ h1 h2 p1 p2 fun h'' tk as hk2 hal hG hle => ?_
    have hk3 : ∀ c o, s1.heap.get? c = some o → h''.get? c = some o := fun c o e => by
      have := Heap.lt_size e
      exact hk2 c o (Nat.ne_of_lt (Nat.lt_of_lt_of_le this (Nat.le_add_right _ _))) (Nat.ne_of_lt (Nat.lt_of_lt_of_le this (Nat.le_add_right _ _))) (Nat.ne_of_lt this) (Nat.ne_of_lt (Nat.lt_of_lt_of_le this (Nat.le_add_right _ _))) (hk c o e)
    have hab : ∀ c ∈ as, s1.heap.objs.size ≤ c := fun c hc' => by
      have := hG.above c hc'
      have h5 : s1.heap.objs.size + 5 < c := by rw [← hsz]; exact this
      omega
    have hfr : ∀ c ∈ as, H1 c = none := fun c hc' => I1.hok.fresh (hab c hc')
    have hns : ∀ b u, H1 b = some u → b ∉ as := fun b u e hb => by rw [hfr b hb] at e; cases e
    have hin : ∀ b, b ∈ as → ∃ x y u v, xs[as.idxOf b]? = some x ∧ ys[as.idxOf b]? = some y ∧ RelV x u ∧ RelV y v ∧ IsPair h'' b u v := fun b hb => by
      have hj : as.idxOf b < as.length := List.idxOf_lt_length_of_mem hb
      obtain ⟨u, v, e1, e2, e3⟩ := hG.pairs (as.idxOf b) b (by rw [List.getElem?_eq_getElem hj, List.getElem_idxOf hj])
      have hj' : as.idxOf b < xs.length := by rw [← hal]; exact hj
      obtain ⟨u', f1, r1⟩ := rv.get (List.getElem?_eq_getElem hj')
      obtain ⟨v', f2, r2⟩ := rv2.get (List.getElem?_eq_getElem (show as.idxOf b < ys.length by rw [← hl]; exact hj'))
      have g1 : its.toArray[as.idxOf b]? = some u' := by simpa using f1
      have g2 : its2.toArray[as.idxOf b]? = some v' := by simpa using f2
      rw [g1] at e1
      rw [g2] at e2
      have q1 : u' = u := Option.some.inj e1
      have q2 : v' = v := Option.some.inj e2
      rw [← q1, ← q2] at e3
      exact ⟨_, _, u', v', List.getElem?_eq_getElem hj', List.getElem?_eq_getElem (show as.idxOf b < ys.length by rw [← hl]; exact hj'), r1, r2, e3⟩
    have I2 : Inv X pins σ (layP H1 as xs ys) { s1 with heap := h'', toks := tk } := I1.un ⟨fun b o e _ _ _ => hk3 b o e, fun b o e _ _ _ => ⟨o.slots, hk3 b o e⟩,
        fun b o e n _ => by rw [layP_out (fun hb => Nat.lt_irrefl _ (Nat.lt_of_lt_of_le (Heap.lt_size e) (hab b hb)))]; exact n, fun b o e _ => ⟨o, hk3 b o e⟩, fun b zs e => by rw [layP_out (hns b _ e)]; exact e, fun b o u e => by rw [layP_out (hns b _ e)]; exact e,
        fun b ps e => ⟨#[], by rw [layP_out (hns b _ e), e]; simp⟩⟩ fun b u e => by
      by_cases hb : b ∈ as
      · rw [layP_in hb] at e
        cases e
        obtain ⟨x, y, u, v, e1, e2, r1, r2, e3⟩ := hin b hb
        rw [getD_at e1, getD_at e2]
        exact ⟨by show 2 ≤ sizeLine; decide, [u, v], .cons r1 (.cons r2 .nil), ⟨_, e3, rfl, _, rfl⟩⟩
      · rw [layP_out hb] at e
        exact (I1.hok b u e).stay (fun c v _ z => hk3 c v z) (fun c z => by rw [layP_out (hns c _ z)]; exact z) fun c zs z => by rw [layP_out (hns c _ z)]; exact z
    have hsz2 : ({ s1 with heap := h'', toks := tk } : Shared).heap.objs.size = h''.objs.size := rfl
    refine ⟨.ref h''.objs.size, upd (layP H1 as xs ys) h''.objs.size (.tup (as.map V.ref)), I2.laid (t' := tk) (fun c o e => Heap.get?_push_of_some _ e) (Nat.le_refl _) (show ObjOk X.prog X.w _ _ _ (.tup (as.map V.ref)) from ⟨?_, as.map Value.ref, ?_, IsTup.new _ _⟩), rfl, q _ as _ (fun b u e => by rw [layP_out (hns b u e)]; exact e) hal (fun j c hj => ?_) (I2.hok.fresh (Nat.le_refl _))⟩
    · rw [List.length_map, hal]
      exact Nat.le_trans hz (by decide)
    · clear hin hns hfr hab hG hal I2
      induction as with
      | nil => exact .nil
      | cons c as ih => exact .cons rfl ih
    · have hc' : c ∈ as := List.mem_of_getElem? hj
      obtain ⟨hlt, hge⟩ := List.getElem?_eq_some_iff.mp hj
      have hidx : as.idxOf c = j := by
        rw [← hge]
        exact hG.nd.idxOf_getElem j hlt
      obtain ⟨x, y, u, v, e1, e2, _⟩ := hin c hc'
      rw [hidx] at e1 e2
      exact ⟨x, y, e1, e2, by rw [layP_in hc', hidx, getD_at e1, getD_at e2]⟩
end
section
variable {P : Program} {w : World} {K : PySem.W.Frag} {mg : Str → Option Value} {base : Heap}
theorem fz_of_at {H : Hp} : ∀ {vs : List V} {ds : List PyData}, vs.length = ds.length → (∀ (j : Nat) (v : V) (d : PyData), vs[j]? = some v → ds[j]? = some d → Fz H v d) → FzAll H vs ds
  | [], [], _, _ => .nil
  | [], _ :: _, h, _ => by simp at h
  | _ :: _, [], h, _ => by simp at h
  | v :: vs, d :: ds, h, f => .cons (f 0 v d rfl rfl) (fz_of_at (by simpa using h) fun j y w h1 h2 => f (j + 1) y w (by simpa using h1) (by simpa using h2))
theorem e_tupZip {ta tb : TE} {σ : L2.St} {H : Hp} {ds es : List PyData} (ha : EF ta σ H (.tuple ds)) (hb : EF tb σ H (.tuple es)) (hl : ds.length = es.length) (hz : ds.length ≤ 1000) :
    EF (tTupZip K (tCons ta (tCons tb tNil))) σ H (.tuple ((ds.zip es).map fun p => .tuple [p.1, p.2])) := fun H1 a Q q =>
  ha H1 a _ fun x H2 s2 f2 => hb H2 (a.trans s2) _ fun y H3 s3 f3 => by
    obtain ⟨pa, xs, rfl, ea, fa⟩ := f2.tupI
    obtain ⟨pb, ys, rfl, eb, fb⟩ := f3.tupI
    have l1 := fa.len
    have l2 := fb.len
    refine ⟨pa, pb, xs, ys, rfl, SqT.of (s3 _ _ ea), SqT.of eb, by omega, by omega, fun H4 as p s4 hal hp np => ?_⟩
    have sN := same_new (o := .tup (as.map V.ref)) np
    refine q _ _ ((s2.trans s3).trans (s4.trans sN)) (.tup upd_same (fz_of_at ?_ fun j v d hv hd => ?_))
    · rw [List.length_map, List.length_map, List.length_zip]
      omega
    · rw [List.getElem?_map] at hv hd
      cases e : as[j]? with
      | none => rw [e] at hv; cases hv
      | some c =>
        rw [e] at hv
        cases hv
        obtain ⟨x, y, h1, h2, h3⟩ := hp j c e
        obtain ⟨d1, e1, f1⟩ := fa.getV h1
        obtain ⟨d2, e2, f2⟩ := fb.getV h2
        rw [zip_at e1 e2] at hd
        cases hd
        exact .tup (sN _ _ h3) (.cons (((f1.same s3).same s4).same sN) (.cons ((f2.same s4).same sN) .nil))
def spRcs (K : PySem.W.Frag) : Sp := fun vs H Q E => ∃ n l g t cs es, vs = [.ref n] ∧ NT K H n l g t cs es ∧ es.length = cs.length ∧ cs.length ≤ 20 ∧ ∀ v H', Same H H' → Fz H' v (.tuple ((recsOf cs es).map Rec.enc)) → Q v H'
theorem sc_Network_records : FnScope ["self"] ["self"] (defScope s_Network_records) := ⟨rfl, rfl, rfl, by decide +kernel, rfl, by decide +kernel, by decide +kernel⟩
theorem met_Network_records (T : Tx K mg) : Met P w K mg base 1 (CNetwork K) "records" (spRcs K) [] :=
  T.met 78 rfl T.cls_Network T.me_Network_records sc_Network_records (fun _ _ _ _ _ _ us hl => match us, hl with | [_], _ => rfl) (fun vs H Q E ⟨_, _, _, _, _, _, e, _⟩ => by rw [e]; rfl) fun f cdv A' outer s H vs Q E hr h => by
    obtain ⟨n, l, g, t, cs, es, rfl, nt, hl, hc, k⟩ := h
    refine ⟨_, (pss_one (ps_ret (pe_tupZip rfl (by rfl) T.n_tuple (by rfl) T.n_zip (k_fld (K := K) (pv 0)) (k_fld (K := K) (pv 0))))), ?_⟩
    obtain ⟨dx, gv, cv, tv, xs, x, A, en, fg, el, hxl, pt, hpl, hxn, fcs, fes⟩ := nt.ex
    refine EF.ret (EF.is (e_tupZip (e_fld (at_var rfl) en T.cls_Network T.no_Network_commands rfl fcs) (e_fld (at_var rfl) en T.cls_Network T.no_Network_told rfl fes) (by rw [List.length_map, List.length_map, hl]) (by rw [List.length_map]; omega)) ?_) k
    unfold recsOf
    rw [List.zip_map, List.map_map, List.map_map]
    rfl
end
end Tt

/-! The law's turned records. -/
namespace Tt
open PySem PySem.Spec PyProof.Rows L2 RZ
open C8 (Cal Met Mak pe_c pe_mk pe_mt pe_mt0 pe_gc)
section
variable {P : Program} {w : World} {K : PySem.W.Frag} {mg : Str → Option Value} {base : Heap}
theorem r_ixc {i : Nat} {p : Addr} {E : XK} {ta : TA} {r : R2} {D : Ends} {σ : L2.St} {H : Hp} (hi : σ[i]? = some (some (.ref p))) (h : tCall spNext [] E ta σ H fun y H1 => r (.ref p) y H1 D.rt) : tRet (tOp r (tVar i) (tCall spNext [] E ta)) D σ H := ⟨_, hi, h⟩
theorem g_lix {tl : TE} {E : XK} {ta : TA} {r : R2} {σ : L2.St} {H : Hp} {Q : VK} (h : tl σ H fun x H1 => tCall spNext [] E ta σ H1 fun y H2 => r x y H2 Q) : tOp r tl (tCall spNext [] E ta) σ H Q := h
section
variable {sp : Sp} {E : XK} {ta tt : TA} {r r2 : R2} {t1 t3 tl : TE} {D : Ends} {σ : L2.St} {H : Hp} {d : PyData} {i : Nat} {p : Addr} {c : V}
theorem g_act (h1 : EF t1 σ H d) (k : ∀ x H1, Same H H1 → Fz H1 x d → tCall sp [] E ta σ H1 fun v H2 => tOp r (tOp r (tC x) (tTup (tCons (tTup (tCons (tC v) tt)) tNil))) t3 σ H2 D.rt) :
    tRet (tOp r (tOp r t1 (tTup (tCons (tTup (tCons (tCall sp [] E ta) tt)) tNil))) t3) D σ H := h1.go fun x H1 s f => k x H1 s f
theorem g_row (hi : σ[i]? = some (some (.ref p))) (h1 : EF t1 σ H d) (k : ∀ x H1, Same H H1 → Fz H1 x d → tCall sp [] E ta σ H1 fun y H2 => r2 (.ref p) y H2 fun u H3 => tOp r (tOp r (tC x) (tTup (tCons (tC u) tNil))) t3 σ H3 D.rt) :
    tRet (tOp r (tOp r t1 (tTup (tCons (tOp r2 (tVar i) (tCall sp [] E ta)) tNil))) t3) D σ H := h1.go fun x H1 s f => ⟨_, hi, k x H1 s f⟩
theorem g_num (hi : σ[i]? = some (some c)) (h1 : EF t1 σ H d) (k : ∀ x H1, Same H H1 → Fz H1 x d → tl σ H1 fun l H2 => tCall sp [] E ta σ H2 fun y H3 => r2 l y H3 fun u H4 => tOp r (tOp r (tC x) (tTup (tCons (tTup (tCons (tC c) (tCons (tC u) tNil))) tNil))) t3 σ H4 D.rt) :
    tRet (tOp r (tOp r t1 (tTup (tCons (tTup (tCons (tVar i) (tCons (tOp r2 tl (tCall sp [] E ta)) tNil))) tNil))) t3) D σ H := h1.go fun x H1 s f => ⟨_, hi, k x H1 s f⟩
end
/-- index d of a list that stands -/
theorem ix_go {H : Hp} {p : Addr} {xs : List V} {d : Nat} {v : V} {Q : VK} (e : H p = some (.lst xs)) (hv : xs[d]? = some v) (q : Q v H) : rIxL K (.ref p) (.int (d : Int)) H Q := ⟨p, xs, _, v, rfl, rfl, SqL.of e, atI_nat hv, q⟩
def spTurn : Sp := fun vs H Q E => ∃ (sa sc : Addr) (gv : V) (a : Addr) (A : Ad) (g : Gr) (t : Tk) (rv : V) (rs : List Rec), vs = [.ref sa, gv, .ref a, rv] ∧ ST H sa sc ∧ Fz H gv (eG g) ∧ GOK g ∧ LT H a A t ∧ TabsOK g t.tabs ∧ t.way.length ≤ 38 ∧ sa ∉ a :: A.fp ∧ Fz H rv (.tuple (rs.map Rec.enc)) ∧ (∀ r ∈ rs, ∃ c e, r = Rec.ok c (.int ((e : Nat) : Int)) ∧ CmdOK g c) ∧ rs.length ≤ 10 ∧
  ∀ v val H', ValS g val → Fr [sa] H H' → ST H' sa sc → Fz H' v (Val.enc val) → Q v H'
theorem recs_tb {g : Gr} {rs : List Rec} (h : ∀ r ∈ rs, ∃ c e, r = Rec.ok c (.int ((e : Nat) : Int)) ∧ CmdOK g c) : tupsB (rs.map Rec.enc) = true := by
  rw [tupsB_iff]
  intro d hd
  obtain ⟨r, hr, rfl⟩ := List.mem_map.mp hd
  obtain ⟨c, e, rfl, _⟩ := h r hr
  simp [Rec.enc, tupB, tupsB, tb_cmd]
theorem recs_S {g : Gr} {rs : List Rec} (h : ∀ r ∈ rs, ∃ c e, r = Rec.ok c (.int ((e : Nat) : Int)) ∧ CmdOK g c) : ∀ r ∈ rs, RecS g r := fun r hr => by
  obtain ⟨c, e, rfl, hc⟩ := h r hr
  exact ⟨hc, rfl⟩
theorem vs_app {g : Gr} {rs qs : List Rec} {r : Rec} (hr : RecS g r) (h1 : ∀ r ∈ rs, RecS g r) (h2 : ∀ r ∈ qs, RecS g r) (hl : rs.length + qs.length ≤ 10) : ValS g (.recs (rs ++ [r] ++ qs)) :=
  ⟨by simp; omega, fun x hx => by
    rcases List.mem_append.mp hx with hx | hx
    · rcases List.mem_append.mp hx with hx | hx
      · exact h1 x hx
      · rw [List.mem_singleton.mp hx]
        exact hr
    · exact h2 x hx⟩
theorem vs_enc (rs qs : List Rec) (r : Rec) : Val.enc (.recs (rs ++ [r] ++ qs)) = .tuple (rs.map Rec.enc ++ [r.enc] ++ qs.map Rec.enc) := by
  show PyData.tuple _ = _
  rw [List.map_append, List.map_append]
  rfl
theorem rsBad {g : Gr} {d : PyData} (h : BadR d) : RecS g (.bad d) := h
theorem rsOk {g : Gr} {c : Cmd} {e : PyData} (h : CmdOK g c) (k : effD e = true) : RecS g (.ok c e) := ⟨h, k⟩
theorem sc__law_turned : FnScope ["_law_stream_here", "_law_graph_here", "_law_talk", "_law_records", "_law_pick", "_law_odd", "_law_at", "_law_command", "_law_effect", "_law_row"] ["_law_stream_here", "_law_graph_here", "_law_talk", "_law_records"] (defScope s__law_turned) := ⟨rfl, rfl, rfl, by decide +kernel, rfl, by decide +kernel, by decide +kernel⟩
theorem cal__law_turned (T : Tx K mg) : Cal P w K mg base 3 "_law_turned" spTurn [] :=
  T.cal 60 60 rfl rfl sc__law_turned (fun _ _ _ _ _ _ us hl => match us, hl with | [_, _, _, _], _ => rfl) (fun vs H Q E ⟨_, _, _, _, _, _, _, _, _, e, _⟩ => by rw [e]; rfl) fun f cdv A' outer s H vs Q E hr h => by
    obtain ⟨sa, sc, gv, a, A, g, t, rv, rs, rfl, st, fg, G, lt, htb, hway, hsa, frv, hrs, hlen, k⟩ := h
    refine ⟨_, (pss_cons (ps_set (i := 4) sc__law_turned.nd rfl (Or.inl rfl) (pe_c (cal__law_next T) hr (by decide) rfl (pa_cons (pv 0) (pa_cons pe_int pa_nil))))
      (pss_cons (ps_if (PW.pt (pw_or (pt_cmpR op_eq (pv 4) pe_int (nomark _)) (pw_or1 (pt_not (k_truth (K := K) (pv 3)))))) (pss_cons (ps_set (i := 5) sc__law_turned.nd rfl (Or.inl rfl) (pe_lst (pa_cons pe_non (pa_cons (pe_callTy (k_lstOf (K := K)) (by rfl) T.n_list (by decide +kernel) (pa_cons (pv 3) pa_nil)) (pa_cons (pe_op (k_catA (K := K)) (pv 3) (pe_tup (pa_cons pe_non pa_nil))) (pa_cons (pe_op (k_catA (K := K)) (pv 3) (pe_tup (pa_cons (pe_tup (pa_cons (pe_tup (pa_cons pe_str (pa_cons pe_int pa_nil))) (pa_cons pe_int pa_nil))) pa_nil))) (pa_cons (pe_op (k_catA (K := K)) (pv 3) (pe_tup (pa_cons (pe_tup pa_nil) pa_nil))) (pa_cons (pe_op (k_catA (K := K)) (pe_tup (pa_cons pe_non pa_nil)) (pv 3)) (pa_cons (pe_op (k_catA (K := K)) (pv 3) (pe_tup (pa_cons (pe_tup (pa_cons (pe_tup (pa_cons pe_str pa_nil)) (pa_cons pe_int pa_nil))) pa_nil))) pa_nil)))))))))
        (pss_one (ps_ret (pe_ix (k_ixL (K := K)) (pv 5) (pe_c (cal__law_next T) hr (by decide) rfl (pa_cons (pv 0) (pa_cons pe_int pa_nil))) (fun _ _ => rfl))))) pss_nil)
      (pss_cons (ps_set (i := 6) sc__law_turned.nd rfl (Or.inl rfl) (pe_ix (k_ixL (K := K)) (pe_lst (pa_cons pe_int (pa_cons (pe_op op_fdivN (pe_callB (k_len (K := K)) (by rfl) T.n_len (by decide +kernel) (pa_cons (pv 3) pa_nil)) pe_int) (pa_cons (pe_op op_sub (pe_callB (k_len (K := K)) (by rfl) T.n_len (by decide +kernel) (pa_cons (pv 3) pa_nil)) pe_int) pa_nil)))) (pe_c (cal__law_next T) hr (by decide) rfl (pa_cons (pv 0) (pa_cons pe_int pa_nil))) (fun _ _ => rfl)))
      (pss_cons (ps_asg (pe_ix (k_ixT (K := K)) (pv 3) (pv 6) (fun _ _ => rfl)) (k_tg (K := K) (n := 2) (pgs_cons (pg_name (i := 7) sc__law_turned.nd rfl (Or.inl rfl)) (pgs_cons (pg_name (i := 8) sc__law_turned.nd rfl (Or.inl rfl)) pgs_nil))))
      (pss_cons (ps_if (pt_cmpR op_eq (pv 4) pe_int (nomark _)) (pss_one (ps_ret (pe_op (k_catA (K := K)) (pe_slice (k_slA (K := K)) (pv 3) po_none (po_some (pv 6))) (pe_slice (k_slA (K := K)) (pv 3) (po_some (pe_op op_add (pv 6) pe_int)) po_none)))) pss_nil)
      (pss_cons (ps_if (pt_cmpR op_eq (pv 4) pe_int (nomark _)) (pss_one (ps_ret (pe_op (k_catA (K := K)) (pe_op (k_catA (K := K)) (pe_slice (k_slA (K := K)) (pv 3) po_none (po_some (pv 6))) (pe_tup (pa_cons (pe_tup (pa_cons (pe_c (cal__law_action T) hr (by decide) rfl (pa_cons (pv 0) (pa_cons (pv 1) (pa_cons (pv 2) pa_nil)))) (pa_cons (pv 8) pa_nil))) pa_nil))) (pe_slice (k_slA (K := K)) (pv 3) (po_some (pe_op op_add (pv 6) pe_int)) po_none)))) pss_nil)
      (pss_cons (ps_if (pt_cmpR op_eq (pv 4) pe_int (nomark _)) (pss_cons (ps_set (i := 9) sc__law_turned.nd rfl (Or.inl rfl) (pe_lst (pa_cons (pe_lst (pa_cons (pv 7) (pa_cons (pv 8) pa_nil))) (pa_cons (pe_tup (pa_cons (pv 7) pa_nil)) (pa_cons (pe_tup (pa_cons (pv 7) (pa_cons (pv 8) (pa_cons pe_int pa_nil)))) (pa_cons (pe_tup (pa_cons (pv 8) (pa_cons (pv 7) pa_nil))) (pa_cons (pe_tup (pa_cons pe_non (pa_cons (pv 8) pa_nil))) (pa_cons (pe_tup (pa_cons (pv 7) (pa_cons pe_non pa_nil))) (pa_cons (pe_tup (pa_cons (pv 7) (pa_cons pe_bl pa_nil))) (pa_cons (pe_tup (pa_cons (pv 7) (pa_cons (pe_tup (pa_cons (pv 8) pa_nil)) pa_nil))) pa_nil))))))))))
        (pss_one (ps_ret (pe_op (k_catA (K := K)) (pe_op (k_catA (K := K)) (pe_slice (k_slA (K := K)) (pv 3) po_none (po_some (pv 6))) (pe_tup (pa_cons (pe_ix (k_ixL (K := K)) (pv 9) (pe_c (cal__law_next T) hr (by decide) rfl (pa_cons (pv 0) (pa_cons pe_int pa_nil))) (fun _ _ => rfl)) pa_nil))) (pe_slice (k_slA (K := K)) (pv 3) (po_some (pe_op op_add (pv 6) pe_int)) po_none))))) pss_nil)
      (pss_cons (ps_if (pt_cmpR op_eq (pv 4) pe_int (nomark _)) (pss_one (ps_ret (pe_op (k_catA (K := K)) (pe_op (k_catA (K := K)) (pe_slice (k_slA (K := K)) (pv 3) po_none (po_some (pv 6))) (pe_tup (pa_cons (pe_tup (pa_cons (pv 7) (pa_cons (pe_ix (k_ixL (K := K)) (pe_lst (pa_cons (pe_op op_add (pv 8) pe_int) (pa_cons (pe_op op_sub (pv 8) pe_int) (pa_cons pe_int (pa_cons pe_int (pa_cons pe_int pa_nil)))))) (pe_c (cal__law_next T) hr (by decide) rfl (pa_cons (pv 0) (pa_cons pe_int pa_nil))) (fun _ _ => rfl)) pa_nil))) pa_nil))) (pe_slice (k_slA (K := K)) (pv 3) (po_some (pe_op op_add (pv 6) pe_int)) po_none)))) pss_nil)
      (pss_one (ps_ret (pv 3))))))))))), ?_⟩
    have tbr := recs_tb hrs
    have hS := recs_S hrs
    have tbT : tupB (.tuple (rs.map Rec.enc)) = true := tbr
    refine s_asgK (nx_go (m := 6) (at_var rfl) (EF.is e_int rfl) st (by decide) (by decide) fun d1 H1 hd1 fr1 st1 => ?_)
    have frv1 : Fz H1 rv (.tuple (rs.map Rec.enc)) := frv.tk (st.tk fr1) tbT
    refine s_ifQ (t_or (t_test (e_eqI (e_var rfl (.int (d1 : Int))) e_int)) fun _ => t_not (t_trT (e_var rfl frv1))) (fun _ H2 s2 => ?_) fun hno H2 s2 => ?_
    · have st2 := st1.same s2
      have frv2 := frv1.same s2
      refine s_asgK (ca_s (Q := fun vs H9 => vs.length ≤ sizeLine ∧ ∀ p, H9 p = none → _) (ca_l (el_listT (e_var rfl frv2)) fun q zs H3 n3 s3 e3 f3 => ?_))
      have fr3 := frv2.same s3
      have nq := st2.out n3
      refine ca_e (e_catA (e_var rfl fr3) (e_tup (ea_cons e_non ea_nil)) (by simp; omega)) fun v2 H4 s4 f4 => ?_
      have fr4 := fr3.same s4
      refine ca_e (e_catA (e_var rfl fr4) (e_tup (ea_cons (e_tup (ea_cons (e_tup (ea_cons e_str (ea_cons e_int ea_nil))) (ea_cons e_int ea_nil))) ea_nil)) (by simp; omega)) fun v3 H5 s5 f5 => ?_
      have fr5 := fr4.same s5
      refine ca_e (e_catA (e_var rfl fr5) (e_tup (ea_cons (e_tup ea_nil) ea_nil)) (by simp; omega)) fun v4 H6 s6 f6 => ?_
      have fr6 := fr5.same s6
      refine ca_e (e_catA (e_tup (ea_cons e_non ea_nil)) (e_var rfl fr6) (by simp; omega)) fun v5 H7 s7 f7 => ?_
      have fr7 := fr6.same s7
      refine ca_e (e_catA (e_var rfl fr7) (e_tup (ea_cons (e_tup (ea_cons (e_tup (ea_cons e_str ea_nil)) (ea_cons e_int ea_nil))) ea_nil)) (by simp; omega)) fun v6 H8 s8 f8 => ?_
      refine ca_n ⟨(by decide : 7 ≤ sizeLine), fun p hp => ?_⟩
      have sN := same_new (o := .lst [V.non, .ref q, v2, v3, v4, v5, v6]) hp
      have s28 := ((((s3.trans s4).trans s5).trans s6).trans s7).trans s8
      have hpsa : p ≠ sa := ((st2.same s28).out hp).1
      have eP : (upd H8 p (.lst [V.non, .ref q, v2, v3, v4, v5, v6])) p = some (.lst [V.non, .ref q, v2, v3, v4, v5, v6]) := upd_same
      have st9 := (st2.same s28).same sN
      have fr09 : Fr [sa] H (upd H8 p (.lst [V.non, .ref q, v2, v3, v4, v5, v6])) := fr1.trans (Fr.same ((s2.trans s28).trans sN))
      have eq9 := sN _ _ (((((s4.trans s5).trans s6).trans s7).trans s8) _ _ e3)
      have fq9 := f3.same ((((((s4.trans s5).trans s6).trans s7).trans s8)).trans sN)
      have f4' := f4.same ((((s5.trans s6).trans s7).trans s8).trans sN)
      have f5' := f5.same (((s6.trans s7).trans s8).trans sN)
      have f6' := f6.same ((s7.trans s8).trans sN)
      have f7' := f7.same (s8.trans sN)
      have f8' := f8.same sN
      show tRet _ _ _ (upd H8 p (.lst [V.non, .ref q, v2, v3, v4, v5, v6]))
      generalize upd H8 p (.lst [V.non, .ref q, v2, v3, v4, v5, v6]) = H9 at *
      refine r_ixc (p := p) rfl (nx_go (m := 7) (at_var rfl) (EF.is e_int rfl) st9 (by decide) (by decide) fun d10 H10 hd10 fr10 st10 => ?_)
      have eP10 : H10 p = some (.lst [V.non, .ref q, v2, v3, v4, v5, v6]) := fr10 _ _ (by simpa using hpsa) eP
      have tk10 := st9.tk fr10
      have frA := fr09.trans fr10
      have tbo : ∀ {x : PyData}, tupB x = true → tupB (.tuple (rs.map Rec.enc ++ [x])) = true := fun {x} hx => by
        show tupsB _ = true
        rw [tupsB_iff] at tbr ⊢
        intro d hd
        rcases List.mem_append.mp hd with h | h
        · exact tbr d h
        · rw [List.mem_singleton.mp h]
          exact hx
      have one : ∀ (r : Rec), RecS g r → ValS g (.recs (rs ++ [r])) := fun r hr => by
        have := vs_app (qs := []) hr hS (fun _ h => nomatch h) (by simpa using hlen)
        rwa [List.append_nil] at this
      have oneE : ∀ (r : Rec), Val.enc (.recs (rs ++ [r])) = .tuple (rs.map Rec.enc ++ [r.enc]) := fun r => by
        show PyData.tuple _ = _
        rw [List.map_append]
        rfl
      rcases (show d10 = 0 ∨ d10 = 1 ∨ d10 = 2 ∨ d10 = 3 ∨ d10 = 4 ∨ d10 = 5 ∨ d10 = 6 by omega) with rfl | rfl | rfl | rfl | rfl | rfl | rfl
      · exact ix_go eP10 rfl (k _ .non H10 trivial frA st10 .non)
      · exact ix_go eP10 rfl (k _ (.lst (rs.map Rec.enc)) H10 trivial frA st10 (.lst (fr10 _ _ (by simpa using nq.1) eq9) (FzAll.tk tk10 fq9 tbr)))
      · exact ix_go eP10 rfl (k _ (.recs (rs ++ [.bad .none])) H10 (one _ (rsBad (.inl rfl))) frA st10 (by rw [oneE]; exact f4'.tk tk10 (tbo rfl)))
      · exact ix_go eP10 rfl (k _ (.recs (rs ++ [.ok (.dlv 39) (.int 0)])) H10 (one _ (rsOk (c := .dlv 39) (show (39 : Nat) ≤ 39 from Nat.le_refl _) rfl)) frA st10 (by rw [oneE]; exact f5'.tk tk10 (tbo (by have := tb_cmd (.dlv 39); simpa [tupB, tupsB, Cmd.enc] using this))))
      · exact ix_go eP10 rfl (k _ (.recs (rs ++ [.bad (.tuple [])])) H10 (one _ (rsBad (.inr (.inr (.inl ⟨_, rfl, by decide⟩))))) frA st10 (by rw [oneE]; exact f6'.tk tk10 (tbo rfl)))
      · have f7'' := f7'.tk tk10 (by show (true && tupsB (rs.map Rec.enc)) = true; rw [tbr]; rfl)
        exact ix_go eP10 rfl (k _ (.recs ([] ++ [.bad .none] ++ rs)) H10 (vs_app (rsBad (.inl rfl)) (fun _ h => nomatch h) hS (by simpa using hlen)) frA st10 (by rw [vs_enc]; exact f7''))
      · exact ix_go eP10 rfl (k _ (.recs (rs ++ [.ok .stl (.int 0)])) H10 (one _ (rsOk (c := .stl) trivial rfl)) frA st10 (by rw [oneE]; exact f8'.tk tk10 (tbo (by have := tb_cmd .stl; simpa [tupB, tupsB, Cmd.enc] using this))))
    · have hpos : 1 ≤ rs.length := by
        rw [Bool.or_eq_false_iff] at hno
        have := hno.2
        cases hq : rs with
        | nil => rw [hq] at this; simp at this
        | cons _ _ => simp
      have st2 := st1.same s2
      have frv2 := frv1.same s2
      have hq2 : (Int.fdiv ((rs.map Rec.enc).length : Int) 2) = ((rs.length / 2 : Nat) : Int) := by
        rw [List.length_map, Int.fdiv_eq_ediv_of_nonneg _ (by decide)]
        rfl
      refine s_asgK (g_lix ((el_lst (ds := [.int ((0 : Nat) : Int), .int ((rs.length / 2 : Nat) : Int), .int ((rs.length - 1 : Nat) : Int)]) (ea_cons (EF.is e_int rfl) (ea_cons (EF.is (e_fdivN (e_lenT (e_var rfl frv2)) e_int ⟨by decide, by decide⟩) (by rw [hq2])) (ea_cons (EF.is (e_sub (e_lenT (e_var rfl frv2)) e_int) (by rw [List.length_map]; congr 1; omega)) ea_nil)))).go fun p xs H3 n3 s3 e3 f3 => ?_))
      obtain ⟨x1, x2, x3, rfl, g1, g2, g3⟩ := f3.I3
      obtain rfl := g1.intI
      obtain rfl := g2.intI
      obtain rfl := g3.intI
      have st3 := st2.same s3
      have hp3 := (st2.out n3).1
      refine nx_go (m := 3) (at_var rfl) (EF.is e_int rfl) st3 (by decide) (by decide) fun d4 H4 hd4 fr4 st4 => ?_
      have eP4 : H4 p = some (.lst [.int ((0 : Nat) : Int), .int ((rs.length / 2 : Nat) : Int), .int ((rs.length - 1 : Nat) : Int)]) := fr4 _ _ (by simpa using hp3) e3
      obtain ⟨j, hj, hat⟩ : ∃ j : Nat, j < rs.length ∧ ([V.int ((0 : Nat) : Int), .int ((rs.length / 2 : Nat) : Int), .int ((rs.length - 1 : Nat) : Int)] : List V)[d4]? = some (.int ((j : Nat) : Int)) := by
        rcases (show d4 = 0 ∨ d4 = 1 ∨ d4 = 2 by omega) with rfl | rfl | rfl
        · exact ⟨0, by omega, rfl⟩
        · exact ⟨rs.length / 2, by omega, rfl⟩
        · exact ⟨rs.length - 1, by omega, rfl⟩
      refine ix_go eP4 hat ?_
      have fr04 : Fr [sa] H H4 := (fr1.trans (Fr.same (s2.trans s3))).trans fr4
      have frv4 : Fz H4 rv (.tuple (rs.map Rec.enc)) := frv.tk (st.tk fr04) tbT
      have hjr : rs[j]? = some rs[j] := List.getElem?_eq_getElem hj
      obtain ⟨c, e, hce, hcok⟩ := hrs rs[j] (List.getElem_mem hj)
      have hat2 : atI (rs.map Rec.enc) ((j : Nat) : Int) = some (.tuple [c.enc, .int ((e : Nat) : Int)]) := atI_nat (by rw [List.getElem?_map, hjr, hce]; rfl)
      refine s_asg2 (e_ixT (e_var rfl frv4) (e_var rfl (.int ((j : Nat) : Int))) hat2) fun cv ev H5 s5 fc fe => ?_
      obtain rfl := fe.intI
      have st5 := st4.same s5
      have frv5 := frv4.same s5
      have fr05 := fr04.trans (Fr.same (fp := [sa]) s5)
      have hS1 : ∀ r ∈ rs.take j, RecS g r := fun r h => hS r (List.mem_of_mem_take h)
      have hS2 : ∀ r ∈ rs.drop (j + 1), RecS g r := fun r h => hS r (List.mem_of_mem_drop h)
      have hl10 : (rs.take j).length + (rs.drop (j + 1)).length ≤ 10 := by
        rw [List.length_take, List.length_drop]
        omega
      have e_to : ∀ {H6 : Hp} {σ : L2.St}, Fz H6 rv (.tuple (rs.map Rec.enc)) → σ[3]? = some (some rv) → σ[6]? = some (some (.int ((j : Nat) : Int))) → EF (tSl (rSlA K) (tVar 3) tNoPart (tPart (tVar 6))) σ H6 (.tuple ((rs.take j).map Rec.enc)) := fun f h1 h2 => (e_slTo (e_var h1 f) (e_var h2 (.int _))).is (by rw [List.map_take])
      have e_from : ∀ {H6 : Hp} {σ : L2.St}, Fz H6 rv (.tuple (rs.map Rec.enc)) → σ[3]? = some (some rv) → σ[6]? = some (some (.int ((j : Nat) : Int))) → EF (tSl (rSlA K) (tVar 3) (tPart (tOp (rI0 fun i j => .int (i + j)) (tVar 6) (tC (.int 1)))) tNoPart) σ H6 (.tuple ((rs.drop (j + 1)).map Rec.enc)) := fun f h1 h2 => (e_slFrom (n := j + 1) (e_var h1 f) ((e_add (e_var h2 (.int _)) e_int).is (by simp))).is (by rw [List.map_drop])
      have tbTo : tupB (.tuple ((rs.take j).map Rec.enc)) = true := recs_tb fun r h => hrs r (List.mem_of_mem_take h)
      have z1 : ((rs.take j).map Rec.enc).length ≤ 10 := by rw [List.length_map, List.length_take]; omega
      have z2 : ((rs.drop (j + 1)).map Rec.enc).length ≤ 10 := by rw [List.length_map, List.length_drop]; omega
      have tail : ∀ {x u : V} {H6 : Hp} {σ : L2.St} {r : Rec} {D : VK}, D = Q → Fz H6 x (.tuple ((rs.take j).map Rec.enc)) → Fz H6 u r.enc → Fz H6 rv (.tuple (rs.map Rec.enc)) → RecS g r → σ[3]? = some (some rv) → σ[6]? = some (some (.int ((j : Nat) : Int))) → Fr [sa] H H6 → ST H6 sa sc →
          tOp (rCatA K) (tOp (rCatA K) (tC x) (tTup (tCons (tC u) tNil))) (tSl (rSlA K) (tVar 3) (tPart (tOp (rI0 fun i j => .int (i + j)) (tVar 6) (tC (.int 1)))) tNoPart) σ H6 D := fun {x u H6 σ r D} hD fx fu f hr h3 h6 fr6 st6 => by
        subst hD
        refine (e_catA (e_catA (e_val fx) (e_tup (ea_cons (e_val fu) ea_nil)) (by rw [List.length_singleton]; omega)) (e_from f h3 h6) (by rw [List.length_append, List.length_singleton]; omega)).go fun v H7 s7 f7 => ?_
        exact k v (.recs (rs.take j ++ [r] ++ rs.drop (j + 1))) H7 (vs_app hr hS1 hS2 hl10) (fr6.trans (Fr.same s7)) (st6.same s7) (by rw [vs_enc]; exact f7)
      refine s_ifQ (t_test (e_eqI (e_var rfl (.int (d1 : Int))) e_int)) (fun _ H6 s6 => ?_) fun _ H6 s6 => ?_
      · refine EF.ret (d := Val.enc (.recs (rs.take j ++ rs.drop (j + 1)))) (EF.is (e_catA (e_to (frv5.same s6) rfl rfl) (e_from (frv5.same s6) rfl rfl) (by omega)) (by show _ = PyData.tuple _; rw [List.map_append])) fun v H7 s7 f7 => ?_
        exact k v (.recs (rs.take j ++ rs.drop (j + 1))) H7 ⟨by rw [List.length_append]; omega, fun r h => by
          rcases List.mem_append.mp h with h | h
          · exact hS1 r h
          · exact hS2 r h⟩ (fr05.trans (Fr.same (s6.trans s7))) ((st5.same s6).same s7) f7
      have st6 := st5.same s6
      have frv6 := frv5.same s6
      have fr06 := fr05.trans (Fr.same (fp := [sa]) s6)
      refine s_ifQ (t_test (e_eqI (e_var rfl (.int (d1 : Int))) e_int)) (fun _ H7 s7 => ?_) fun _ H7 s7 => ?_
      · refine g_act (e_to (frv6.same s7) rfl rfl) fun x H8 s8 f8 => ?_
        have s78 := s7.trans s8
        have fr08 := fr06.trans (Fr.same (fp := [sa]) s78)
        have st8 := st6.same s78
        refine ca_v (Q := fun vs H9 => spLAct (vs ++ []) H9 _ _) rfl (ca_v rfl (ca_v rfl (ca_n ⟨sa, sc, gv, a, A, g, t, rfl, st8, fg.tk (st.tk fr08) (tb_eG _), lt.frS st fr08 hsa, G, htb, hway, hsa, fun cv9 c9 H9 cok9 fr9 st9 fc9 => ?_⟩)))
        have fr09 := fr08.trans fr9
        have fx9 : Fz H9 x (.tuple ((rs.take j).map Rec.enc)) := f8.tk (st8.tk fr9) tbTo
        have frv9 : Fz H9 rv (.tuple (rs.map Rec.enc)) := frv.tk (st.tk fr09) tbT
        refine (e_catA (e_catA (e_val fx9) (e_tup (ea_cons (e_tup (ea_cons (e_val fc9) (ea_cons (e_var rfl (.int ((e : Nat) : Int))) ea_nil))) ea_nil)) (by rw [List.length_singleton]; omega)) (e_from frv9 rfl rfl) (by rw [List.length_append, List.length_singleton]; omega)).go fun v H10 s10 f10 => ?_
        exact k v (.recs (rs.take j ++ [.ok c9 (.int ((e : Nat) : Int))] ++ rs.drop (j + 1))) H10 (vs_app (rsOk cok9 rfl) hS1 hS2 hl10) (fr09.trans (Fr.same s10)) (st9.same s10) (by rw [vs_enc]; exact f10)
      have st7 := st6.same s7
      have frv7 := frv6.same s7
      have fr07 := fr06.trans (Fr.same (fp := [sa]) s7)
      have fc7 := (fc.same s6).same s7
      have tbc := tb_cmd c
      refine s_ifQ (t_test (e_eqI (e_var rfl (.int (d1 : Int))) e_int)) (fun _ H8 s8 => ?_) fun _ H8 s8 => ?_
      · have st8 := st7.same s8
        have fc8 := fc7.same s8
        have eE : ∀ {H9 : Hp} {σ : L2.St}, σ[8]? = some (some (.int ((e : Nat) : Int))) → EF (tVar 8) σ H9 (.int ((e : Nat) : Int)) := fun h => e_var h (.int _)
        refine s_asgK (ca_l (Q := fun vs H9 => vs.length ≤ sizeLine ∧ ∀ p, H9 p = none → _) (el_lst (ea_cons (e_var rfl fc8) (ea_cons (eE rfl) ea_nil))) fun q zs H9 n9 s9 e9 f9 => ?_)
        have nq := st8.out n9
        have fc9 := fc8.same s9
        refine ca_e (e_tup (ea_cons (e_var rfl fc9) ea_nil)) fun v1 H10 s10 f10 => ?_
        have fc10 := fc9.same s10
        refine ca_e (e_tup (ea_cons (e_var rfl fc10) (ea_cons (eE rfl) (ea_cons e_int ea_nil)))) fun v2 H11 s11 f11 => ?_
        have fc11 := fc10.same s11
        refine ca_e (e_tup (ea_cons (eE rfl) (ea_cons (e_var rfl fc11) ea_nil))) fun v3 H12 s12 f12 => ?_
        have fc12 := fc11.same s12
        refine ca_e (e_tup (ea_cons e_non (ea_cons (eE rfl) ea_nil))) fun v4 H13 s13 f13 => ?_
        have fc13 := fc12.same s13
        refine ca_e (e_tup (ea_cons (e_var rfl fc13) (ea_cons e_non ea_nil))) fun v5 H14 s14 f14 => ?_
        have fc14 := fc13.same s14
        refine ca_e (e_tup (ea_cons (e_var rfl fc14) (ea_cons e_bl ea_nil))) fun v6 H15 s15 f15 => ?_
        have fc15 := fc14.same s15
        refine ca_e (e_tup (ea_cons (e_var rfl fc15) (ea_cons (e_tup (ea_cons (eE rfl) ea_nil)) ea_nil))) fun v7 H16 s16 f16 => ?_
        refine ca_n ⟨(by decide : 8 ≤ sizeLine), fun p hp => ?_⟩
        have sN := same_new (o := .lst [V.ref q, v1, v2, v3, v4, v5, v6, v7]) hp
        have a16 := sN
        have a15 := s16.trans a16
        have a14 := s15.trans a15
        have a13 := s14.trans a14
        have a12 := s13.trans a13
        have a11 := s12.trans a12
        have a10 := s11.trans a11
        have a9 := s10.trans a10
        have a8 := s9.trans a9
        have hpsa : p ≠ sa := ((st8.same (s9.trans (s10.trans (s11.trans (s12.trans (s13.trans (s14.trans (s15.trans s16)))))))).out hp).1
        have eP : (upd H16 p (.lst [V.ref q, v1, v2, v3, v4, v5, v6, v7])) p = some (.lst [V.ref q, v1, v2, v3, v4, v5, v6, v7]) := upd_same
        show tRet _ _ _ (upd H16 p (.lst [V.ref q, v1, v2, v3, v4, v5, v6, v7]))
        have st17 := st8.same a8
        have fr017 := fr07.trans (Fr.same (fp := [sa]) (s8.trans a8))
        have eq17 := a9 _ _ e9
        have fq17 := f9.same a9
        have g1 := f10.same a10
        have g2 := f11.same a11
        have g3 := f12.same a12
        have g4 := f13.same a13
        have g5 := f14.same a14
        have g6 := f15.same a15
        have g7 := f16.same a16
        clear a8 a9 a10 a11 a12 a13 a14 a15 a16 sN
        generalize upd H16 p (.lst [V.ref q, v1, v2, v3, v4, v5, v6, v7]) = H17 at *
        have frv17 : Fz H17 rv (.tuple (rs.map Rec.enc)) := frv.tk (st.tk fr017) tbT
        refine g_row (p := p) rfl (e_to frv17 rfl rfl) fun x H18 s18 f18 => ?_
        have st18 := st17.same s18
        refine nx_go (m := 8) (at_var rfl) (EF.is e_int rfl) st18 (by decide) (by decide) fun d19 H19 hd19 fr19 st19 => ?_
        have fr1719 : Fr [sa] H17 H19 := (Fr.same s18).trans fr19
        have eP19 : H19 p = some (.lst [V.ref q, v1, v2, v3, v4, v5, v6, v7]) := fr1719 _ _ (by simpa using hpsa) eP
        have tk19 := st17.tk fr1719
        have fr019 := fr017.trans fr1719
        have frv19 : Fz H19 rv (.tuple (rs.map Rec.enc)) := frv17.tk tk19 tbT
        have fx19 : Fz H19 x (.tuple ((rs.take j).map Rec.enc)) := f18.tk (st18.tk fr19) tbTo
        have t2 : ∀ {x y : PyData}, tupB x = true → tupB y = true → tupB (.tuple [x, y]) = true := fun {x y} h1 h2 => by
          show (tupB x && (tupB y && true)) = true
          rw [h1, h2]
          rfl
        rcases (show d19 = 0 ∨ d19 = 1 ∨ d19 = 2 ∨ d19 = 3 ∨ d19 = 4 ∨ d19 = 5 ∨ d19 = 6 ∨ d19 = 7 by omega) with rfl | rfl | rfl | rfl | rfl | rfl | rfl | rfl
        · exact ix_go eP19 rfl (tail rfl fx19 (r := .bad (.list [c.enc, .int ((e : Nat) : Int)])) (.lst (fr1719 _ _ (by simpa using nq.1) eq17) (FzAll.tk tk19 fq17 (by show (tupB _ && (true && true)) = true; rw [tbc]; rfl))) frv19 (rsBad (.inr (.inl ⟨_, rfl⟩))) rfl rfl fr019 st19)
        · exact ix_go eP19 rfl (tail rfl fx19 (r := .bad (.tuple [c.enc])) (g1.tk tk19 (by show (tupB _ && true) = true; rw [tbc]; rfl)) frv19 (rsBad (.inr (.inr (.inl ⟨_, rfl, by simp⟩)))) rfl rfl fr019 st19)
        · exact ix_go eP19 rfl (tail rfl fx19 (r := .bad (.tuple [c.enc, .int ((e : Nat) : Int), .int 0])) (g2.tk tk19 (by show (tupB _ && (true && (true && true))) = true; rw [tbc]; rfl)) frv19 (rsBad (.inr (.inr (.inl ⟨_, rfl, by simp⟩)))) rfl rfl fr019 st19)
        · exact ix_go eP19 rfl (tail rfl fx19 (r := .bad (.tuple [.int ((e : Nat) : Int), c.enc])) (g3.tk tk19 (t2 rfl tbc)) frv19 (rsBad (.inr (.inr (.inr ⟨_, _, rfl, .inr ⟨_, rfl⟩⟩)))) rfl rfl fr019 st19)
        · exact ix_go eP19 rfl (tail rfl fx19 (r := .bad (.tuple [.none, .int ((e : Nat) : Int)])) (g4.tk tk19 (t2 rfl rfl)) frv19 (rsBad (.inr (.inr (.inr ⟨_, _, rfl, .inl rfl⟩)))) rfl rfl fr019 st19)
        · exact ix_go eP19 rfl (tail rfl fx19 (r := .ok c .none) (g5.tk tk19 (t2 tbc rfl)) frv19 (rsOk hcok rfl) rfl rfl fr019 st19)
        · exact ix_go eP19 rfl (tail rfl fx19 (r := .ok c (.bool true)) (g6.tk tk19 (t2 tbc rfl)) frv19 (rsOk hcok rfl) rfl rfl fr019 st19)
        · exact ix_go eP19 rfl (tail rfl fx19 (r := .ok c (.tuple [.int ((e : Nat) : Int)])) (g7.tk tk19 (t2 tbc rfl)) frv19 (rsOk hcok rfl) rfl rfl fr019 st19)
      have st8 := st7.same s8
      have frv8 := frv7.same s8
      have fr08 := fr07.trans (Fr.same (fp := [sa]) s8)
      have fc8 := fc7.same s8
      refine s_ifQ (t_test (e_eqI (e_var rfl (.int (d1 : Int))) e_int)) (fun _ H9 s9 => ?_) fun _ H9 s9 => ?_
      · refine g_num (c := cv) rfl (e_to (frv8.same s9) rfl rfl) fun x H10 s10 f10 => ?_
        have s910 := s9.trans s10
        have st10 := st8.same s910
        refine (el_lst (ds := [.int ((e : Int) + 1), .int ((e : Int) - 1), .int 0, .int 1, .int 2]) (ea_cons (e_add (e_var rfl (.int ((e : Nat) : Int))) e_int) (ea_cons (e_sub (e_var rfl (.int ((e : Nat) : Int))) e_int) (ea_cons e_int (ea_cons e_int (ea_cons e_int ea_nil)))))).go fun p xs H11 n11 s11 e11 f11 => ?_
        obtain rfl : xs = [V.int ((e : Int) + 1), .int ((e : Int) - 1), .int 0, .int 1, .int 2] := fz_ints (ns := [(e : Int) + 1, (e : Int) - 1, 0, 1, 2]) f11
        have hp11 := (st10.out n11).1
        have st11 := st10.same s11
        refine nx_go (m := 5) (at_var rfl) (EF.is e_int rfl) st11 (by decide) (by decide) fun d12 H12 hd12 fr12 st12 => ?_
        have eP12 := fr12 _ _ (by simpa using hp11) e11
        obtain ⟨i, hi⟩ : ∃ i : Int, ([V.int ((e : Int) + 1), .int ((e : Int) - 1), .int 0, .int 1, .int 2] : List V)[d12]? = some (.int i) := by
          rcases (show d12 = 0 ∨ d12 = 1 ∨ d12 = 2 ∨ d12 = 3 ∨ d12 = 4 by omega) with rfl | rfl | rfl | rfl | rfl <;> exact ⟨_, rfl⟩
        refine ix_go eP12 hi ?_
        have fr812 : Fr [sa] H8 H12 := (Fr.same (s910.trans s11)).trans fr12
        have fr012 := fr08.trans fr812
        have frv12 : Fz H12 rv (.tuple (rs.map Rec.enc)) := frv8.tk (st8.tk fr812) tbT
        have fx12 : Fz H12 x (.tuple ((rs.take j).map Rec.enc)) := (f10.same s11).tk (st11.tk fr12) tbTo
        have fc12 : Fz H12 cv c.enc := fc8.tk (st8.tk fr812) tbc
        refine (e_catA (e_catA (e_val fx12) (e_tup (ea_cons (e_tup (ea_cons (e_val fc12) (ea_cons (e_val (.int i)) ea_nil))) ea_nil)) (by rw [List.length_singleton]; omega)) (e_from frv12 rfl rfl) (by rw [List.length_append, List.length_singleton]; omega)).go fun v H13 s13 f13 => ?_
        exact k v (.recs (rs.take j ++ [.ok c (.int i)] ++ rs.drop (j + 1))) H13 (vs_app (rsOk hcok rfl) hS1 hS2 hl10) (fr012.trans (Fr.same s13)) (st12.same s13) (by rw [vs_enc]; exact f13)
      · refine EF.ret (e_var rfl (frv8.same s9)) fun v H10 s10 f10 => ?_
        exact k v (.recs rs) H10 ⟨by omega, hS⟩ (fr08.trans (Fr.same (s9.trans s10))) ((st8.same s9).same s10) f10
end
end Tt

/-! The law's run of a network. -/
namespace Tt
open PySem PySem.Spec PyProof.Rows L2 RZ
open C8 (Cal Met Mak pe_c pe_mk pe_mt pe_mt0 pe_gc)
section
variable {P : Program} {w : World} {K : PySem.W.Frag} {mg : Str → Option Value} {base : Heap}
theorem NT.tk {H H' : Hp} {n l : Addr} {g : Gr} {t : Tk} {cs : List Cmd} {es : List Nat} (h : NT K H n l g t cs es) (k : Fr [n, l] H H') : TK H H' := fun b xs e => k b _ (fun hb => by
  obtain ⟨dx, gv, cv, tv, ys, x, A, h1, h2, h3, _⟩ := h.ex
  rcases List.mem_cons.mp hb with rfl | hb
  · rw [h1] at e
    cases e
  · rw [List.mem_singleton.mp hb, h3] at e
    cases e) e
theorem recs_drop {cs : List Cmd} {es : List Nat} (hl : es.length = cs.length) {i : Nat} {x : Cmd} (hi : cs[i]? = some x) : ∃ e, es[i]? = some e ∧ (recsOf cs es).drop i = .ok x (.int ((e : Nat) : Int)) :: (recsOf cs es).drop (i + 1) := by
  have hlt := (List.getElem?_eq_some_iff.mp hi).1
  have he : es[i]? = some (es[i]'(by omega)) := List.getElem?_eq_getElem (by omega)
  refine ⟨_, he, ?_⟩
  have hr : (recsOf cs es)[i]? = some (.ok x (.int (((es[i]'(by omega)) : Nat) : Int))) := by
    unfold recsOf
    rw [List.getElem?_map, zip_at hi he]
    rfl
  obtain ⟨h1, h2⟩ := List.getElem?_eq_some_iff.mp hr
  rw [List.drop_eq_getElem_cons h1, h2]
theorem take_snoc {α : Type} {l : List α} {i : Nat} {x : α} (h : l[i]? = some x) : l.take (i + 1) = l.take i ++ [x] := by
  rw [List.take_add_one, h]
  rfl
def spRun (K : PySem.W.Frag) : Sp := fun vs H Q E => ∃ (n l : Addr) (g : Gr) (cv : V) (cs : List Cmd) (es : List Nat) (t : Tk), vs = [.ref n, cv] ∧ NT K H n l g (emptyT g) [] [] ∧ GOK g ∧ Fz H cv (.tuple (cs.map Cmd.enc)) ∧ Hist g cs es t ∧ cs.length ≤ 10 ∧
  ∀ H', Fr [n, l] H H' → NT K H' n l g t cs es → Q (.bl true) H'
theorem sc__law_run : FnScope ["_law_network", "_law_commands", "_law_command"] ["_law_network", "_law_commands"] (defScope s__law_run) := ⟨rfl, rfl, rfl, by decide +kernel, rfl, by decide +kernel, by decide +kernel⟩
theorem cal__law_run (T : Tx K mg) (U : Ux K) : Cal P w K mg base 12 "_law_run" (spRun K) [] :=
  T.cal 61 61 rfl rfl sc__law_run (fun _ _ _ _ _ _ us hl => match us, hl with | [_, _], _ => rfl) (fun vs H Q E ⟨_, _, _, _, _, _, _, e, _⟩ => by rw [e]; rfl) fun f cdv A' outer s H vs Q E hr h => by
    obtain ⟨n, l, g, cv, cs, es, t, rfl, nt, G, fc, hist, hlen, k⟩ := h
    refine ⟨_, (pss_cons (ps_try_thru0 (pss_one (ps_for PassesOwn.never rfl (k_piT (K := K) (pv 1)) (pg_name (i := 2) sc__law_run.nd rfl (Or.inl rfl))
          (pss_one (ps_expr (pe_mt (met_Network_act T U) hr (by decide) (pv 0) (pa_cons (pv 2) pa_nil)))))))
      (pss_one (ps_ret pe_bl))), ?_⟩
    have hel := hist.len
    have hcok := hist.ok
    refine s_forT (xs := cs) (enc := Cmd.enc) (wt_tup (e_var rfl fc) (tupsB_map tb_cmd)) (fun B i σ' H' => ∃ t' o2, σ' = [some (.ref n), some cv, o2] ∧ Fr [n, l] H H' ∧ Fr [n, l] B H' ∧ NT K H' n l g t' (cs.take i) (es.take i) ∧ Iv g i t' ∧ runS g t' ((recsOf cs es).drop i) = some t)
      (fun B sB => ⟨emptyT g, _, rfl, Fr.same sB, Fr.refl _ _, by rw [List.take_zero, List.take_zero]; exact nt.same sB, emp_iv G, by rw [List.drop_zero]; exact hist.run⟩) (fun B i σ' H' sB ⟨_, _, _, _, fr, _⟩ => (nt.same sB).tk fr) ?_ ?_
    · rintro B i x σ' H' y H2 sB hi ⟨t', o2, rfl, frH, frB, nt', iv, hrun⟩ s2 fy
      have hlt := (List.getElem?_eq_some_iff.mp hi).1
      obtain ⟨e, he, hdrop⟩ := recs_drop hel hi
      rw [hdrop] at hrun
      unfold runS at hrun
      have cok : CmdOK g x := hcok x (List.mem_of_getElem? hi)
      have hb : (whyB g t' x && eqI (.int ((e : Nat) : Int)) (perfT g t' x).2) = true := by
        cases hq : (whyB g t' x && eqI (.int ((e : Nat) : Int)) (perfT g t' x).2) with
        | true => rfl
        | false =>
          rw [recT_ok, hq] at hrun
          cases hrun
      rw [recT_ok, hb] at hrun
      have hrun' : runS g (perfT g t' x).1 ((recsOf cs es).drop (i + 1)) = some t := hrun
      rw [Bool.and_eq_true] at hb
      have hee : e = (perfT g t' x).2 := by
        have := of_decide_eq_true hb.2
        omega
      have nt2 := nt'.same s2
      obtain ⟨dx, gv, cvv, tv, xs, xa, A, en, _⟩ := id nt2.ex
      refine m_go (Q := fun _ H1 => ∃ t' o2, _) (at_var rfl) en rfl (ea_cons (e_var rfl fy) ea_nil) fun vs3 H3 s3 f3 => ?_
      obtain ⟨y3, rfl, fy3⟩ := f3.oneI
      refine ⟨n, l, g, t', cs.take i, es.take i, x, y3, rfl, nt2.same s3, fy3, perf_ok G iv (by omega) cok, hb.1, by rw [List.length_take]; omega, by rw [List.length_take]; omega, fun H4 fr4 nt4 => ?_⟩
      have s23 := s2.trans s3
      refine ⟨(perfT g t' x).1, _, rfl, (frH.trans (Fr.same s23)).trans fr4, (frB.trans (Fr.same s23)).trans fr4, ?_, perf_iv G iv (by omega) cok hb.1, hrun'⟩
      rw [take_snoc hi, take_snoc he, hee]
      exact nt4
    · rintro B σ' H' sB ⟨t', o2, rfl, frH, frB, nt', iv, hrun⟩
      rw [List.drop_eq_nil_of_le (by rw [recs_len hel]; exact Nat.le_refl _)] at hrun
      have ht : t' = t := Option.some.inj hrun
      rw [ht, List.take_of_length_le (Nat.le_refl _), List.take_of_length_le (by omega)] at nt'
      exact k H' frH nt'
end
end Tt

/-! The law itself. -/
namespace Tt
open PySem PySem.Spec PyProof.Rows L2 RZ
open C8 (Cal Met Mak pe_c pe_mk pe_mt pe_mt0 pe_gc)
section
variable {P : Program} {w : World} {K : PySem.W.Frag} {mg : Str → Option Value} {base : Heap}
theorem mkN_go {σ : L2.St} {H : Hp} {ta : TA} {Q : VK} {g : Gr} (h : EFA ta σ H [eG g]) (G : GOK g) {E : XK}
    (k : ∀ n l H', Same H H' → H n = none → H l = none → NT K H' n l g (emptyT g) [] [] → Q (.ref n) H') : tMake (CNetwork K) (spNIn K) [] E ta σ H Q := h.go fun vs H1 s1 f n dx nn nd hne => by
  obtain ⟨gv, rfl, fg⟩ := f.oneI
  have s2 : Same H1 (upd (upd H1 dx (.own n)) n (.ins (CNetwork K) dx [])) := (same_new nd).trans (same_new (by rw [upd_ne (Ne.symm hne)]; exact nn))
  refine ⟨n, dx, gv, g, rfl, upd_same, fg.same s2, G, fun H' l fr hn nt => ⟨rfl, k n l H' (s1.trans fun b o e => fr b o (by simpa using ne_of_none e nn) (s2 b o e)) (s1.free nn) (s1.free (s2.free hn)) nt⟩⟩
theorem s_ifNQ {sp : Sp} {E : XK} {ta : TA} {tu w : TS} {D : Ends} {σ : L2.St} {H : Hp} (h : ta σ H fun vs H1 => sp (vs ++ []) H1 (fun v H2 => ∃ q, v = .bl q ∧ (if (!q) = true then tu { D with nx := w D } σ H2 else w D σ H2)) E) : tSeq (tIfS (tNot (tB (tCall sp [] E ta))) tu tNext) w D σ H := h
theorem gl3_go {K : PySem.W.Frag} {p : Addr} {x y z : V} {i j k : Nat} {σ : L2.St} {H : Hp} {R : L2.St → Hp → Prop} (e : H p = some (.lst [x, y, z])) (h : R (((σ.set i (some x)).set j (some y)).set k (some z)) H) : gLst K 3 (gCons (gName i) (gCons (gName j) (gCons (gName k) gNil))) (.ref p) σ H R :=
  ⟨p, _, rfl, SqL.of e, rfl, _, _, rfl, _, _, rfl, _, _, rfl, rfl, h⟩
theorem s_asgG {te : TE} {g : TG} {w : TS} {D : Ends} {σ : L2.St} {H : Hp} (h : te σ H fun v H1 => g v σ H1 fun σ2 H2 => w D σ2 H2) : tSeq (tAsg te g) w D σ H := h
theorem LT.frO {H H' : Hp} {a : Addr} {A : Ad} {t : Tk} {fp : List Addr} (h : LT H a A t) (tk : TK H H') (k : Fr fp H H') (n : ∀ b ∈ a :: A.fp, b ∉ fp) : LT H' a A t := h.move tk fun b hb => by
  have : ∃ o, H b = some o := by
    rcases List.mem_cons.mp hb with rfl | hb
    · obtain ⟨tv, e, _⟩ := h.i
      exact ⟨_, e⟩
    · obtain ⟨ys, e⟩ := h.r.lst hb
      exact ⟨_, e⟩
  obtain ⟨o, e⟩ := this
  rw [k b o (n b hb) e, e]
theorem fl_int (n : Nat) (i : Int) : Fl n (.int i) := by cases n <;> trivial
theorem fl_row {n : Nat} {r : Row} (h : r.length ≤ 1000) : Fl (n + 1) (eR r) := ⟨by rw [List.length_map]; exact h, fun x hx => by
  obtain ⟨i, _, rfl⟩ := List.mem_map.mp hx
  exact fl_int _ _⟩
theorem fl_str {n : Nat} {s : Str} (h : PyData.strOk s = true) : Fl n (.str s) := by cases n <;> exact h
theorem fl_cmd {g : Gr} {c : Cmd} (h : CmdOK g c) : Fl 3 c.enc := by
  have hs : ∀ x ∈ ["set", "remove", "deliver", "double", "lose", "resend", "settle"], PyData.strOk (Str.ofString x) = true := by decide +kernel
  simp only [List.mem_cons, List.not_mem_nil, or_false, forall_eq_or_imp, forall_eq] at hs
  obtain ⟨h1, h2, h3, h4, h5, h6, h7⟩ := hs
  have fl : ∀ {ds : List PyData}, ds.length ≤ 4 → (∀ x ∈ ds, Fl 2 x) → Fl 3 (.tuple ds) := fun h1 h2 => ⟨Nat.le_trans h1 (by decide), h2⟩
  cases c with
  | set n r x =>
    have := h.2.1.few
    refine fl (Nat.le_refl _) fun d hd => ?_
    simp only [List.mem_cons, List.not_mem_nil, or_false] at hd
    rcases hd with rfl | rfl | rfl | rfl
    · exact fl_str h1
    · exact fl_int _ _
    · exact fl_row (by omega)
    · exact fl_int _ _
  | rem n r =>
    have := h.2.few
    refine fl (by simp) fun d hd => ?_
    simp only [List.mem_cons, List.not_mem_nil, or_false] at hd
    rcases hd with rfl | rfl | rfl
    · exact fl_str h2
    · exact fl_int _ _
    · exact fl_row (by omega)
  | dlv i =>
    refine fl (by simp) fun d hd => ?_
    simp only [List.mem_cons, List.not_mem_nil, or_false] at hd
    rcases hd with rfl | rfl
    · exact fl_str h3
    · exact fl_int _ _
  | dbl i =>
    refine fl (by simp) fun d hd => ?_
    simp only [List.mem_cons, List.not_mem_nil, or_false] at hd
    rcases hd with rfl | rfl
    · exact fl_str h4
    · exact fl_int _ _
  | los i =>
    refine fl (by simp) fun d hd => ?_
    simp only [List.mem_cons, List.not_mem_nil, or_false] at hd
    rcases hd with rfl | rfl
    · exact fl_str h5
    · exact fl_int _ _
  | res a b =>
    refine fl (by simp) fun d hd => ?_
    simp only [List.mem_cons, List.not_mem_nil, or_false] at hd
    rcases hd with rfl | rfl | rfl
    · exact fl_str h6
    · exact fl_int _ _
    · exact fl_int _ _
  | stl =>
    refine fl (by simp) fun d hd => ?_
    simp only [List.mem_cons, List.not_mem_nil, or_false] at hd
    subst hd
    exact fl_str h7
theorem fl_recs {g : Gr} {cs : List Cmd} {es : List Nat} (h : ∀ c ∈ cs, CmdOK g c) (hl : es.length = cs.length) (hc : cs.length ≤ 10) : Fl 5 (.tuple ((recsOf cs es).map Rec.enc)) :=
  ⟨by rw [List.length_map, recs_len hl]; omega, fun x hx => by
    obtain ⟨r, hr, rfl⟩ := List.mem_map.mp hx
    obtain ⟨p, hp, rfl⟩ := List.mem_map.mp hr
    have hcp := h p.1 (List.of_mem_zip (show (p.1, p.2) ∈ _ from hp)).1
    refine ⟨by simp, fun d hd => ?_⟩
    simp only [List.mem_cons, List.not_mem_nil, or_false] at hd
    rcases hd with rfl | rfl
    · exact fl_cmd hcp
    · exact fl_int _ _⟩
theorem recs_range {cs : List Cmd} {es : List Nat} (hl : es.length = cs.length) : (List.range cs.length).map (fun i => PyData.tuple [(cs.getD i .stl).enc, eN (es.getD i 0)]) = (recsOf cs es).map Rec.enc := by
  unfold recsOf
  rw [List.map_map]
  exact (zip_range (f := fun p : Cmd × Nat => PyData.tuple [p.1.enc, eN p.2]) .stl 0 cs es hl.symm).symm
theorem cmd_at {cs : List Cmd} {i : Nat} (h : i < cs.length) : atI (cs.map Cmd.enc) (i : Int) = some (cs.getD i .stl).enc := map_at (f := Cmd.enc) .stl h
def spLaw (K : PySem.W.Frag) : Sp := fun vs H Q E => ∃ (p : Addr) (ns : List Int), vs = [.ref p] ∧ SqL K H p (ns.map V.int) ∧ ∀ H', Q (.bl true) H'
theorem sc_law : FnScope ["_law_script", "_law_stream_here", "_law_graph_here", "_law_empty", "_law_journal", "_law_effects", "_law_talk", "_law_network", "_law_records", "_law_turn", "_law_value", "_law_scope", "_law_at"] ["_law_script"] (defScope s_law) := ⟨rfl, rfl, rfl, by decide +kernel, rfl, by decide +kernel, by decide +kernel⟩
abbrev N_law : List Str := ["_law_script", "_law_stream_here", "_law_graph_here", "_law_empty", "_law_journal", "_law_effects", "_law_talk", "_law_network", "_law_records", "_law_turn", "_law_value", "_law_scope", "_law_at"]
theorem body_law (T : Tx K mg) (U : Ux K) : BodyOk P w K mg base N_law "law" s_law 12 (spLaw K) := fun f cdv A' outer s H vs Q E hr h => by
    obtain ⟨p0, ns, rfl, hsq, k⟩ := h
    refine ⟨_, (pss_cons (ps_set (i := 1) sc_law.nd rfl (Or.inl rfl) (pe_c (cal__law_stream T) hr (by decide) rfl (pa_cons (pv 0) pa_nil)))
      (pss_cons (ps_set (i := 2) sc_law.nd rfl (Or.inl rfl) (pe_c (cal__law_graph T) hr (by decide) rfl (pa_cons (pv 1) (pa_cons pe_int pa_nil))))
      (pss_cons (ps_set (i := 3) sc_law.nd rfl (Or.inl rfl) (pe_callTy (k_tupOf (K := K)) (by rfl) T.n_tuple (by decide +kernel) (pa_cons (pe_lc (own := [("_law_scope", 11)]) (g := gName 11) (tt := tYes) rfl sc_law.nd (k_piT (K := K) (pe_ix (k_ixT (K := K)) (pv 2) pe_int (fun _ _ => rfl))) (blkOk_by (N := ["_law_script", "_law_stream_here", "_law_graph_here", "_law_empty", "_law_journal", "_law_effects", "_law_talk", "_law_network", "_law_records", "_law_turn", "_law_value", "_law_scope", "_law_at"]) (sc := defScope s_law) (by decide +kernel)) (fun _ _ _ _ _ => (pg_name (i := 11) sc_law.nd rfl (Or.inl rfl))) (fun _ _ _ _ _ => pts_nil) (fun _ _ _ _ _ => (pe_tup pa_nil))) pa_nil)))
      (pss_cons (ps_asg (pe_c (cal__law_history T) hr (by decide) rfl (pa_cons (pv 1) (pa_cons (pv 2) (pa_cons (pv 3) (pa_cons pe_int pa_nil))))) (k_tgL (K := K) (n := 3) (pgs_cons (pg_name (i := 4) sc_law.nd rfl (Or.inr rfl)) (pgs_cons (pg_name (i := 5) sc_law.nd rfl (Or.inr rfl)) (pgs_cons (pg_name (i := 6) sc_law.nd rfl (Or.inl rfl)) pgs_nil)))))
      (pss_cons (ps_set (i := 7) sc_law.nd rfl (Or.inl rfl) (pe_mk (mak_Network T) hr (by decide) rfl (pa_cons (pv 2) pa_nil)))
      (pss_cons (ps_if (pt_not (pt_val (pe_c (cal__law_run T U) hr (by decide) rfl (pa_cons (pv 7) (pa_cons (pv 4) pa_nil))))) (pss_one (ps_ret pe_bl)) pss_nil)
      (pss_cons (ps_set (i := 8) sc_law.nd rfl (Or.inl rfl) (pe_mt0 (met_Network_records T) hr (by decide) (pv 7)))
      (pss_cons (ps_if (PW.pt (pw_or (pt_not (pt_val (pe_c (cal__law_equal T) hr (by decide) rfl (pa_cons (pv 8) (pa_cons (pe_callTy (k_tupOf (K := K)) (by rfl) T.n_tuple (by decide +kernel) (pa_cons (pe_lc (own := [("_law_at", 12)]) (g := gName 12) (tt := tYes) rfl sc_law.nd (pi_range1 (by rfl) T.n_range (pa_cons (pe_callB (k_len (K := K)) (by rfl) T.n_len (by decide +kernel) (pa_cons (pv 4) pa_nil)) pa_nil)) (blkOk_by (N := ["_law_script", "_law_stream_here", "_law_graph_here", "_law_empty", "_law_journal", "_law_effects", "_law_talk", "_law_network", "_law_records", "_law_turn", "_law_value", "_law_scope", "_law_at"]) (sc := defScope s_law) (by decide +kernel)) (fun _ _ _ _ _ => (pg_name (i := 12) sc_law.nd rfl (Or.inl rfl))) (fun _ _ _ _ _ => pts_nil) (fun _ _ _ _ _ => (pe_tup (pa_cons (pe_ix (k_ixT (K := K)) (pv 4) (pv 12) (fun _ _ => rfl)) (pa_cons (pe_ix (k_ixT (K := K)) (pv 5) (pv 12) (fun _ _ => rfl)) pa_nil))))) pa_nil)) pa_nil))))) (pw_or1 (pt_cmpR op_isnot_bl (pe_c (cal_are_right T U) hr (by decide) rfl (pa_cons (pv 2) (pa_cons (pv 8) pa_nil))) pe_bl (nomark _))))) (pss_one (ps_ret pe_bl)) pss_nil)
      (pss_cons (ps_for PassesOwn.never rfl (pi_range1 (by rfl) T.n_range (pa_cons pe_int pa_nil)) (pg_name (i := 9) sc_law.nd rfl (Or.inl rfl))
        (pss_cons (ps_set (i := 10) sc_law.nd rfl (Or.inl rfl) (pe_c (cal__law_turned T) hr (by decide) rfl (pa_cons (pv 1) (pa_cons (pv 2) (pa_cons (pv 6) (pa_cons (pv 8) pa_nil))))))
        (pss_one (ps_if (pt_not (pt_val (pe_c (cal__law_equal T) hr (by decide) rfl (pa_cons (pe_c (cal_are_right T U) hr (by decide) rfl (pa_cons (pv 2) (pa_cons (pv 10) pa_nil))) (pa_cons (pe_c (cal__law_are_right T) hr (by decide) rfl (pa_cons (pv 2) (pa_cons (pv 10) pa_nil))) pa_nil))))) (pss_one (ps_ret pe_bl)) pss_nil))))
      (pss_one (ps_ret pe_bl))))))))))), ?_⟩
    refine s_asgK ?_
    show tCall (spStream K) [] _ (tCons (tVar 0) tNil) _ _ _
    refine ca_v (Q := fun vs H2 => spStream K (vs ++ []) H2 _ _) rfl (ca_n ⟨p0, ns, rfl, hsq, fun sa sc H1 s1 nsa nsc st1 => ?_⟩)
    refine s_asgK ?_
    show tCall spGraph [] _ (tCons (tVar 1) (tCons (tC (.int 4)) tNil)) _ _ _
    refine ca_v (Q := fun vs H2 => spGraph (vs ++ []) H2 _ _) rfl (ca_s (ca_n ⟨sa, sc, rfl, st1, fun gv g H2 G fr2 st2 fg2 => ?_⟩))
    refine s_asg (e_noT G (e_var rfl fg2)) fun tv H3 s3 f3 => ?_
    have st3 := st2.same s3
    have fg3 := fg2.same s3
    refine s_asgG ?_
    show tCall spHist [] _ (tCons (tVar 1) (tCons (tVar 2) (tCons (tVar 3) (tCons (tC (.int 10)) tNil)))) _ _ _
    refine ca_v (Q := fun vs H2 => spHist (vs ++ []) H2 _ _) rfl (ca_v rfl (ca_v rfl (ca_s (ca_n ⟨sa, sc, gv, tv, g, rfl, st3, fg3, G, f3, fun ph H4 jv ev a A cs es t fr4 st4 eph fj fe lt hist hlen hsa => ?_⟩))))
    refine gl3_go eph ?_
    have fg4 : Fz H4 gv (eG g) := fg3.tk (st3.tk fr4) (tb_eG _)
    refine s_asgK (mkN_go (ea_cons (e_var rfl fg4) ea_nil) G fun n l H5 s5 nn nl nt => ?_)
    have fg5 := fg4.same s5
    have fj5 := fj.same s5
    have fe5 := fe.same s5
    have lt5 := lt.same s5
    have st5 := st4.same s5
    have hex : ∀ b ∈ a :: A.fp, ∃ o, H4 b = some o := fun b hb => by
      rcases List.mem_cons.mp hb with rfl | hb
      · obtain ⟨tv, e, _⟩ := lt.i
        exact ⟨_, e⟩
      · obtain ⟨ys, e⟩ := lt.r.lst hb
        exact ⟨_, e⟩
    have hno : ∀ b ∈ a :: A.fp, b ∉ [n, l] := fun b hb hm => by
      obtain ⟨o, e⟩ := hex b hb
      rcases List.mem_cons.mp hm with rfl | hm
      · rw [e] at nn
        cases nn
      · rw [List.mem_singleton.mp hm, nl] at e
        cases e
    have hn1 := st4.out nn
    have hn2 := st4.out nl
    refine s_ifNQ ?_
    refine ca_v (Q := fun vs H2 => spRun K (vs ++ []) H2 _ _) rfl (ca_v rfl (ca_n ⟨n, l, g, jv, cs, es, t, rfl, nt, G, fj5, hist, hlen, fun H6 fr6 nt6 => ⟨true, rfl, ?_⟩⟩))
    rw [if_neg (by decide)]
    have tk6 : TK H5 H6 := nt.tk fr6
    have fg6 := fg5.tk tk6 (tb_eG _)
    have fj6 := fj5.tk tk6 (tb_cmds _)
    have fe6 := fe5.tk tk6 (tb_eNsT _)
    have lt6 := lt5.frO tk6 fr6 hno
    have hsa6 : sa ∉ [n, l] := fun hm => by
      rcases List.mem_cons.mp hm with e | hm
      · exact hn1.1 e.symm
      · exact hn2.1 (List.mem_singleton.mp hm).symm
    have hsc6 : sc ∉ [n, l] := fun hm => by
      rcases List.mem_cons.mp hm with e | hm
      · exact hn1.2 e.symm
      · exact hn2.2 (List.mem_singleton.mp hm).symm
    have st6 : ST H6 sa sc := st5.fr fr6 hsa6 hsc6
    obtain ⟨dx, gv', cv', tv', xs', xa', A6, en6, _⟩ := id nt6.ex
    have hel := hist.len
    have hcok := hist.ok
    refine s_asgK (m_go (at_var rfl) en6 rfl ea_nil fun vs7 H7 s7 f7 => ?_)
    cases f7
    refine ⟨n, l, g, t, cs, es, rfl, nt6.same s7, hel, by omega, fun rv H8 s8 frv => ?_⟩
    have s78 := s7.trans s8
    have fg8 := fg6.same s78
    have fj8 := fj6.same s78
    have fe8 := fe6.same s78
    have lt8 := lt6.same s78
    have st8 := st6.same s78
    have iv := hist.iv G (by omega)
    have hphi := iv.phi
    have hway := way_phi G iv.good
    have tbR : tupB (.tuple ((recsOf cs es).map Rec.enc)) = true := by
      refine recs_tb (g := g) fun r hr => ?_
      obtain ⟨p, hp, rfl⟩ := List.mem_map.mp hr
      exact ⟨p.1, p.2, rfl, hcok _ (List.of_mem_zip (show (p.1, p.2) ∈ _ from hp)).1⟩
    have hrs : ∀ r ∈ recsOf cs es, ∃ c e, r = Rec.ok c (.int ((e : Nat) : Int)) ∧ CmdOK g c := fun r hr => by
      obtain ⟨p, hp, rfl⟩ := List.mem_map.mp hr
      exact ⟨p.1, p.2, rfl, hcok _ (List.of_mem_zip (show (p.1, p.2) ∈ _ from hp)).1⟩
    have hvs : ValS g (.recs (recsOf cs es)) := ⟨by rw [recs_len hel]; omega, recs_s hcok⟩
    have hval : valR g (.recs (recsOf cs es)) = true := by
      show runR g (emptyT g) (recsOf cs es) = true
      rw [runR_S, hist.run]
      rfl
    have eEq : EF (tCall (spP (R_eq 5)) [] C8.E0 (tCons (tVar 8) (tCons (tCB (rTupQ K) (tCons (tLc (iRng1 (tCons (tCB (rLenQ K) (tCons (tVar 4) tNil)) tNil)) (gName 12) tYes (tTup (tCons (tOp (rIxT K) (tVar 4) (tVar 12)) (tCons (tOp (rIxT K) (tVar 5) (tVar 12)) tNil))) [12]) tNil)) tNil)))
        [some (.ref p0), some (.ref sa), some gv, some tv, some jv, some ev, some (.ref a), some (.ref n), some rv, none, none, none, none] H8 (.bool true) :=
      e_call (ea_cons (e_var rfl frv) (ea_cons (EF.is (e_tupL (EL.ef (el_map1 (xs := List.range cs.length) (enc := eN) (g := fun i => PyData.tuple [(cs.getD i .stl).enc, eN (es.getD i 0)]) (w_rng1 (n := cs.length) (ea_cons (EF.is (e_lenT (e_var rfl fj8)) (by rw [List.length_map])) ea_nil) (by omega)) (by rw [List.length_range]; omega) (fun i _ => by simp [tupB, tupsB, tb_cmd]) (fun i hi y1 H9 s9 g1 =>
        e_tup (ea_cons (e_ixT (e_var rfl (fj8.same s9)) (e_var rfl g1) (cmd_at (List.mem_range.mp hi))) (ea_cons (e_ixT (e_var rfl (fe8.same s9)) (e_var rfl g1) (n_at (by rw [hel]; exact List.mem_range.mp hi))) ea_nil)))))) (by rw [recs_range hel])) ea_nil)) ⟨_, _, true, rfl, .inr (.inr ⟨rfl, fl_recs hcok hel hlen, rfl⟩), rfl⟩
    refine s_ifQ (b := false) ((t_or (b := false) (c := false) (t_not (b := true) (t_B eEq)) fun _ => ?_).is rfl) (fun h => nomatch h) fun _ H9 s9 => ?_
    · intro H9 s9 Q9 q9
      show tCall (spARt K) [] _ (tCons (tVar 2) (tCons (tVar 8) tNil)) _ _ _
      refine ca_v (Q := fun vs H2 => spARt K (vs ++ []) H2 _ _) rfl (ca_v rfl (ca_n ⟨gv, g, rv, .recs (recsOf cs es), rfl, fg8.same s9, G, frv.same s9, (hvs.ok G).1, fun H10 s10 => ?_⟩))
      rw [hval]
      exact ⟨true, true, rfl, rfl, _, rfl, q9 H10 s10⟩
    · have fg9 := fg8.same s9
      have st9 := st8.same s9
      have lt9 := lt8.same s9
      have frv9 := frv.same s9
      refine s_forT (xs := List.range 5) (enc := eN) (wt_rng1 (n := 5) (ea_cons (EF.is e_int rfl) ea_nil) (by decide)) (fun B i σ' H' => ∃ o9 o10, σ' = [some (.ref p0), some (.ref sa), some gv, some tv, some jv, some ev, some (.ref a), some (.ref n), some rv, o9, o10, none, none] ∧ Fr [sa] H9 H' ∧ Fr [sa] B H' ∧ ST H' sa sc)
        (fun B sB => ⟨_, _, rfl, Fr.same sB, Fr.refl _ _, st9.same sB⟩) (fun B i σ' H' sB ⟨_, _, _, _, fr, _⟩ => (st9.same sB).tk fr) ?_ ?_
      · rintro B i x σ' H' y H10 sB hi ⟨o9, o10, rfl, frH, frB, stH⟩ s10 fy
        show tSeq _ _ _ [some (.ref p0), some (.ref sa), some gv, some tv, some jv, some ev, some (.ref a), some (.ref n), some rv, some y, o10, none, none] H10
        have st10 := stH.same s10
        have frH10 := frH.trans (Fr.same (fp := [sa]) s10)
        have frB10 := frB.trans (Fr.same (fp := [sa]) s10)
        have tk10 := st9.tk frH10
        refine s_asgK ?_
        show tCall spTurn [] _ (tCons (tVar 1) (tCons (tVar 2) (tCons (tVar 6) (tCons (tVar 8) tNil)))) _ _ _
        refine ca_v (Q := fun vs H2 => spTurn (vs ++ []) H2 _ _) rfl (ca_v rfl (ca_v rfl (ca_v rfl (ca_n ⟨sa, sc, gv, a, A, g, t, rv, recsOf cs es, rfl, st10, fg9.tk tk10 (tb_eG _), G, lt9.frS st9 frH10 hsa, iv.good.tabs, by omega, hsa, frv9.tk tk10 tbR, hrs, by rw [recs_len hel]; exact hlen, fun v val H11 hv fr11 st11 fv => ?_⟩))))
        have frH11 := frH10.trans fr11
        have fg11 : Fz H11 gv (eG g) := fg9.tk (st9.tk frH11) (tb_eG _)
        obtain ⟨ho1, ho2⟩ := hv.ok G
        refine s_ifNC ?_
        refine ca_c ?_
        refine ca_v (Q := fun vs H2 => spARt K (vs ++ []) H2 _ _) rfl (ca_v rfl (ca_n ⟨gv, g, v, val, rfl, fg11, G, fv, ho1, fun H12 s12 => ?_⟩))
        refine ca_c ?_
        refine ca_v (Q := fun vs H2 => spLRt (vs ++ []) H2 _ _) rfl (ca_v rfl (ca_n ⟨gv, g, v, val, rfl, fg11.same s12, G, fv.same s12, ho2, fun H13 s13 => ca_n ?_⟩))
        refine ⟨[.bool (valR g val), .bool (valR g val)], .bool true, .cons (.bl _) (.cons (.bl _) .nil), ⟨_, _, true, rfl, .inr (.inl ⟨_, _, rfl, rfl, by simp⟩), rfl⟩, fun u H14 s14 f14 => ?_⟩
        obtain rfl := f14.blI
        refine ⟨true, rfl, ?_⟩
        rw [if_neg (by decide)]
        have s114 := (s12.trans s13).trans s14
        exact ⟨_, _, rfl, frH11.trans (Fr.same s114), (frB10.trans fr11).trans (Fr.same s114), st11.same s114⟩
      · rintro B σ' H' sB ⟨o9, o10, rfl, frH, frB, stH⟩
        exact k H'
end
end Tt

/-! The head and the law put together. -/
namespace Tt
open PySem PySem.Spec PyProof.Rows L2
theorem facts_law {P : Program} {w : World} {K : PySem.W.Frag} {h : Heap} {mg : Str → Option Value} {f : Addr} (X : K.In h) (G : h.Ns mainGlobals mg) (hfa : mg ("law" : Str) = some (.ref f)) (c : He.SaysD fa fn K) (ux : uxB K = true) :
    ∃ fd : FuncData, (∀ (s : Shared) (v : Value), BindsTo s fd ⟨[v], []⟩ [("_law_script", v)]) ∧ ∀ base : Heap, K.In base → base.Ns mainGlobals mg → FnOk P w K mg base CX0 13 f fd ["_law_script"] (spLaw K) := by
  have T : Tx K mg := ⟨c, h, X, G⟩
  obtain ⟨fd, F⟩ := c.def_ 62 (d := d_law) rfl
  have e := hfa.symm.trans (T.glo 62 rfl)
  cases e
  have b := FunD.bindsA (ps := ["_law_script"]) F fun _ _ _ _ _ _ us hl => match us, hl with | [_], _ => rfl
  exact ⟨fd, fun s v => b s [v] rfl, fun base _ _ => okD F sc_law (fun vs H Q E ⟨_, _, e, _⟩ => by rw [e]; rfl) (body_law T (uxB_ok ux) _)⟩
end Tt
open PySem PySem.W PySem.Calls PyProof.Rows
theorem PySem.Challenge.cw_tabletalk_k76_whole_records_by_whomever_holds : PySem.Challenge.rw_tabletalk_k76_whole_records_by_whomever.Holds := by
  w_on; o_law
  refine HandSHeadRun.head_any (r := OpenLaw.row PySem.Challenge.rw_tabletalk_k76_whole_records_by_whomever) (q := view (OpenLaw.row PySem.Challenge.rw_tabletalk_k76_whole_records_by_whomever).prog [84]) (H := Tt.hookU) (ob := Tt.obU) (M := 8000) (loose := Tt.names) (d := HandSHeadRun.topDef (OpenLaw.row PySem.Challenge.rw_tabletalk_k76_whole_records_by_whomever).prog 84) (kwd := []) Tt.obU_eq
    (by kernel_rfl) (fun s => by kernel_rfl) Tt.runU (by kernel_rfl) (by kernel_rfl) (by kernel_rfl) (by rfl) (by first | assumption | decide +kernel) (by decide +kernel) ⟨rfl, rfl, rfl, rfl, rfl, by decide +kernel⟩ ?hw ?hc
  case hw => w_witness2
  case hc =>
    refine L2.walk_ofE (l := PySem.Challenge.rw_tabletalk_k76_whole_records_by_whomever) (n := 63) (k := 13) (x := "_law_script") (CX := L2.CX0) rfl (by decide) (by kernel_rfl) ⟨rfl, by decide, by decide⟩ ?F (fun _ _ _ _ z => z)
    intro w mg fa h Y G hmg0
    obtain ⟨K, KX, ux, c⟩ := Y
    have hmg : mg ("law" : PySem.Str) = some (.ref fa) := by
      have e : (HandSHeadRun.topDef (OpenLaw.row PySem.Challenge.rw_tabletalk_k76_whole_records_by_whomever).prog 84).name = ("law" : PySem.Str) := by kernel_rfl
      rw [← e]
      exact hmg0
    obtain ⟨fd, hb, hF⟩ := Tt.facts_law (P := (PySem.Challenge.rw_tabletalk_k76_whole_records_by_whomever).prog) (w := w) KX G hmg c ux
    exact ⟨K, fd, Tt.spLaw K, KX, hb, fun H a ns hl _ hS => ⟨a, ns, rfl, hS, fun _ => rfl⟩, hF⟩
